import PyProof.Rows.All
import Wide.All
import OpenK.AllK
import Wide.FinOn
import HandS.ForMost
import HandS.Exc
import HandS.Defaults
import HandS.Codes
import HandS.HeadHook1
import HandS.HeadHook2
import HandS.IsInst
import HandS.Evl
import HandS.Deep
import HandS.Star
import HandS.Zip
import HandS.TupAny
import HandS.Conv
import HandS.Wide
import HandS.Style
import HandS.Flow
import HandS.TryOnly
import HandS.ExcOwn
import HandS.WordsExc
import KE.KTupSum
import HandS.TupMul
import HandS.ExcIs
import HandS.ExcField
import HandS.ExcValue
import HandS.Small
import HandS.DictComp
import KE.GoesMore
import HandS.WordsDict
import KE.KExcInit
import PyProof.ExcBaseAll.LookupError
import KE.KTryMore
import KE.KExcIs
import HandS.MakeKw
import KE.KStateDown
import HandS.Head0
import HandS.Head1
import HandS.Head2
import HandS.HeadEnd
import PySem.Challenge.RW_regroups_k79_whole_least_and_greatest_be
set_option Elab.async false
set_option linter.all false
set_option maxRecDepth 100000
set_option maxHeartbeats 4000000
namespace RG
open PySem PySem.Spec PyProof.Rows L2
/-- the statements of the text's top, by place -/
def top (i : Nat) : Stmt := PySem.Challenge.pw_regroups_k79_whole_least_and_greatest_be.main.body.getD i (.Pass ⟨0, 0, 0, 0⟩)
abbrev s_NN_init : Stmt := (inClass (top 3) 0)
abbrev n_NN_init : List Str := ["self", "number"]
abbrev p_NN_init : List Str := ["self", "number"]
theorem sc_NN_init : FnScope n_NN_init p_NN_init (defScope s_NN_init) := C8.fnScope_by (by decide +kernel)
abbrev s_tidy : Stmt := (top 7)
abbrev n_tidy : List Str := ["thing", "part"]
abbrev p_tidy : List Str := ["thing"]
theorem sc_tidy : FnScope n_tidy p_tidy (defScope s_tidy) := C8.fnScope_by (by decide +kernel)
abbrev s_is_number : Stmt := (top 8)
abbrev n_is_number : List Str := ["thing"]
abbrev p_is_number : List Str := ["thing"]
theorem sc_is_number : FnScope n_is_number p_is_number (defScope s_is_number) := C8.fnScope_by (by decide +kernel)
abbrev s_fraction : Stmt := (top 9)
abbrev n_fraction : List Str := ["top", "below", "one", "other"]
abbrev p_fraction : List Str := ["top", "below"]
theorem sc_fraction : FnScope n_fraction p_fraction (defScope s_fraction) := C8.fnScope_by (by decide +kernel)
abbrev s_factors_from : Stmt := (top 12)
abbrev n_factors_from : List Str := ["thing", "first", "middle"]
abbrev p_factors_from : List Str := ["thing", "first"]
theorem sc_factors_from : FnScope n_factors_from p_factors_from (defScope s_factors_from) := C8.fnScope_by (by decide +kernel)
abbrev s_is_grouping : Stmt := (top 13)
abbrev n_is_grouping : List Str := ["thing"]
abbrev p_is_grouping : List Str := ["thing"]
theorem sc_is_grouping : FnScope n_is_grouping p_is_grouping (defScope s_is_grouping) := C8.fnScope_by (by decide +kernel)
abbrev s_ends : Stmt := (top 14)
abbrev n_ends : List Str := ["grouping", "one", "other"]
abbrev p_ends : List Str := ["grouping"]
theorem sc_ends : FnScope n_ends p_ends (defScope s_ends) := C8.fnScope_by (by decide +kernel)
abbrev s_factors_in : Stmt := (top 15)
abbrev n_factors_in : List Str := ["grouping"]
abbrev p_factors_in : List Str := ["grouping"]
theorem sc_factors_in : FnScope n_factors_in p_factors_in (defScope s_factors_in) := C8.fnScope_by (by decide +kernel)
abbrev s_spans : Stmt := (top 16)
abbrev n_spans : List Str := ["grouping", "left", "right", "first", "join"]
abbrev p_spans : List Str := ["grouping"]
theorem sc_spans : FnScope n_spans p_spans (defScope s_spans) := C8.fnScope_by (by decide +kernel)
abbrev s_reaches : Stmt := (top 17)
abbrev n_reaches : List Str := ["grouping", "first", "join", "last"]
abbrev p_reaches : List Str := ["grouping"]
theorem sc_reaches : FnScope n_reaches p_reaches (defScope s_reaches) := C8.fnScope_by (by decide +kernel)
abbrev s_stretches : Stmt := (top 19)
abbrev n_stretches : List Str := ["factors", "size", "first"]
abbrev p_stretches : List Str := ["factors"]
theorem sc_stretches : FnScope n_stretches p_stretches (defScope s_stretches) := C8.fnScope_by (by decide +kernel)
abbrev s_singles : Stmt := (top 20)
abbrev n_singles : List Str := ["factors", "first"]
abbrev p_singles : List Str := ["factors"]
theorem sc_singles : FnScope n_singles p_singles (defScope s_singles) := C8.fnScope_by (by decide +kernel)
abbrev s_limits : Stmt := (top 21)
abbrev n_limits : List Str := ["factors", "low", "high", "own", "least", "most", "found", "mine", "its"]
abbrev p_limits : List Str := ["factors", "low", "high"]
theorem sc_limits : FnScope n_limits p_limits (defScope s_limits) := C8.fnScope_by (by decide +kernel)
abbrev s_tops_between : Stmt := (top 22)
abbrev n_tops_between : List Str := ["factors", "rows", "found", "first", "last", "join"]
abbrev p_tops_between : List Str := ["factors", "rows"]
theorem sc_tops_between : FnScope n_tops_between p_tops_between (defScope s_tops_between) := C8.fnScope_by (by decide +kernel)
abbrev s_counted : Stmt := (top 23)
abbrev n_counted : List Str := ["factors", "tops", "found", "span", "first", "last", "join"]
abbrev p_counted : List Str := ["factors", "tops"]
theorem sc_counted : FnScope n_counted p_counted (defScope s_counted) := C8.fnScope_by (by decide +kernel)
abbrev s_nth_of : Stmt := (top 24)
abbrev n_nth_of : List Str := ["tops", "many", "span", "number", "first", "last", "rest", "join", "block", "mine", "its"]
abbrev p_nth_of : List Str := ["tops", "many", "span", "number"]
theorem sc_nth_of : FnScope n_nth_of p_nth_of (defScope s_nth_of) := C8.fnScope_by (by decide +kernel)
abbrev s_pair_prices : Stmt := (top 26)
abbrev n_pair_prices : List Str := ["factors", "sizes", "weights", "extra", "found", "first", "last", "join", "price"]
abbrev p_pair_prices : List Str := ["factors", "sizes", "weights", "extra"]
theorem sc_pair_prices : FnScope n_pair_prices p_pair_prices (defScope s_pair_prices) := C8.fnScope_by (by decide +kernel)
abbrev s_P_init : Stmt := (inClass (top 27) 0)
abbrev n_P_init : List Str := ["self", "factors", "sizes", "weights", "brackets", "extra", "first", "last", "price", "end"]
abbrev p_P_init : List Str := ["self", "factors", "sizes", "weights", "brackets"]
theorem sc_P_init : FnScope n_P_init p_P_init (defScope s_P_init) := C8.fnScope_by (by decide +kernel)
abbrev s_P_check : Stmt := (inClass (top 27) 5)
abbrev n_P_check : List Str := ["self", "grouping"]
abbrev p_P_check : List Str := ["self", "grouping"]
theorem sc_P_check : FnScope n_P_check p_P_check (defScope s_P_check) := C8.fnScope_by (by decide +kernel)
abbrev s_P_of : Stmt := (inClass (top 27) 6)
abbrev n_P_of : List Str := ["self", "grouping", "triple"]
abbrev p_P_of : List Str := ["self", "grouping"]
theorem sc_P_of : FnScope n_P_of p_P_of (defScope s_P_of) := C8.fnScope_by (by decide +kernel)
abbrev s_P_tops : Stmt := (inClass (top 27) 8)
abbrev n_P_tops : List Str := ["self", "low", "high"]
abbrev p_P_tops : List Str := ["self", "low", "high"]
theorem sc_P_tops : FnScope n_P_tops p_P_tops (defScope s_P_tops) := C8.fnScope_by (by decide +kernel)
abbrev s_P_best : Stmt := (inClass (top 27) 9)
abbrev n_P_best : List Str := ["self", "tops", "side", "found", "joins", "first", "last", "sums", "join", "mine", "its", "span", "own"]
abbrev p_P_best : List Str := ["self", "tops", "side"]
theorem sc_P_best : FnScope n_P_best p_P_best (defScope s_P_best) := C8.fnScope_by (by decide +kernel)
abbrev s_P_least : Stmt := (inClass (top 27) 10)
abbrev n_P_least : List Str := ["self", "low", "high"]
abbrev p_P_least : List Str := ["self", "low", "high"]
theorem sc_P_least : FnScope n_P_least p_P_least (defScope s_P_least) := C8.fnScope_by (by decide +kernel)
abbrev s_P_greatest : Stmt := (inClass (top 27) 11)
abbrev n_P_greatest : List Str := ["self", "low", "high"]
abbrev p_P_greatest : List Str := ["self", "low", "high"]
theorem sc_P_greatest : FnScope n_P_greatest p_P_greatest (defScope s_P_greatest) := C8.fnScope_by (by decide +kernel)
abbrev s_P_cheapest_tops : Stmt := (inClass (top 27) 12)
abbrev n_P_cheapest_tops : List Str := ["self", "low", "high"]
abbrev p_P_cheapest_tops : List Str := ["self", "low", "high"]
theorem sc_P_cheapest_tops : FnScope n_P_cheapest_tops p_P_cheapest_tops (defScope s_P_cheapest_tops) := C8.fnScope_by (by decide +kernel)
abbrev s_P_how_many : Stmt := (inClass (top 27) 13)
abbrev n_P_how_many : List Str := ["self", "low", "high"]
abbrev p_P_how_many : List Str := ["self", "low", "high"]
theorem sc_P_how_many : FnScope n_P_how_many p_P_how_many (defScope s_P_how_many) := C8.fnScope_by (by decide +kernel)
abbrev s_P_cheapest : Stmt := (inClass (top 27) 14)
abbrev n_P_cheapest : List Str := ["self", "number", "low", "high", "tops", "many", "whole"]
abbrev p_P_cheapest : List Str := ["self", "number", "low", "high"]
theorem sc_P_cheapest : FnScope n_P_cheapest p_P_cheapest (defScope s_P_cheapest) := C8.fnScope_by (by decide +kernel)
abbrev s_P_is_cheapest : Stmt := (inClass (top 27) 15)
abbrev n_P_is_cheapest : List Str := ["self", "thing", "low", "high", "least", "rows", "inside", "row", "reach"]
abbrev p_P_is_cheapest : List Str := ["self", "thing", "low", "high"]
theorem sc_P_is_cheapest : FnScope n_P_is_cheapest p_P_is_cheapest (defScope s_P_is_cheapest) := C8.fnScope_by (by decide +kernel)
abbrev s_P_mean : Stmt := (inClass (top 27) 16)
abbrev n_P_mean : List Str := ["self", "low", "high", "tops", "many", "sums", "first", "last", "found", "join", "mine", "its", "span"]
abbrev p_P_mean : List Str := ["self", "low", "high"]
theorem sc_P_mean : FnScope n_P_mean p_P_mean (defScope s_P_mean) := C8.fnScope_by (by decide +kernel)
abbrev s_L_box : Stmt := (top 29)
abbrev n_L_box : List Str := ["_law_script", "_law_k", "_law_cell"]
abbrev p_L_box : List Str := ["_law_script", "_law_k"]
theorem sc_L_box : FnScope n_L_box p_L_box (defScope s_L_box) := C8.fnScope_by (by decide +kernel)
abbrev s_L_take : Stmt := (top 30)
abbrev n_L_take : List Str := ["_law_box_here", "_law_below", "_law_digit_so", "_law_once", "_law_odd", "_law_twice"]
abbrev p_L_take : List Str := ["_law_box_here", "_law_below"]
theorem sc_L_take : FnScope n_L_take p_L_take (defScope s_L_take) := C8.fnScope_by (by decide +kernel)
abbrev s_L_cells : Stmt := (top 31)
abbrev n_L_cells : List Str := ["_law_script", "_law_most_so", "_law_cells_here", "_law_k", "_law_cell", "_law_at_so"]
abbrev p_L_cells : List Str := ["_law_script", "_law_most_so"]
theorem sc_L_cells : FnScope n_L_cells p_L_cells (defScope s_L_cells) := C8.fnScope_by (by decide +kernel)
abbrev s_L_of : Stmt := (top 32)
abbrev n_L_of : List Str := ["_law_box_here", "_law_some"]
abbrev p_L_of : List Str := ["_law_box_here", "_law_some"]
theorem sc_L_of : FnScope n_L_of p_L_of (defScope s_L_of) := C8.fnScope_by (by decide +kernel)
abbrev s_L_mixed : Stmt := (top 33)
abbrev n_L_mixed : List Str := ["_law_box_here", "_law_matter", "_law_bits", "_law_bit"]
abbrev p_L_mixed : List Str := ["_law_box_here", "_law_matter"]
theorem sc_L_mixed : FnScope n_L_mixed p_L_mixed (defScope s_L_mixed) := C8.fnScope_by (by decide +kernel)
abbrev s_L_same : Stmt := (top 34)
abbrev n_L_same : List Str := ["_law_got", "_law_due", "_law_mine", "_law_its"]
abbrev p_L_same : List Str := ["_law_got", "_law_due"]
theorem sc_L_same : FnScope n_L_same p_L_same (defScope s_L_same) := C8.fnScope_by (by decide +kernel)
abbrev s_L_fraction : Stmt := (top 35)
abbrev n_L_fraction : List Str := ["_law_top", "_law_bottom", "_law_near", "_law_far"]
abbrev p_L_fraction : List Str := ["_law_top", "_law_bottom"]
theorem sc_L_fraction : FnScope n_L_fraction p_L_fraction (defScope s_L_fraction) := C8.fnScope_by (by decide +kernel)
abbrev s_L_ends : Stmt := (top 36)
abbrev n_L_ends : List Str := ["_law_tree_so", "_law_one_so", "_law_two_so"]
abbrev p_L_ends : List Str := ["_law_tree_so"]
theorem sc_L_ends : FnScope n_L_ends p_L_ends (defScope s_L_ends) := C8.fnScope_by (by decide +kernel)
abbrev s_L_pairs : Stmt := (top 37)
abbrev n_L_pairs : List Str := ["_law_tree_so", "_law_first_so", "_law_cut_so"]
abbrev p_L_pairs : List Str := ["_law_tree_so"]
theorem sc_L_pairs : FnScope n_L_pairs p_L_pairs (defScope s_L_pairs) := C8.fnScope_by (by decide +kernel)
abbrev s_L_arms : Stmt := (top 38)
abbrev n_L_arms : List Str := ["_law_tree_so", "_law_own"]
abbrev p_L_arms : List Str := ["_law_tree_so"]
theorem sc_L_arms : FnScope n_L_arms p_L_arms (defScope s_L_arms) := C8.fnScope_by (by decide +kernel)
abbrev s_L_every : Stmt := (top 39)
abbrev n_L_every : List Str := ["_law_first_so", "_law_last_so", "_law_found", "_law_cut_so", "_law_its", "_law_own", "_law_far"]
abbrev p_L_every : List Str := ["_law_first_so", "_law_last_so"]
theorem sc_L_every : FnScope n_L_every p_L_every (defScope s_L_every) := C8.fnScope_by (by decide +kernel)
abbrev s_L_goes : Stmt := (top 40)
abbrev n_L_goes : List Str := ["_law_one_so", "_law_far_so", "_law_mine", "_law_its"]
abbrev p_L_goes : List Str := ["_law_one_so", "_law_far_so"]
theorem sc_L_goes : FnScope n_L_goes p_L_goes (defScope s_L_goes) := C8.fnScope_by (by decide +kernel)
abbrev s_L_costs : Stmt := (top 41)
abbrev n_L_costs : List Str := ["_law_box_here", "_law_many_so", "_law_way_so", "_law_top_so", "_law_turn", "_law_dims_so", "_law_loads_so", "_law_found", "_law_first_so"]
abbrev p_L_costs : List Str := ["_law_box_here", "_law_many_so"]
theorem sc_L_costs : FnScope n_L_costs p_L_costs (defScope s_L_costs) := C8.fnScope_by (by decide +kernel)
abbrev s_L_pays : Stmt := (top 42)
abbrev n_L_pays : List Str := ["_law_tree_so", "_law_costs_so", "_law_dims_so", "_law_loads_so", "_law_extra_so", "_law_found", "_law_first_so", "_law_cut_so", "_law_last_so", "_law_side_so", "_law_own"]
abbrev p_L_pays : List Str := ["_law_tree_so", "_law_costs_so"]
theorem sc_L_pays : FnScope n_L_pays p_L_pays (defScope s_L_pays) := C8.fnScope_by (by decide +kernel)
abbrev s_L_host : Stmt := (top 43)
abbrev n_L_host : List Str := ["_law_many_so", "_law_costs_so"]
abbrev p_L_host : List Str := ["_law_many_so", "_law_costs_so"]
theorem sc_L_host : FnScope n_L_host p_L_host (defScope s_L_host) := C8.fnScope_by (by decide +kernel)
abbrev s_L_heard : Stmt := (top 44)
abbrev n_L_heard : List Str := ["_law_host_here", "_law_k", "_law_low_so", "_law_high_so", "_law_got", "_law_caught", "error_so"]
abbrev p_L_heard : List Str := ["_law_host_here", "_law_k", "_law_low_so", "_law_high_so"]
theorem sc_L_heard : FnScope n_L_heard p_L_heard (defScope s_L_heard) := C8.fnScope_by (by decide +kernel)
abbrev s_L_by_hand_right : Stmt := (top 45)
abbrev n_L_by_hand_right : List Str := ["_law_left", "_law_near", "_law_twos", "_law_far", "_law_right_here", "_law_mats", "_law_heavy", "_law_flat", "_law_got", "_law_due", "_law_things", "_law_k", "_law_own"]
abbrev p_L_by_hand_right : List Str := []
theorem sc_L_by_hand_right : FnScope n_L_by_hand_right p_L_by_hand_right (defScope s_L_by_hand_right) := C8.fnScope_by (by decide +kernel)
abbrev s_L_asked_right : Stmt := (top 46)
abbrev n_L_asked_right : List Str := ["_law_host_here", "_law_costs_so", "_law_low_so", "_law_high_so", "_law_rows_so", "_law_every_here", "_law_pays_so", "_law_best_so", "_law_got", "_law_own", "_law_price", "_law_k"]
abbrev p_L_asked_right : List Str := ["_law_host_here", "_law_costs_so", "_law_low_so", "_law_high_so", "_law_rows_so", "_law_every_here"]
theorem sc_L_asked_right : FnScope n_L_asked_right p_L_asked_right (defScope s_L_asked_right) := C8.fnScope_by (by decide +kernel)
abbrev s_L_right : Stmt := (top 47)
abbrev n_L_right : List Str := ["_law_box_here", "_law_turn", "_law_many_so", "_law_costs_so", "_law_every_here", "_law_host_here", "_law_low_so", "_law_high_so", "_law_rows_so", "_law_own"]
abbrev p_L_right : List Str := ["_law_box_here"]
theorem sc_L_right : FnScope n_L_right p_L_right (defScope s_L_right) := C8.fnScope_by (by decide +kernel)
abbrev s_law : Stmt := (top 48)
abbrev n_law : List Str := ["_law_script", "_law_cells_here", "_law_k"]
abbrev p_law : List Str := ["_law_script"]
theorem sc_law : FnScope n_law p_law (defScope s_law) := C8.fnScope_by (by decide +kernel)
def d_NN_init : He.DefD := ⟨("NoNumber", some "__init__"), "__init__", "NoNumber.__init__", defArgs s_NN_init, defBody s_NN_init, defScope s_NN_init, [], []⟩
def d_tidy : He.DefD := ⟨("tidy", none), "tidy", "tidy", defArgs s_tidy, defBody s_tidy, defScope s_tidy, [], []⟩
def d_is_number : He.DefD := ⟨("is_number", none), "is_number", "is_number", defArgs s_is_number, defBody s_is_number, defScope s_is_number, [], []⟩
def d_fraction : He.DefD := ⟨("fraction", none), "fraction", "fraction", defArgs s_fraction, defBody s_fraction, defScope s_fraction, [], []⟩
def d_factors_from : He.DefD := ⟨("factors_from", none), "factors_from", "factors_from", defArgs s_factors_from, defBody s_factors_from, defScope s_factors_from, [], []⟩
def d_is_grouping : He.DefD := ⟨("is_grouping", none), "is_grouping", "is_grouping", defArgs s_is_grouping, defBody s_is_grouping, defScope s_is_grouping, [], []⟩
def d_ends : He.DefD := ⟨("ends", none), "ends", "ends", defArgs s_ends, defBody s_ends, defScope s_ends, [], []⟩
def d_factors_in : He.DefD := ⟨("factors_in", none), "factors_in", "factors_in", defArgs s_factors_in, defBody s_factors_in, defScope s_factors_in, [], []⟩
def d_spans : He.DefD := ⟨("spans", none), "spans", "spans", defArgs s_spans, defBody s_spans, defScope s_spans, [], []⟩
def d_reaches : He.DefD := ⟨("reaches", none), "reaches", "reaches", defArgs s_reaches, defBody s_reaches, defScope s_reaches, [], []⟩
def d_stretches : He.DefD := ⟨("stretches", none), "stretches", "stretches", defArgs s_stretches, defBody s_stretches, defScope s_stretches, [], []⟩
def d_singles : He.DefD := ⟨("singles", none), "singles", "singles", defArgs s_singles, defBody s_singles, defScope s_singles, [], []⟩
def d_limits : He.DefD := ⟨("limits", none), "limits", "limits", defArgs s_limits, defBody s_limits, defScope s_limits, [], []⟩
def d_tops_between : He.DefD := ⟨("tops_between", none), "tops_between", "tops_between", defArgs s_tops_between, defBody s_tops_between, defScope s_tops_between, [], []⟩
def d_counted : He.DefD := ⟨("counted", none), "counted", "counted", defArgs s_counted, defBody s_counted, defScope s_counted, [], []⟩
def d_nth_of : He.DefD := ⟨("nth_of", none), "nth_of", "nth_of", defArgs s_nth_of, defBody s_nth_of, defScope s_nth_of, [], []⟩
def d_pair_prices : He.DefD := ⟨("pair_prices", none), "pair_prices", "pair_prices", defArgs s_pair_prices, defBody s_pair_prices, defScope s_pair_prices, [], []⟩
def d_P_init : He.DefD := ⟨("Prices", some "__init__"), "__init__", "Prices.__init__", defArgs s_P_init, defBody s_P_init, defScope s_P_init, [.non, .non, .adr (He.dflAt ("Prices", some "__init__") 2)], []⟩
def d_P_check : He.DefD := ⟨("Prices", some "check"), "check", "Prices.check", defArgs s_P_check, defBody s_P_check, defScope s_P_check, [], []⟩
def d_P_of : He.DefD := ⟨("Prices", some "of"), "of", "Prices.of", defArgs s_P_of, defBody s_P_of, defScope s_P_of, [], []⟩
def d_P_tops : He.DefD := ⟨("Prices", some "tops"), "tops", "Prices.tops", defArgs s_P_tops, defBody s_P_tops, defScope s_P_tops, [], []⟩
def d_P_best : He.DefD := ⟨("Prices", some "best"), "best", "Prices.best", defArgs s_P_best, defBody s_P_best, defScope s_P_best, [], []⟩
def d_P_least : He.DefD := ⟨("Prices", some "least"), "least", "Prices.least", defArgs s_P_least, defBody s_P_least, defScope s_P_least, [.non, .non], []⟩
def d_P_greatest : He.DefD := ⟨("Prices", some "greatest"), "greatest", "Prices.greatest", defArgs s_P_greatest, defBody s_P_greatest, defScope s_P_greatest, [.non, .non], []⟩
def d_P_cheapest_tops : He.DefD := ⟨("Prices", some "cheapest_tops"), "cheapest_tops", "Prices.cheapest_tops", defArgs s_P_cheapest_tops, defBody s_P_cheapest_tops, defScope s_P_cheapest_tops, [], []⟩
def d_P_how_many : He.DefD := ⟨("Prices", some "how_many"), "how_many", "Prices.how_many", defArgs s_P_how_many, defBody s_P_how_many, defScope s_P_how_many, [.non, .non], []⟩
def d_P_cheapest : He.DefD := ⟨("Prices", some "cheapest"), "cheapest", "Prices.cheapest", defArgs s_P_cheapest, defBody s_P_cheapest, defScope s_P_cheapest, [.int 0, .non, .non], []⟩
def d_P_is_cheapest : He.DefD := ⟨("Prices", some "is_cheapest"), "is_cheapest", "Prices.is_cheapest", defArgs s_P_is_cheapest, defBody s_P_is_cheapest, defScope s_P_is_cheapest, [.non, .non], []⟩
def d_P_mean : He.DefD := ⟨("Prices", some "mean"), "mean", "Prices.mean", defArgs s_P_mean, defBody s_P_mean, defScope s_P_mean, [.non, .non], []⟩
def d_L_box : He.DefD := ⟨("_law_box", none), "_law_box", "_law_box", defArgs s_L_box, defBody s_L_box, defScope s_L_box, [], []⟩
def d_L_take : He.DefD := ⟨("_law_take", none), "_law_take", "_law_take", defArgs s_L_take, defBody s_L_take, defScope s_L_take, [], []⟩
def d_L_cells : He.DefD := ⟨("_law_cells", none), "_law_cells", "_law_cells", defArgs s_L_cells, defBody s_L_cells, defScope s_L_cells, [], []⟩
def d_L_of : He.DefD := ⟨("_law_of", none), "_law_of", "_law_of", defArgs s_L_of, defBody s_L_of, defScope s_L_of, [], []⟩
def d_L_mixed : He.DefD := ⟨("_law_mixed", none), "_law_mixed", "_law_mixed", defArgs s_L_mixed, defBody s_L_mixed, defScope s_L_mixed, [], []⟩
def d_L_same : He.DefD := ⟨("_law_same", none), "_law_same", "_law_same", defArgs s_L_same, defBody s_L_same, defScope s_L_same, [], []⟩
def d_L_fraction : He.DefD := ⟨("_law_fraction", none), "_law_fraction", "_law_fraction", defArgs s_L_fraction, defBody s_L_fraction, defScope s_L_fraction, [], []⟩
def d_L_ends : He.DefD := ⟨("_law_ends", none), "_law_ends", "_law_ends", defArgs s_L_ends, defBody s_L_ends, defScope s_L_ends, [], []⟩
def d_L_pairs : He.DefD := ⟨("_law_pairs", none), "_law_pairs", "_law_pairs", defArgs s_L_pairs, defBody s_L_pairs, defScope s_L_pairs, [], []⟩
def d_L_arms : He.DefD := ⟨("_law_arms", none), "_law_arms", "_law_arms", defArgs s_L_arms, defBody s_L_arms, defScope s_L_arms, [], []⟩
def d_L_every : He.DefD := ⟨("_law_every", none), "_law_every", "_law_every", defArgs s_L_every, defBody s_L_every, defScope s_L_every, [], []⟩
def d_L_goes : He.DefD := ⟨("_law_goes", none), "_law_goes", "_law_goes", defArgs s_L_goes, defBody s_L_goes, defScope s_L_goes, [], []⟩
def d_L_costs : He.DefD := ⟨("_law_costs", none), "_law_costs", "_law_costs", defArgs s_L_costs, defBody s_L_costs, defScope s_L_costs, [], []⟩
def d_L_pays : He.DefD := ⟨("_law_pays", none), "_law_pays", "_law_pays", defArgs s_L_pays, defBody s_L_pays, defScope s_L_pays, [], []⟩
def d_L_host : He.DefD := ⟨("_law_host", none), "_law_host", "_law_host", defArgs s_L_host, defBody s_L_host, defScope s_L_host, [], []⟩
def d_L_heard : He.DefD := ⟨("_law_heard", none), "_law_heard", "_law_heard", defArgs s_L_heard, defBody s_L_heard, defScope s_L_heard, [], []⟩
def d_L_by_hand_right : He.DefD := ⟨("_law_by_hand_right", none), "_law_by_hand_right", "_law_by_hand_right", defArgs s_L_by_hand_right, defBody s_L_by_hand_right, defScope s_L_by_hand_right, [], []⟩
def d_L_asked_right : He.DefD := ⟨("_law_asked_right", none), "_law_asked_right", "_law_asked_right", defArgs s_L_asked_right, defBody s_L_asked_right, defScope s_L_asked_right, [], []⟩
def d_L_right : He.DefD := ⟨("_law_right", none), "_law_right", "_law_right", defArgs s_L_right, defBody s_L_right, defScope s_L_right, [], []⟩
def d_law : He.DefD := ⟨("law", none), "law", "law", defArgs s_law, defBody s_law, defScope s_law, [], []⟩
def fn : List He.DefD := [d_NN_init, d_tidy, d_is_number, d_fraction, d_factors_from, d_is_grouping, d_ends, d_factors_in, d_spans, d_reaches, d_stretches, d_singles, d_limits, d_tops_between, d_counted, d_nth_of, d_pair_prices, d_P_init, d_P_check, d_P_of, d_P_tops, d_P_best, d_P_least, d_P_greatest, d_P_cheapest_tops, d_P_how_many, d_P_cheapest, d_P_is_cheapest, d_P_mean, d_L_box, d_L_take, d_L_cells, d_L_of, d_L_mixed, d_L_same, d_L_fraction, d_L_ends, d_L_pairs, d_L_arms, d_L_every, d_L_goes, d_L_costs, d_L_pays, d_L_host, d_L_heard, d_L_by_hand_right, d_L_asked_right, d_L_right, d_law]
def fa : List He.Fa := [.glo "NoNumber", .glo "Unlike", .glo "NotBehind", .glo "tidy", .glo "is_number", .glo "fraction", .int "PAIR" 2, .glo "factors_from", .glo "is_grouping", .glo "ends", .glo "factors_in", .glo "spans", .glo "reaches", .glo "stretches", .glo "singles", .glo "limits", .glo "tops_between", .glo "counted", .glo "nth_of", .glo "pair_prices", .glo "Prices", .glo "_law_box", .glo "_law_take", .glo "_law_cells", .glo "_law_of", .glo "_law_mixed", .glo "_law_same", .glo "_law_fraction", .glo "_law_ends", .glo "_law_pairs", .glo "_law_arms", .glo "_law_every", .glo "_law_goes", .glo "_law_costs", .glo "_law_pays", .glo "_law_host", .glo "_law_heard", .glo "_law_by_hand_right", .glo "_law_asked_right", .glo "_law_right", .glo "law", .free "isinstance", .free "len", .free "range", .free "tuple", .free "list", .free "int", .free "bool", .free "str", .free "abs", .free "sum", .free "min", .free "max", .free "any", .free "all", .free "zip", .free "enumerate", .free "LookupError", .free "ValueError", .cls "Prices", .mkr "Prices", .noat "Prices" "own_factors", .noat "Prices" "own_sizes", .noat "Prices" "own_weights", .noat "Prices" "own_pairs", .meth "Prices" "check", .meth "Prices" "of", .meth "Prices" "tops", .meth "Prices" "best", .meth "Prices" "least", .meth "Prices" "greatest", .meth "Prices" "cheapest_tops", .meth "Prices" "how_many", .meth "Prices" "cheapest", .meth "Prices" "is_cheapest", .meth "Prices" "mean", .exc "Unlike", .exc "NotBehind"]
/-- what the top leaves, by names -/
structure Txt (K : PySem.W.Frag) (mg : Str → Option Value) : Prop where
  g_NoNumber : mg "NoNumber" = some (.ref (He.ga K "NoNumber"))
  g_Unlike : mg "Unlike" = some (.ref (He.ga K "Unlike"))
  g_NotBehind : mg "NotBehind" = some (.ref (He.ga K "NotBehind"))
  g_tidy : mg "tidy" = some (.ref (He.ga K "tidy"))
  g_is_number : mg "is_number" = some (.ref (He.ga K "is_number"))
  g_fraction : mg "fraction" = some (.ref (He.ga K "fraction"))
  g_PAIR : ∃ t, mg "PAIR" = some (.int 2 t)
  g_factors_from : mg "factors_from" = some (.ref (He.ga K "factors_from"))
  g_is_grouping : mg "is_grouping" = some (.ref (He.ga K "is_grouping"))
  g_ends : mg "ends" = some (.ref (He.ga K "ends"))
  g_factors_in : mg "factors_in" = some (.ref (He.ga K "factors_in"))
  g_spans : mg "spans" = some (.ref (He.ga K "spans"))
  g_reaches : mg "reaches" = some (.ref (He.ga K "reaches"))
  g_stretches : mg "stretches" = some (.ref (He.ga K "stretches"))
  g_singles : mg "singles" = some (.ref (He.ga K "singles"))
  g_limits : mg "limits" = some (.ref (He.ga K "limits"))
  g_tops_between : mg "tops_between" = some (.ref (He.ga K "tops_between"))
  g_counted : mg "counted" = some (.ref (He.ga K "counted"))
  g_nth_of : mg "nth_of" = some (.ref (He.ga K "nth_of"))
  g_pair_prices : mg "pair_prices" = some (.ref (He.ga K "pair_prices"))
  g_Prices : mg "Prices" = some (.ref (He.ga K "Prices"))
  g_L_box : mg "_law_box" = some (.ref (He.ga K "_law_box"))
  g_L_take : mg "_law_take" = some (.ref (He.ga K "_law_take"))
  g_L_cells : mg "_law_cells" = some (.ref (He.ga K "_law_cells"))
  g_L_of : mg "_law_of" = some (.ref (He.ga K "_law_of"))
  g_L_mixed : mg "_law_mixed" = some (.ref (He.ga K "_law_mixed"))
  g_L_same : mg "_law_same" = some (.ref (He.ga K "_law_same"))
  g_L_fraction : mg "_law_fraction" = some (.ref (He.ga K "_law_fraction"))
  g_L_ends : mg "_law_ends" = some (.ref (He.ga K "_law_ends"))
  g_L_pairs : mg "_law_pairs" = some (.ref (He.ga K "_law_pairs"))
  g_L_arms : mg "_law_arms" = some (.ref (He.ga K "_law_arms"))
  g_L_every : mg "_law_every" = some (.ref (He.ga K "_law_every"))
  g_L_goes : mg "_law_goes" = some (.ref (He.ga K "_law_goes"))
  g_L_costs : mg "_law_costs" = some (.ref (He.ga K "_law_costs"))
  g_L_pays : mg "_law_pays" = some (.ref (He.ga K "_law_pays"))
  g_L_host : mg "_law_host" = some (.ref (He.ga K "_law_host"))
  g_L_heard : mg "_law_heard" = some (.ref (He.ga K "_law_heard"))
  g_L_by_hand_right : mg "_law_by_hand_right" = some (.ref (He.ga K "_law_by_hand_right"))
  g_L_asked_right : mg "_law_asked_right" = some (.ref (He.ga K "_law_asked_right"))
  g_L_right : mg "_law_right" = some (.ref (He.ga K "_law_right"))
  g_law : mg "law" = some (.ref (He.ga K "law"))
  f_isinstance : mg "isinstance" = none
  f_len : mg "len" = none
  f_range : mg "range" = none
  f_tuple : mg "tuple" = none
  f_list : mg "list" = none
  f_int : mg "int" = none
  f_bool : mg "bool" = none
  f_str : mg "str" = none
  f_abs : mg "abs" = none
  f_sum : mg "sum" = none
  f_min : mg "min" = none
  f_max : mg "max" = none
  f_any : mg "any" = none
  f_all : mg "all" = none
  f_zip : mg "zip" = none
  f_enumerate : mg "enumerate" = none
  f_LookupError : mg "LookupError" = none
  f_ValueError : mg "ValueError" = none
  cP : Cls K (He.ga K "Prices")
  mkP : Mk K (He.ga K "Prices") (He.ma K (He.ga K "Prices") "__init__")
  nt_own_factors : NoAttr K (He.ga K "Prices") "own_factors"
  nt_own_sizes : NoAttr K (He.ga K "Prices") "own_sizes"
  nt_own_weights : NoAttr K (He.ga K "Prices") "own_weights"
  nt_own_pairs : NoAttr K (He.ga K "Prices") "own_pairs"
  m_check : Meth K (He.ga K "Prices") "check" (He.ma K (He.ga K "Prices") "check")
  m_of : Meth K (He.ga K "Prices") "of" (He.ma K (He.ga K "Prices") "of")
  m_tops : Meth K (He.ga K "Prices") "tops" (He.ma K (He.ga K "Prices") "tops")
  m_best : Meth K (He.ga K "Prices") "best" (He.ma K (He.ga K "Prices") "best")
  m_least : Meth K (He.ga K "Prices") "least" (He.ma K (He.ga K "Prices") "least")
  m_greatest : Meth K (He.ga K "Prices") "greatest" (He.ma K (He.ga K "Prices") "greatest")
  m_cheapest_tops : Meth K (He.ga K "Prices") "cheapest_tops" (He.ma K (He.ga K "Prices") "cheapest_tops")
  m_how_many : Meth K (He.ga K "Prices") "how_many" (He.ma K (He.ga K "Prices") "how_many")
  m_cheapest : Meth K (He.ga K "Prices") "cheapest" (He.ma K (He.ga K "Prices") "cheapest")
  m_is_cheapest : Meth K (He.ga K "Prices") "is_cheapest" (He.ma K (He.ga K "Prices") "is_cheapest")
  m_mean : Meth K (He.ga K "Prices") "mean" (He.ma K (He.ga K "Prices") "mean")
  x_Unlike : PySem.W.excIn K (He.ga K "Unlike") He.veBase "ValueError.__new__" = true ∧ PySem.W.keepIn K (.ref (He.ga K "Unlike")) = true ∧ PySem.W.subIn K (.ref (He.ga K "Unlike")) (.type "BaseException") = some true ∧ PySem.W.typeIn K (.ref (He.ga K "Unlike")) = some (.type "type")
  x_NotBehind : PySem.W.excIn K (He.ga K "NotBehind") He.veBase "ValueError.__new__" = true ∧ PySem.W.keepIn K (.ref (He.ga K "NotBehind")) = true ∧ PySem.W.subIn K (.ref (He.ga K "NotBehind")) (.type "BaseException") = some true ∧ PySem.W.typeIn K (.ref (He.ga K "NotBehind")) = some (.type "type")
  F_NN_init : ∃ fd, FunD K "__init__" "NoNumber.__init__" (defArgs s_NN_init) (defBody s_NN_init) (defScope s_NN_init) (d_NN_init.dvs K) (d_NN_init.kws K) (He.fAd K ("NoNumber", some "__init__")) fd
  F_tidy : ∃ fd, FunD K "tidy" "tidy" (defArgs s_tidy) (defBody s_tidy) (defScope s_tidy) (d_tidy.dvs K) (d_tidy.kws K) (He.fAd K ("tidy", none)) fd
  F_is_number : ∃ fd, FunD K "is_number" "is_number" (defArgs s_is_number) (defBody s_is_number) (defScope s_is_number) (d_is_number.dvs K) (d_is_number.kws K) (He.fAd K ("is_number", none)) fd
  F_fraction : ∃ fd, FunD K "fraction" "fraction" (defArgs s_fraction) (defBody s_fraction) (defScope s_fraction) (d_fraction.dvs K) (d_fraction.kws K) (He.fAd K ("fraction", none)) fd
  F_factors_from : ∃ fd, FunD K "factors_from" "factors_from" (defArgs s_factors_from) (defBody s_factors_from) (defScope s_factors_from) (d_factors_from.dvs K) (d_factors_from.kws K) (He.fAd K ("factors_from", none)) fd
  F_is_grouping : ∃ fd, FunD K "is_grouping" "is_grouping" (defArgs s_is_grouping) (defBody s_is_grouping) (defScope s_is_grouping) (d_is_grouping.dvs K) (d_is_grouping.kws K) (He.fAd K ("is_grouping", none)) fd
  F_ends : ∃ fd, FunD K "ends" "ends" (defArgs s_ends) (defBody s_ends) (defScope s_ends) (d_ends.dvs K) (d_ends.kws K) (He.fAd K ("ends", none)) fd
  F_factors_in : ∃ fd, FunD K "factors_in" "factors_in" (defArgs s_factors_in) (defBody s_factors_in) (defScope s_factors_in) (d_factors_in.dvs K) (d_factors_in.kws K) (He.fAd K ("factors_in", none)) fd
  F_spans : ∃ fd, FunD K "spans" "spans" (defArgs s_spans) (defBody s_spans) (defScope s_spans) (d_spans.dvs K) (d_spans.kws K) (He.fAd K ("spans", none)) fd
  F_reaches : ∃ fd, FunD K "reaches" "reaches" (defArgs s_reaches) (defBody s_reaches) (defScope s_reaches) (d_reaches.dvs K) (d_reaches.kws K) (He.fAd K ("reaches", none)) fd
  F_stretches : ∃ fd, FunD K "stretches" "stretches" (defArgs s_stretches) (defBody s_stretches) (defScope s_stretches) (d_stretches.dvs K) (d_stretches.kws K) (He.fAd K ("stretches", none)) fd
  F_singles : ∃ fd, FunD K "singles" "singles" (defArgs s_singles) (defBody s_singles) (defScope s_singles) (d_singles.dvs K) (d_singles.kws K) (He.fAd K ("singles", none)) fd
  F_limits : ∃ fd, FunD K "limits" "limits" (defArgs s_limits) (defBody s_limits) (defScope s_limits) (d_limits.dvs K) (d_limits.kws K) (He.fAd K ("limits", none)) fd
  F_tops_between : ∃ fd, FunD K "tops_between" "tops_between" (defArgs s_tops_between) (defBody s_tops_between) (defScope s_tops_between) (d_tops_between.dvs K) (d_tops_between.kws K) (He.fAd K ("tops_between", none)) fd
  F_counted : ∃ fd, FunD K "counted" "counted" (defArgs s_counted) (defBody s_counted) (defScope s_counted) (d_counted.dvs K) (d_counted.kws K) (He.fAd K ("counted", none)) fd
  F_nth_of : ∃ fd, FunD K "nth_of" "nth_of" (defArgs s_nth_of) (defBody s_nth_of) (defScope s_nth_of) (d_nth_of.dvs K) (d_nth_of.kws K) (He.fAd K ("nth_of", none)) fd
  F_pair_prices : ∃ fd, FunD K "pair_prices" "pair_prices" (defArgs s_pair_prices) (defBody s_pair_prices) (defScope s_pair_prices) (d_pair_prices.dvs K) (d_pair_prices.kws K) (He.fAd K ("pair_prices", none)) fd
  F_P_init : ∃ fd, FunD K "__init__" "Prices.__init__" (defArgs s_P_init) (defBody s_P_init) (defScope s_P_init) (d_P_init.dvs K) (d_P_init.kws K) (He.fAd K ("Prices", some "__init__")) fd
  F_P_check : ∃ fd, FunD K "check" "Prices.check" (defArgs s_P_check) (defBody s_P_check) (defScope s_P_check) (d_P_check.dvs K) (d_P_check.kws K) (He.fAd K ("Prices", some "check")) fd
  F_P_of : ∃ fd, FunD K "of" "Prices.of" (defArgs s_P_of) (defBody s_P_of) (defScope s_P_of) (d_P_of.dvs K) (d_P_of.kws K) (He.fAd K ("Prices", some "of")) fd
  F_P_tops : ∃ fd, FunD K "tops" "Prices.tops" (defArgs s_P_tops) (defBody s_P_tops) (defScope s_P_tops) (d_P_tops.dvs K) (d_P_tops.kws K) (He.fAd K ("Prices", some "tops")) fd
  F_P_best : ∃ fd, FunD K "best" "Prices.best" (defArgs s_P_best) (defBody s_P_best) (defScope s_P_best) (d_P_best.dvs K) (d_P_best.kws K) (He.fAd K ("Prices", some "best")) fd
  F_P_least : ∃ fd, FunD K "least" "Prices.least" (defArgs s_P_least) (defBody s_P_least) (defScope s_P_least) (d_P_least.dvs K) (d_P_least.kws K) (He.fAd K ("Prices", some "least")) fd
  F_P_greatest : ∃ fd, FunD K "greatest" "Prices.greatest" (defArgs s_P_greatest) (defBody s_P_greatest) (defScope s_P_greatest) (d_P_greatest.dvs K) (d_P_greatest.kws K) (He.fAd K ("Prices", some "greatest")) fd
  F_P_cheapest_tops : ∃ fd, FunD K "cheapest_tops" "Prices.cheapest_tops" (defArgs s_P_cheapest_tops) (defBody s_P_cheapest_tops) (defScope s_P_cheapest_tops) (d_P_cheapest_tops.dvs K) (d_P_cheapest_tops.kws K) (He.fAd K ("Prices", some "cheapest_tops")) fd
  F_P_how_many : ∃ fd, FunD K "how_many" "Prices.how_many" (defArgs s_P_how_many) (defBody s_P_how_many) (defScope s_P_how_many) (d_P_how_many.dvs K) (d_P_how_many.kws K) (He.fAd K ("Prices", some "how_many")) fd
  F_P_cheapest : ∃ fd, FunD K "cheapest" "Prices.cheapest" (defArgs s_P_cheapest) (defBody s_P_cheapest) (defScope s_P_cheapest) (d_P_cheapest.dvs K) (d_P_cheapest.kws K) (He.fAd K ("Prices", some "cheapest")) fd
  F_P_is_cheapest : ∃ fd, FunD K "is_cheapest" "Prices.is_cheapest" (defArgs s_P_is_cheapest) (defBody s_P_is_cheapest) (defScope s_P_is_cheapest) (d_P_is_cheapest.dvs K) (d_P_is_cheapest.kws K) (He.fAd K ("Prices", some "is_cheapest")) fd
  F_P_mean : ∃ fd, FunD K "mean" "Prices.mean" (defArgs s_P_mean) (defBody s_P_mean) (defScope s_P_mean) (d_P_mean.dvs K) (d_P_mean.kws K) (He.fAd K ("Prices", some "mean")) fd
  F_L_box : ∃ fd, FunD K "_law_box" "_law_box" (defArgs s_L_box) (defBody s_L_box) (defScope s_L_box) (d_L_box.dvs K) (d_L_box.kws K) (He.fAd K ("_law_box", none)) fd
  F_L_take : ∃ fd, FunD K "_law_take" "_law_take" (defArgs s_L_take) (defBody s_L_take) (defScope s_L_take) (d_L_take.dvs K) (d_L_take.kws K) (He.fAd K ("_law_take", none)) fd
  F_L_cells : ∃ fd, FunD K "_law_cells" "_law_cells" (defArgs s_L_cells) (defBody s_L_cells) (defScope s_L_cells) (d_L_cells.dvs K) (d_L_cells.kws K) (He.fAd K ("_law_cells", none)) fd
  F_L_of : ∃ fd, FunD K "_law_of" "_law_of" (defArgs s_L_of) (defBody s_L_of) (defScope s_L_of) (d_L_of.dvs K) (d_L_of.kws K) (He.fAd K ("_law_of", none)) fd
  F_L_mixed : ∃ fd, FunD K "_law_mixed" "_law_mixed" (defArgs s_L_mixed) (defBody s_L_mixed) (defScope s_L_mixed) (d_L_mixed.dvs K) (d_L_mixed.kws K) (He.fAd K ("_law_mixed", none)) fd
  F_L_same : ∃ fd, FunD K "_law_same" "_law_same" (defArgs s_L_same) (defBody s_L_same) (defScope s_L_same) (d_L_same.dvs K) (d_L_same.kws K) (He.fAd K ("_law_same", none)) fd
  F_L_fraction : ∃ fd, FunD K "_law_fraction" "_law_fraction" (defArgs s_L_fraction) (defBody s_L_fraction) (defScope s_L_fraction) (d_L_fraction.dvs K) (d_L_fraction.kws K) (He.fAd K ("_law_fraction", none)) fd
  F_L_ends : ∃ fd, FunD K "_law_ends" "_law_ends" (defArgs s_L_ends) (defBody s_L_ends) (defScope s_L_ends) (d_L_ends.dvs K) (d_L_ends.kws K) (He.fAd K ("_law_ends", none)) fd
  F_L_pairs : ∃ fd, FunD K "_law_pairs" "_law_pairs" (defArgs s_L_pairs) (defBody s_L_pairs) (defScope s_L_pairs) (d_L_pairs.dvs K) (d_L_pairs.kws K) (He.fAd K ("_law_pairs", none)) fd
  F_L_arms : ∃ fd, FunD K "_law_arms" "_law_arms" (defArgs s_L_arms) (defBody s_L_arms) (defScope s_L_arms) (d_L_arms.dvs K) (d_L_arms.kws K) (He.fAd K ("_law_arms", none)) fd
  F_L_every : ∃ fd, FunD K "_law_every" "_law_every" (defArgs s_L_every) (defBody s_L_every) (defScope s_L_every) (d_L_every.dvs K) (d_L_every.kws K) (He.fAd K ("_law_every", none)) fd
  F_L_goes : ∃ fd, FunD K "_law_goes" "_law_goes" (defArgs s_L_goes) (defBody s_L_goes) (defScope s_L_goes) (d_L_goes.dvs K) (d_L_goes.kws K) (He.fAd K ("_law_goes", none)) fd
  F_L_costs : ∃ fd, FunD K "_law_costs" "_law_costs" (defArgs s_L_costs) (defBody s_L_costs) (defScope s_L_costs) (d_L_costs.dvs K) (d_L_costs.kws K) (He.fAd K ("_law_costs", none)) fd
  F_L_pays : ∃ fd, FunD K "_law_pays" "_law_pays" (defArgs s_L_pays) (defBody s_L_pays) (defScope s_L_pays) (d_L_pays.dvs K) (d_L_pays.kws K) (He.fAd K ("_law_pays", none)) fd
  F_L_host : ∃ fd, FunD K "_law_host" "_law_host" (defArgs s_L_host) (defBody s_L_host) (defScope s_L_host) (d_L_host.dvs K) (d_L_host.kws K) (He.fAd K ("_law_host", none)) fd
  F_L_heard : ∃ fd, FunD K "_law_heard" "_law_heard" (defArgs s_L_heard) (defBody s_L_heard) (defScope s_L_heard) (d_L_heard.dvs K) (d_L_heard.kws K) (He.fAd K ("_law_heard", none)) fd
  F_L_by_hand_right : ∃ fd, FunD K "_law_by_hand_right" "_law_by_hand_right" (defArgs s_L_by_hand_right) (defBody s_L_by_hand_right) (defScope s_L_by_hand_right) (d_L_by_hand_right.dvs K) (d_L_by_hand_right.kws K) (He.fAd K ("_law_by_hand_right", none)) fd
  F_L_asked_right : ∃ fd, FunD K "_law_asked_right" "_law_asked_right" (defArgs s_L_asked_right) (defBody s_L_asked_right) (defScope s_L_asked_right) (d_L_asked_right.dvs K) (d_L_asked_right.kws K) (He.fAd K ("_law_asked_right", none)) fd
  F_L_right : ∃ fd, FunD K "_law_right" "_law_right" (defArgs s_L_right) (defBody s_L_right) (defScope s_L_right) (d_L_right.dvs K) (d_L_right.kws K) (He.fAd K ("_law_right", none)) fd
  F_law : ∃ fd, FunD K "law" "law" (defArgs s_law) (defBody s_law) (defScope s_law) (d_law.dvs K) (d_law.kws K) (He.fAd K ("law", none)) fd
theorem txt_of {K : PySem.W.Frag} {h : Heap} {mg : Str → Option Value} (X : K.In h) (G : h.Ns mainGlobals mg) (c : He.SaysD fa fn K) : Txt K mg where
  g_NoNumber := He.glo_ok X G (c.fact 0 rfl)
  g_Unlike := He.glo_ok X G (c.fact 1 rfl)
  g_NotBehind := He.glo_ok X G (c.fact 2 rfl)
  g_tidy := He.glo_ok X G (c.fact 3 rfl)
  g_is_number := He.glo_ok X G (c.fact 4 rfl)
  g_fraction := He.glo_ok X G (c.fact 5 rfl)
  g_PAIR := He.int_ok X G (c.fact 6 rfl)
  g_factors_from := He.glo_ok X G (c.fact 7 rfl)
  g_is_grouping := He.glo_ok X G (c.fact 8 rfl)
  g_ends := He.glo_ok X G (c.fact 9 rfl)
  g_factors_in := He.glo_ok X G (c.fact 10 rfl)
  g_spans := He.glo_ok X G (c.fact 11 rfl)
  g_reaches := He.glo_ok X G (c.fact 12 rfl)
  g_stretches := He.glo_ok X G (c.fact 13 rfl)
  g_singles := He.glo_ok X G (c.fact 14 rfl)
  g_limits := He.glo_ok X G (c.fact 15 rfl)
  g_tops_between := He.glo_ok X G (c.fact 16 rfl)
  g_counted := He.glo_ok X G (c.fact 17 rfl)
  g_nth_of := He.glo_ok X G (c.fact 18 rfl)
  g_pair_prices := He.glo_ok X G (c.fact 19 rfl)
  g_Prices := He.glo_ok X G (c.fact 20 rfl)
  g_L_box := He.glo_ok X G (c.fact 21 rfl)
  g_L_take := He.glo_ok X G (c.fact 22 rfl)
  g_L_cells := He.glo_ok X G (c.fact 23 rfl)
  g_L_of := He.glo_ok X G (c.fact 24 rfl)
  g_L_mixed := He.glo_ok X G (c.fact 25 rfl)
  g_L_same := He.glo_ok X G (c.fact 26 rfl)
  g_L_fraction := He.glo_ok X G (c.fact 27 rfl)
  g_L_ends := He.glo_ok X G (c.fact 28 rfl)
  g_L_pairs := He.glo_ok X G (c.fact 29 rfl)
  g_L_arms := He.glo_ok X G (c.fact 30 rfl)
  g_L_every := He.glo_ok X G (c.fact 31 rfl)
  g_L_goes := He.glo_ok X G (c.fact 32 rfl)
  g_L_costs := He.glo_ok X G (c.fact 33 rfl)
  g_L_pays := He.glo_ok X G (c.fact 34 rfl)
  g_L_host := He.glo_ok X G (c.fact 35 rfl)
  g_L_heard := He.glo_ok X G (c.fact 36 rfl)
  g_L_by_hand_right := He.glo_ok X G (c.fact 37 rfl)
  g_L_asked_right := He.glo_ok X G (c.fact 38 rfl)
  g_L_right := He.glo_ok X G (c.fact 39 rfl)
  g_law := He.glo_ok X G (c.fact 40 rfl)
  f_isinstance := He.free_ok X G (c.fact 41 rfl)
  f_len := He.free_ok X G (c.fact 42 rfl)
  f_range := He.free_ok X G (c.fact 43 rfl)
  f_tuple := He.free_ok X G (c.fact 44 rfl)
  f_list := He.free_ok X G (c.fact 45 rfl)
  f_int := He.free_ok X G (c.fact 46 rfl)
  f_bool := He.free_ok X G (c.fact 47 rfl)
  f_str := He.free_ok X G (c.fact 48 rfl)
  f_abs := He.free_ok X G (c.fact 49 rfl)
  f_sum := He.free_ok X G (c.fact 50 rfl)
  f_min := He.free_ok X G (c.fact 51 rfl)
  f_max := He.free_ok X G (c.fact 52 rfl)
  f_any := He.free_ok X G (c.fact 53 rfl)
  f_all := He.free_ok X G (c.fact 54 rfl)
  f_zip := He.free_ok X G (c.fact 55 rfl)
  f_enumerate := He.free_ok X G (c.fact 56 rfl)
  f_LookupError := He.free_ok X G (c.fact 57 rfl)
  f_ValueError := He.free_ok X G (c.fact 58 rfl)
  cP := He.cls_ok (c.fact 59 rfl)
  mkP := He.mkr_ok (c.fact 60 rfl)
  nt_own_factors := He.noat_ok (c.fact 61 rfl)
  nt_own_sizes := He.noat_ok (c.fact 62 rfl)
  nt_own_weights := He.noat_ok (c.fact 63 rfl)
  nt_own_pairs := He.noat_ok (c.fact 64 rfl)
  m_check := He.meth_ok (c.fact 65 rfl)
  m_of := He.meth_ok (c.fact 66 rfl)
  m_tops := He.meth_ok (c.fact 67 rfl)
  m_best := He.meth_ok (c.fact 68 rfl)
  m_least := He.meth_ok (c.fact 69 rfl)
  m_greatest := He.meth_ok (c.fact 70 rfl)
  m_cheapest_tops := He.meth_ok (c.fact 71 rfl)
  m_how_many := He.meth_ok (c.fact 72 rfl)
  m_cheapest := He.meth_ok (c.fact 73 rfl)
  m_is_cheapest := He.meth_ok (c.fact 74 rfl)
  m_mean := He.meth_ok (c.fact 75 rfl)
  x_Unlike := He.exc_ok (c.fact 76 rfl)
  x_NotBehind := He.exc_ok (c.fact 77 rfl)
  F_NN_init := c.def_ 0 (d := d_NN_init) rfl
  F_tidy := c.def_ 1 (d := d_tidy) rfl
  F_is_number := c.def_ 2 (d := d_is_number) rfl
  F_fraction := c.def_ 3 (d := d_fraction) rfl
  F_factors_from := c.def_ 4 (d := d_factors_from) rfl
  F_is_grouping := c.def_ 5 (d := d_is_grouping) rfl
  F_ends := c.def_ 6 (d := d_ends) rfl
  F_factors_in := c.def_ 7 (d := d_factors_in) rfl
  F_spans := c.def_ 8 (d := d_spans) rfl
  F_reaches := c.def_ 9 (d := d_reaches) rfl
  F_stretches := c.def_ 10 (d := d_stretches) rfl
  F_singles := c.def_ 11 (d := d_singles) rfl
  F_limits := c.def_ 12 (d := d_limits) rfl
  F_tops_between := c.def_ 13 (d := d_tops_between) rfl
  F_counted := c.def_ 14 (d := d_counted) rfl
  F_nth_of := c.def_ 15 (d := d_nth_of) rfl
  F_pair_prices := c.def_ 16 (d := d_pair_prices) rfl
  F_P_init := c.def_ 17 (d := d_P_init) rfl
  F_P_check := c.def_ 18 (d := d_P_check) rfl
  F_P_of := c.def_ 19 (d := d_P_of) rfl
  F_P_tops := c.def_ 20 (d := d_P_tops) rfl
  F_P_best := c.def_ 21 (d := d_P_best) rfl
  F_P_least := c.def_ 22 (d := d_P_least) rfl
  F_P_greatest := c.def_ 23 (d := d_P_greatest) rfl
  F_P_cheapest_tops := c.def_ 24 (d := d_P_cheapest_tops) rfl
  F_P_how_many := c.def_ 25 (d := d_P_how_many) rfl
  F_P_cheapest := c.def_ 26 (d := d_P_cheapest) rfl
  F_P_is_cheapest := c.def_ 27 (d := d_P_is_cheapest) rfl
  F_P_mean := c.def_ 28 (d := d_P_mean) rfl
  F_L_box := c.def_ 29 (d := d_L_box) rfl
  F_L_take := c.def_ 30 (d := d_L_take) rfl
  F_L_cells := c.def_ 31 (d := d_L_cells) rfl
  F_L_of := c.def_ 32 (d := d_L_of) rfl
  F_L_mixed := c.def_ 33 (d := d_L_mixed) rfl
  F_L_same := c.def_ 34 (d := d_L_same) rfl
  F_L_fraction := c.def_ 35 (d := d_L_fraction) rfl
  F_L_ends := c.def_ 36 (d := d_L_ends) rfl
  F_L_pairs := c.def_ 37 (d := d_L_pairs) rfl
  F_L_arms := c.def_ 38 (d := d_L_arms) rfl
  F_L_every := c.def_ 39 (d := d_L_every) rfl
  F_L_goes := c.def_ 40 (d := d_L_goes) rfl
  F_L_costs := c.def_ 41 (d := d_L_costs) rfl
  F_L_pays := c.def_ 42 (d := d_L_pays) rfl
  F_L_host := c.def_ 43 (d := d_L_host) rfl
  F_L_heard := c.def_ 44 (d := d_L_heard) rfl
  F_L_by_hand_right := c.def_ 45 (d := d_L_by_hand_right) rfl
  F_L_asked_right := c.def_ 46 (d := d_L_asked_right) rfl
  F_L_right := c.def_ 47 (d := d_L_right) rfl
  F_law := c.def_ 48 (d := d_law) rfl
end RG

set_option Elab.async false
set_option linter.all false
set_option maxRecDepth 100000
set_option maxHeartbeats 4000000
namespace RG
open PySem PySem.Spec PyProof.Rows L2
abbrev Ex := Evl.Ex
theorem exr (H : Hp) : Ex H H := Evl.Ex.refl H
theorem b_isinstance : bootBuiltins "isinstance" = some (.builtin "isinstance") := by decide +kernel
theorem b_len : bootBuiltins "len" = some (.builtin "len") := by decide +kernel
theorem b_abs : bootBuiltins "abs" = some (.builtin "abs") := by decide +kernel
theorem b_sum : bootBuiltins "sum" = some (.builtin "sum") := by decide +kernel
theorem b_min : bootBuiltins "min" = some (.builtin "min") := by decide +kernel
theorem b_max : bootBuiltins "max" = some (.builtin "max") := by decide +kernel
theorem b_any : bootBuiltins "any" = some (.builtin "any") := by decide +kernel
theorem b_all : bootBuiltins "all" = some (.builtin "all") := by decide +kernel
theorem b_int : bootBuiltins "int" = some (.type "int") := by decide +kernel
theorem b_bool : bootBuiltins "bool" = some (.type "bool") := by decide +kernel
theorem b_str : bootBuiltins "str" = some (.type "str") := by decide +kernel
theorem b_list : bootBuiltins "list" = some (.type "list") := by decide +kernel
theorem b_tuple : bootBuiltins "tuple" = some (.type "tuple") := by decide +kernel
theorem b_LookupError : bootBuiltins "LookupError" = some (.type "LookupError") := by decide +kernel
theorem b_ValueError : bootBuiltins "ValueError" = some (.type "ValueError") := by decide +kernel

/-! ### defs by their names -/
structure DefOk (P : Program) (w : World) (K : PySem.W.Frag) (mg : Str → Option Value) (base : Heap) (CX : CXT) (x : Str) (ps : List Str) (k : Nat) (sp : Sp) : Prop where
  ex : ∃ f fd, mg x = some (.ref f) ∧ PySem.W.keepIn K (.ref f) = true ∧ Binds K fd ps [] ∧ FnOk P w K mg base CX k f fd ps sp
/-- a method of Prices, called with some of its arguments: dvs fill up -/
structure MetOk (P : Program) (w : World) (K : PySem.W.Frag) (mg : Str → Option Value) (base : Heap) (CX : CXT) (m : Str) (ps : List Str) (dvs : List V) (k : Nat) (sp : Sp) : Prop where
  ex : ∃ f fd ds, Meth K (He.ga K "Prices") m f ∧ Binds K fd ps ds ∧ Vals dvs ds ∧ FnOk P w K mg base CX k f fd ps sp
section
variable {P : Program} {w : World} {K : PySem.W.Frag} {mg : Str → Option Value} {base : Heap} {CX : CXT} {x m : Str} {ps : List Str} {j k : Nat} {sp sp' : Sp} {dvs : List V}
theorem DefOk.imp (D : DefOk P w K mg base CX x ps k sp) (h : ∀ vs H Q E, sp' vs H Q E → sp vs H Q E) : DefOk P w K mg base CX x ps k sp' := by
  obtain ⟨f, fd, h1, h2, h3, h4⟩ := D.ex
  exact ⟨f, fd, h1, h2, h3, h4.imp h⟩
theorem DefOk.mono (D : DefOk P w K mg base CX x ps j sp) (h : j ≤ k) : DefOk P w K mg base CX x ps k sp := by
  obtain ⟨f, fd, h1, h2, h3, h4⟩ := D.ex
  exact ⟨f, fd, h1, h2, h3, h4.mono h⟩
end
section
variable {X : Cx} {CX : CXT} {x m : Str} {ps : List Str} {k : Nat} {sp : Sp} {E : XK} {e o : Expr} {es : List Expr} {p pos apos : Pos} {t : TA} {ta : TE} {dvs : List V}
theorem pe_d (D : DefOk X.prog X.w X.K X.mg X.base CX x ps k sp) (hr : Room k X.A) (hx : Passes CX X E) (ha : PA X (e :: es) t) (hg : Gl X x := by rfl) (hdb : (x == ("__debug__" : Str)) = false := by decide)
    (he : starEach (e :: es) X.env = (false, eval e X.env) :: starEach es X.env := by rfl) (hpl : (backTo pos (starEach es X.env)).any (·.1) = false := by rfl) : PE X (.Call (.Name x p) (e :: es) [] pos) (tCall sp [] E t) := by
  obtain ⟨f, fd, hm, hk, hb, F⟩ := D.ex
  exact pe_call F hr hg hm hk hb .nil hx ha hdb he hpl
theorem pe_d0 (D : DefOk X.prog X.w X.K X.mg X.base CX x ps k sp) (hr : Room k X.A) (hx : Passes CX X E) (hg : Gl X x := by rfl) (hdb : (x == ("__debug__" : Str)) = false := by decide) : PE X (.Call (.Name x p) [] [] pos) (tCall sp [] E tNil) := by
  obtain ⟨f, fd, hm, hk, hb, F⟩ := D.ex
  exact pe_call0 F hr hg hm hk hb .nil hx hdb
theorem pe_md {K : PySem.W.Frag} {pl : Sem Bool} (he : PE X o ta) (c : Cls K (He.ga K "Prices")) (D : MetOk X.prog X.w K X.mg X.base CX m ps dvs k sp) (hr : Room k X.A) (hx : Passes CX X E) (ha : PA X (e :: es) t) (hK : X.K = K := by rfl)
    (hst : starEach (e :: es) X.env = (false, eval e X.env) :: starEach es X.env := by rfl) (hpl : (backTo pos (starEach es X.env)).any (·.1) = false := by rfl)
    (ht : eval (.Call (.Attribute o m apos) (e :: es) [] pos) X.env = (do
      let ov ← eval o X.env
      standAt apos.atName
      let (f, first) ← holding [ov] (getMethod ov m pl)
      callWith pos f first (backTo pos (starEach (e :: es) X.env)) (backToKw pos (keywordEach [] X.env))) := by rfl) :
    PE X (.Call (.Attribute o m apos) (e :: es) [] pos) (tMeth (He.ga K "Prices") m sp dvs E ta t) := by
  subst hK
  obtain ⟨f, fd, ds, hm, hb, hd, F⟩ := D.ex
  exact pe_meth he c hm F hr hb hd hx ha hst hpl ht
theorem pe_md0 {K : PySem.W.Frag} {pl : Sem Bool} (he : PE X o ta) (c : Cls K (He.ga K "Prices")) (D : MetOk X.prog X.w K X.mg X.base CX m ps dvs k sp) (hr : Room k X.A) (hx : Passes CX X E) (hK : X.K = K := by rfl)
    (ht : eval (.Call (.Attribute o m apos) [] [] pos) X.env = (do
      let ov ← eval o X.env
      standAt apos.atName
      let (f, first) ← holding [ov] (getMethod ov m pl)
      callWith pos f first (backTo pos (starEach [] X.env)) (backToKw pos (keywordEach [] X.env))) := by rfl) :
    PE X (.Call (.Attribute o m apos) [] [] pos) (tMeth (He.ga K "Prices") m sp dvs E ta tNil) := by
  subst hK
  obtain ⟨f, fd, ds, hm, hb, hd, F⟩ := D.ex
  exact pe_meth0 he c hm F hr hb hd hx ht
theorem pe_fldK {K : PySem.W.Frag} {f : Str} (he : PE X e ta) (hK : X.K = K := by rfl) (hb : attributeBase e f X.env (eval e X.env) = eval e X.env := by rfl) : PE X (.Attribute e f pos) (tFld K ta f) := by
  subst hK
  exact pe_fld he hb
end

/-! ### what stays when objects are added -/
section
variable {K : PySem.W.Frag} {H H' H1 : Hp} {a : Addr} {xs : List V} {v : V} {d : PyData}
mutual
theorem dp_ex (e : Ex H H') : ∀ {v : V} {d : PyData}, Dp K H v d → Dp K H' v d
  | _, _, .non => .non
  | _, _, .bl b => .bl b
  | _, _, .int i => .int i
  | _, _, .str x => .str x
  | _, _, .lst h a => .lst (Evl.ex_l e h) (dpa_ex e a)
  | _, _, .tup h a => .tup (Evl.ex_t e h) (dpa_ex e a)
theorem dpa_ex (e : Ex H H') : ∀ {vs : List V} {ds : List PyData}, DpAll K H vs ds → DpAll K H' vs ds
  | _, _, .nil => .nil
  | _, _, .cons h t => .cons (dp_ex e h) (dpa_ex e t)
end
theorem dpa_app {vs ws : List V} {ds es : List PyData} : DpAll K H vs ds → DpAll K H ws es → DpAll K H (vs ++ ws) (ds ++ es)
  | .nil, b => b
  | .cons h t, b => .cons h (dpa_app t b)
theorem dpa_len : ∀ {vs : List V} {ds : List PyData}, DpAll K H vs ds → vs.length = ds.length
  | _, _, .nil => rfl
  | _, _, .cons _ t => congrArg Nat.succ (dpa_len t)
theorem dpa_get : ∀ {vs : List V} {ds : List PyData} {i : Nat} {v : V}, DpAll K H vs ds → vs[i]? = some v → ∃ d, ds[i]? = some d ∧ Dp K H v d
  | _, _, _, _, .nil, h => by simp at h
  | _, _, 0, _, .cons h t, e => by
    simp at e
    subst e
    exact ⟨_, rfl, h⟩
  | _, _, i + 1, _, .cons h t, e => by
    obtain ⟨d, h1, h2⟩ := dpa_get (i := i) t (by simpa using e)
    exact ⟨d, by simpa using h1, h2⟩
/-- the kind of a thing -/
def dTy : PyData → String
  | .none => "NoneType"
  | .bool _ => "bool"
  | .int _ => "int"
  | .str _ => "str"
  | .list _ => "list"
  | .tuple _ => "tuple"
  | .dict _ => "dict"
theorem dp_ty (h : Dp K H v d) : TyX K H v (.type (dTy d)) := by
  cases h with
  | non => exact .base .non
  | bl b => exact .base (.bl b)
  | int i => exact .base (.int i)
  | str x => exact .base (.str x)
  | lst hs _ =>
    rcases hs with (h | ⟨o, h⟩) | ⟨o, its, n, hk, hc, _⟩
    · exact .base (.lst h)
    · exact .base (.frz h)
    · exact .kList hk hc
  | tup hs _ =>
    rcases hs with (h | ⟨o, h⟩) | ⟨o, its, n, hk, hc, _⟩
    · exact .base (.tup h)
    · exact .fTuple h
    · exact .kTuple hk hc
def isInt : PyData → Bool
  | .int _ => true
  | .bool _ => true
  | _ => false
def isBool : PyData → Bool
  | .bool _ => true
  | _ => false
def isStr : PyData → Bool
  | .str _ => true
  | _ => false
def isList : PyData → Bool
  | .list _ => true
  | _ => false
def isTup : PyData → Bool
  | .tuple _ => true
  | _ => false
theorem kb_NoneType_int : kitB "NoneType" "int" = some false := by decide +kernel
theorem kb_bool_int : kitB "bool" "int" = some true := by decide +kernel
theorem kb_int_int : kitB "int" "int" = some true := by decide +kernel
theorem kb_str_int : kitB "str" "int" = some false := by decide +kernel
theorem kb_list_int : kitB "list" "int" = some false := by decide +kernel
theorem kb_tuple_int : kitB "tuple" "int" = some false := by decide +kernel
theorem kb_dict_int : kitB "dict" "int" = some false := by decide +kernel
theorem kit_int : ∀ d : PyData, PySem.W.kitOne K (.type (dTy d)) (.type "int") = some (isInt d)
  | .none => kit_ty kb_NoneType_int
  | .bool _ => kit_ty kb_bool_int
  | .int _ => kit_ty kb_int_int
  | .str _ => kit_ty kb_str_int
  | .list _ => kit_ty kb_list_int
  | .tuple _ => kit_ty kb_tuple_int
  | .dict _ => kit_ty kb_dict_int
theorem kb_NoneType_bool : kitB "NoneType" "bool" = some false := by decide +kernel
theorem kb_bool_bool : kitB "bool" "bool" = some true := by decide +kernel
theorem kb_int_bool : kitB "int" "bool" = some false := by decide +kernel
theorem kb_str_bool : kitB "str" "bool" = some false := by decide +kernel
theorem kb_list_bool : kitB "list" "bool" = some false := by decide +kernel
theorem kb_tuple_bool : kitB "tuple" "bool" = some false := by decide +kernel
theorem kb_dict_bool : kitB "dict" "bool" = some false := by decide +kernel
theorem kit_bool : ∀ d : PyData, PySem.W.kitOne K (.type (dTy d)) (.type "bool") = some (isBool d)
  | .none => kit_ty kb_NoneType_bool
  | .bool _ => kit_ty kb_bool_bool
  | .int _ => kit_ty kb_int_bool
  | .str _ => kit_ty kb_str_bool
  | .list _ => kit_ty kb_list_bool
  | .tuple _ => kit_ty kb_tuple_bool
  | .dict _ => kit_ty kb_dict_bool
theorem kb_NoneType_str : kitB "NoneType" "str" = some false := by decide +kernel
theorem kb_bool_str : kitB "bool" "str" = some false := by decide +kernel
theorem kb_int_str : kitB "int" "str" = some false := by decide +kernel
theorem kb_str_str : kitB "str" "str" = some true := by decide +kernel
theorem kb_list_str : kitB "list" "str" = some false := by decide +kernel
theorem kb_tuple_str : kitB "tuple" "str" = some false := by decide +kernel
theorem kb_dict_str : kitB "dict" "str" = some false := by decide +kernel
theorem kit_str : ∀ d : PyData, PySem.W.kitOne K (.type (dTy d)) (.type "str") = some (isStr d)
  | .none => kit_ty kb_NoneType_str
  | .bool _ => kit_ty kb_bool_str
  | .int _ => kit_ty kb_int_str
  | .str _ => kit_ty kb_str_str
  | .list _ => kit_ty kb_list_str
  | .tuple _ => kit_ty kb_tuple_str
  | .dict _ => kit_ty kb_dict_str
theorem kb_NoneType_list : kitB "NoneType" "list" = some false := by decide +kernel
theorem kb_bool_list : kitB "bool" "list" = some false := by decide +kernel
theorem kb_int_list : kitB "int" "list" = some false := by decide +kernel
theorem kb_str_list : kitB "str" "list" = some false := by decide +kernel
theorem kb_list_list : kitB "list" "list" = some true := by decide +kernel
theorem kb_tuple_list : kitB "tuple" "list" = some false := by decide +kernel
theorem kb_dict_list : kitB "dict" "list" = some false := by decide +kernel
theorem kit_list : ∀ d : PyData, PySem.W.kitOne K (.type (dTy d)) (.type "list") = some (isList d)
  | .none => kit_ty kb_NoneType_list
  | .bool _ => kit_ty kb_bool_list
  | .int _ => kit_ty kb_int_list
  | .str _ => kit_ty kb_str_list
  | .list _ => kit_ty kb_list_list
  | .tuple _ => kit_ty kb_tuple_list
  | .dict _ => kit_ty kb_dict_list
theorem kb_NoneType_tuple : kitB "NoneType" "tuple" = some false := by decide +kernel
theorem kb_bool_tuple : kitB "bool" "tuple" = some false := by decide +kernel
theorem kb_int_tuple : kitB "int" "tuple" = some false := by decide +kernel
theorem kb_str_tuple : kitB "str" "tuple" = some false := by decide +kernel
theorem kb_list_tuple : kitB "list" "tuple" = some false := by decide +kernel
theorem kb_tuple_tuple : kitB "tuple" "tuple" = some true := by decide +kernel
theorem kb_dict_tuple : kitB "dict" "tuple" = some false := by decide +kernel
theorem kit_tuple : ∀ d : PyData, PySem.W.kitOne K (.type (dTy d)) (.type "tuple") = some (isTup d)
  | .none => kit_ty kb_NoneType_tuple
  | .bool _ => kit_ty kb_bool_tuple
  | .int _ => kit_ty kb_int_tuple
  | .str _ => kit_ty kb_str_tuple
  | .list _ => kit_ty kb_list_tuple
  | .tuple _ => kit_ty kb_tuple_tuple
  | .dict _ => kit_ty kb_dict_tuple
theorem kit_any2 {t a b : Value} {p q : Bool} (ha : PySem.W.kitOne K t a = some p) (hb : PySem.W.kitOne K t b = some q) : PySem.W.kitAny K t [a, b] = some (p || q) := by
  refine kitAny_cons ha (fun e => ?_) (fun e => by rw [e]; rfl)
  subst e
  refine kitAny_cons hb (fun e => ?_) (fun e => by rw [e]; rfl)
  subst e
  exact kitAny_nil
end
theorem ifT {c : Bool} {A B : Prop} (hc : c = true) (h : A) : if c = true then A else B := by
  rw [if_pos hc]
  exact h
theorem ifF {c : Bool} {A B : Prop} (hc : c = false) (h : B) : if c = true then A else B := by
  rw [hc, if_neg Bool.false_ne_true]
  exact h
theorem hr2 {A : Around} {k : Nat} (hr : Room k A) : A.units + 65 < cLine := by
  have h := hr.un
  omega
/-- tuple(x) of a list, a tuple -/
def rTupOf (K : PySem.W.Frag) : List V → Hp → VK → Prop := fun xs H Q => ∃ p ys, xs = [.ref p] ∧ ((SqL K H p ys ∧ ∀ l, H l = none → Q (.ref l) (upd H l (.tup ys))) ∨ (SqT K H p ys ∧ Q (.ref p) H))
/-! ### trees -/
inductive Tr where
  | lf (n : Nat)
  | nd (l r : Tr)
  deriving DecidableEq
namespace Tr
def fst : Tr → Nat
  | lf n => n
  | nd l _ => l.fst
def lst : Tr → Nat
  | lf n => n
  | nd _ r => r.lst
def ht : Tr → Nat
  | lf _ => 0
  | nd l r => max l.ht r.ht + 1
def isLf : Tr → Bool
  | lf _ => true
  | nd _ _ => false
/-- all pairs: start, join, reach, by joins -/
def trip : Tr → List (Nat × Nat × Nat)
  | lf _ => []
  | nd l r => l.trip ++ (l.fst, l.lst, r.lst) :: r.trip
def rch (t : Tr) : List Nat := t.trip.map fun p => p.2.2
/-- as tuples -/
def tp : Tr → PyData
  | lf n => .int n
  | nd l r => .tuple [l.tp, r.tp]
end Tr
/-- v stands for the tree t, by tuples or lists -/
inductive TrM (K : PySem.W.Frag) (H : Hp) : V → Tr → Prop
  | lf (n : Nat) : TrM K H (.int n) (.lf n)
  | tp {p : Addr} {x y : V} {l r : Tr} : SqT K H p [x, y] → TrM K H x l → TrM K H y r → TrM K H (.ref p) (.nd l r)
  | ls {p : Addr} {x y : V} {l r : Tr} : SqL K H p [x, y] → TrM K H x l → TrM K H y r → TrM K H (.ref p) (.nd l r)
section
variable {K : PySem.W.Frag} {H H' : Hp} {v : V} {t l r : Tr}
theorem TrM.ex (e : Ex H H') (h : TrM K H v t) : TrM K H' v t := by
  induction h with
  | lf n => exact .lf n
  | tp h _ _ a b => exact .tp (Evl.ex_t e h) a b
  | ls h _ _ a b => exact .ls (Evl.ex_l e h) a b
theorem TrM.data (h : TrM K H v t) : ∃ d, Dp K H v d ∧ (isInt d && !isBool d) = t.isLf := by
  have key : ∀ {v t}, TrM K H v t → ∃ d, Dp K H v d ∧ (isInt d && !isBool d) = t.isLf := by
    intro v t h
    induction h with
    | lf n => exact ⟨_, .int _, rfl⟩
    | tp h _ _ a b =>
      obtain ⟨d, h1, _⟩ := a
      obtain ⟨e, h2, _⟩ := b
      exact ⟨_, .tup h (.cons h1 (.cons h2 .nil)), rfl⟩
    | ls h _ _ a b =>
      obtain ⟨d, h1, _⟩ := a
      obtain ⟨e, h2, _⟩ := b
      exact ⟨_, .lst h (.cons h1 (.cons h2 .nil)), rfl⟩
  exact key h
theorem TrM.ix0 {Q : VK} (h : TrM K H v (.nd l r)) (q : ∀ x, TrM K H x l → Q x H) : rIx K v (.int 0) H Q := by
  cases h with
  | tp hs a b => exact .inr (.inl ⟨_, _, 0, _, rfl, rfl, hs, rfl, q _ a⟩)
  | ls hs a b => exact .inl ⟨_, _, 0, _, rfl, rfl, hs, rfl, q _ a⟩
theorem TrM.ix1 {Q : VK} (h : TrM K H v (.nd l r)) (q : ∀ x, TrM K H x r → Q x H) : rIx K v (.int 1) H Q := by
  cases h with
  | tp hs a b => exact .inr (.inl ⟨_, _, 1, _, rfl, rfl, hs, rfl, q _ b⟩)
  | ls hs a b => exact .inl ⟨_, _, 1, _, rfl, rfl, hs, rfl, q _ b⟩
end
theorem trm_tp {K : PySem.W.Frag} {H : Hp} : ∀ {t : Tr} {v : V}, Dp K H v t.tp → TrM K H v t
  | .lf n, _, .int _ => .lf n
  | .nd l r, _, .tup h a => by
    cases a with
    | cons h1 h2 =>
      cases h2 with
      | cons h3 h4 =>
        cases h4
        exact .tp h (trm_tp h1) (trm_tp h3)
/-! ### lists of things -/
theorem paired_app {α β : Type} {F : α → β → Prop} : ∀ {l₁ l₃ : List α} {l₂ l₄ : List β}, Paired F l₁ l₂ → Paired F l₃ l₄ → Paired F (l₁ ++ l₃) (l₂ ++ l₄)
  | _, _, _, _, .nil, b => b
  | _, _, _, _, .cons r t, b => .cons r (paired_app t b)
theorem paired_get {α β : Type} {F : α → β → Prop} : ∀ {l₁ : List α} {l₂ : List β} {i : Nat} {a : α}, Paired F l₁ l₂ → l₁[i]? = some a → ∃ b, l₂[i]? = some b ∧ F a b
  | _, _, _, _, .nil, e => by simp at e
  | _, _, 0, _, .cons r _, e => by
    simp at e
    subst e
    exact ⟨_, rfl, r⟩
  | _, _, i + 1, _, .cons _ t, e => by
    obtain ⟨b, h1, h2⟩ := paired_get (i := i) t (by simpa using e)
    exact ⟨b, by simpa using h1, h2⟩
theorem paired_map {α β γ : Type} {F : α → β → Prop} {G : α → γ → Prop} {f : β → γ} (h : ∀ a b, F a b → G a (f b)) : ∀ {l₁ : List α} {l₂ : List β}, Paired F l₁ l₂ → Paired G l₁ (l₂.map f)
  | _, _, .nil => .nil
  | _, _, .cons r t => .cons (h _ _ r) (paired_map h t)
theorem take_more {α : Type} {l : List α} {i : Nat} {x : α} (h : l[i]? = some x) : l.take (i + 1) = l.take i ++ [x] := by
  rw [List.take_add_one, h]
  rfl
/-- a new-made list (tuple) of things -/
def LO {α : Type} (R : Hp → V → α → Prop) (H : Hp) (v : V) (xs : List α) : Prop := ∃ p vs, v = .ref p ∧ H p = some (.lst vs) ∧ Paired (R H) vs xs
def TO {α : Type} (R : Hp → V → α → Prop) (H : Hp) (v : V) (xs : List α) : Prop := ∃ p vs, v = .ref p ∧ H p = some (.tup vs) ∧ Paired (R H) vs xs
def MonoR {α : Type} (R : Hp → V → α → Prop) : Prop := ∀ H H' v x, Ex H H' → R H v x → R H' v x
theorem LO.ex {α : Type} {R : Hp → V → α → Prop} {H H' : Hp} {v : V} {xs : List α} (m : MonoR R) (e : Ex H H') (h : LO R H v xs) : LO R H' v xs := by
  obtain ⟨p, vs, h1, h2, h3⟩ := h
  exact ⟨p, vs, h1, e _ _ h2, Paired.mapP h3 fun _ _ r => m _ _ _ _ e r⟩
theorem TO.ex {α : Type} {R : Hp → V → α → Prop} {H H' : Hp} {v : V} {xs : List α} (m : MonoR R) (e : Ex H H') (h : TO R H v xs) : TO R H' v xs := by
  obtain ⟨p, vs, h1, h2, h3⟩ := h
  exact ⟨p, vs, h1, e _ _ h2, Paired.mapP h3 fun _ _ r => m _ _ _ _ e r⟩
/-- a triple (start, join, reach); a number; an int -/
def RTrip (H : Hp) (v : V) (p : Nat × Nat × Nat) : Prop := ∃ q, v = .ref q ∧ H q = some (.tup [.int p.1, .int p.2.1, .int p.2.2])
def RNat (_ : Hp) (v : V) (n : Nat) : Prop := v = .int n
def RInt (_ : Hp) (v : V) (n : Int) : Prop := v = .int n
theorem mono_trip : MonoR RTrip := fun _ _ _ _ e ⟨q, h1, h2⟩ => ⟨q, h1, e _ _ h2⟩
theorem mono_nat : MonoR RNat := fun _ _ _ _ _ h => h
theorem mono_int : MonoR RInt := fun _ _ _ _ _ h => h
theorem paired_nat {H : Hp} : ∀ {vs : List V} {ns : List Nat}, Paired (RNat H) vs ns → vs = ns.map fun n => V.int ((n : Nat) : Int)
  | _, _, .nil => rfl
  | _, _, .cons r t => by
    rw [List.map_cons, ← paired_nat t]
    exact congrArg (· :: _) r
theorem paired_int {H : Hp} : ∀ {vs : List V} {ns : List Int}, Paired (RInt H) vs ns → vs = ns.map V.int
  | _, _, .nil => rfl
  | _, _, .cons r t => by
    rw [List.map_cons, ← paired_int t]
    exact congrArg (· :: _) r
theorem fn_none {P : Program} {w : World} {K : PySem.W.Frag} {mg : Str → Option Value} {base : Heap} {CX : CXT} {k : Nat} {f : Addr} {fd : FuncData} {ps : List Str} {sp : Sp} (no : ∀ vs H Q E, ¬ sp vs H Q E) : FnOk P w K mg base CX k f fd ps sp :=
  ⟨fun vs H Q E h => absurd h (no vs H Q E), fun _ _ _ H _ _ vs Q E _ _ _ _ h => absurd h (no vs H Q E)⟩
theorem sz_le {n : Nat} (h : n ≤ 100000) : n ≤ sizeLine := Evl.sz_of h
theorem sz_lt' {n : Nat} (h : n < 100000) : n < sizeLine := Evl.sz_lt h
/-- isinstance(x, Tr) -/
theorem isi_go {K : PySem.W.Frag} {H : Hp} {v : V} {d : PyData} {n : String} {b : Bool} {Q : VK} (h : Dp K H v d) (hk : PySem.W.kitOne K (.type (dTy d)) (.type n) = some b) (q : Q (.bl b) H) : rIsi K [v, .ty n] H Q :=
  ⟨v, .ty n, _, _, _, rfl, .ty n, dp_ty h, hk, q⟩
theorem isi_any2 {K : PySem.W.Frag} {H : Hp} {v : V} {d : PyData} {m n : String} {b c : Bool} {Q : VK} {p : Addr} (h : Dp K H v d) (hp : H p = some (.tup [.ty m, .ty n])) (h1 : PySem.W.kitOne K (.type (dTy d)) (.type m) = some b)
    (h2 : PySem.W.kitOne K (.type (dTy d)) (.type n) = some c) (q : Q (.bl (b || c)) H) : rIsiT K [v, .ref p] H Q :=
  ⟨v, p, _, _, _, _, rfl, hp, .cons (.ty m) (.cons (.ty n) .nil), dp_ty h, kit_any2 h1 h2, q⟩
end RG

set_option Elab.async false
set_option linter.all false
set_option maxRecDepth 100000
set_option maxHeartbeats 4000000
namespace RG
open PySem PySem.Spec PyProof.Rows L2
/-! ### comprehensions, over things of any kind -/
/-- all but lists stays -/
def ExT (H H' : Hp) : Prop := ∀ a o, (∀ xs, o ≠ .lst xs) → H a = some o → H' a = some o
theorem ExT.of {H H' : Hp} (e : Ex H H') : ExT H H' := fun a o _ h => e a o h
theorem ExT.upd {H : Hp} {D : Addr} {xs : List V} {o : HO} (h : H D = some (.lst xs)) : ExT H (upd H D o) := fun a u n e => by
  rw [upd_ne (fun z => by rw [z, h] at e; cases e; exact n xs rfl)]
  exact e
def MonoT {α : Type} (R : Hp → V → α → Prop) : Prop := ∀ H H' v x, ExT H H' → R H v x → R H' v x
theorem MonoT.ex {α : Type} {R : Hp → V → α → Prop} (m : MonoT R) : MonoR R := fun _ _ _ _ e h => m _ _ _ _ (.of e) h
theorem monoT_trip : MonoT RTrip := fun _ _ _ _ e ⟨q, h1, h2⟩ => ⟨q, h1, e _ _ (fun _ z => nomatch z) h2⟩
theorem monoT_nat : MonoT RNat := fun _ _ _ _ _ h => h
theorem monoT_int : MonoT RInt := fun _ _ _ _ _ h => h
def RBl (_ : Hp) (v : V) (b : Bool) : Prop := v = .bl b
theorem monoT_bl : MonoT RBl := fun _ _ _ _ _ h => h
theorem paired_bl {H : Hp} : ∀ {vs : List V} {ns : List Bool}, Paired (RBl H) vs ns → vs = ns.map V.bl
  | _, _, .nil => rfl
  | _, _, .cons r t => by
    rw [List.map_cons, ← paired_bl t]
    exact congrArg (· :: _) r
/-- a pair of numbers, of ints -/
def RPr (H : Hp) (v : V) (p : Nat × Nat) : Prop := ∃ q, v = .ref q ∧ H q = some (.tup [.int p.1, .int p.2])
theorem monoT_pr : MonoT RPr := fun _ _ _ _ e ⟨q, h1, h2⟩ => ⟨q, h1, e _ _ (fun _ z => nomatch z) h2⟩
/-- a tuple of two things -/
def RP2 {α β : Type} (R : Hp → V → α → Prop) (S : Hp → V → β → Prop) (H : Hp) (v : V) (p : α × β) : Prop := ∃ q x y, v = .ref q ∧ H q = some (.tup [x, y]) ∧ R H x p.1 ∧ S H y p.2
theorem monoT_p2 {α β : Type} {R : Hp → V → α → Prop} {S : Hp → V → β → Prop} (m : MonoT R) (m2 : MonoT S) : MonoT (RP2 R S) := fun _ _ _ _ e ⟨q, x, y, h1, h2, h3, h4⟩ => ⟨q, x, y, h1, e _ _ (fun _ z => nomatch z) h2, m _ _ _ _ e h3, m2 _ _ _ _ e h4⟩
/-- what is walked -/
structure Src {α : Type} (J : It) (H1 : Hp) (R : Hp → V → α → Prop) (as : List α) : Prop where
  go : ∀ i a H2, Ex H1 H2 → as[i]? = some a → J.go i H2
  stop : ∀ H2, Ex H1 H2 → J.stop as.length H2
  yld : ∀ i a x H2 H3, Ex H1 H2 → as[i]? = some a → J.yld i H2 x H3 → Ex H2 H3 ∧ R H3 x a
theorem paired_get2 {α β : Type} {F : α → β → Prop} : ∀ {l₁ : List α} {l₂ : List β} {i : Nat} {b : β}, Paired F l₁ l₂ → l₂[i]? = some b → ∃ a, l₁[i]? = some a ∧ F a b
  | _, _, _, _, .nil, e => by simp at e
  | _, _, 0, _, .cons r _, e => by
    simp at e
    subst e
    exact ⟨_, rfl, r⟩
  | _, _, i + 1, _, .cons _ t, e => by
    obtain ⟨b, h1, h2⟩ := paired_get2 (i := i) t (by simpa using e)
    exact ⟨b, by simpa using h1, h2⟩
section
variable {α β : Type} {K : PySem.W.Frag} {H1 : Hp} {R : Hp → V → α → Prop} {S : Hp → V → β → Prop} {a b : Addr} {xs ys : List V} {as : List α} {bs : List β}
theorem src_list (m : MonoR R) (h : SqL K H1 a xs) (p : Paired (R H1) xs as) : Src (Itl K a) H1 R as where
  go := fun i z H2 e hz => by
    obtain ⟨x, hx, _⟩ := paired_get2 p hz
    exact ⟨xs, x, Evl.ex_l e h, hx⟩
  stop := fun H2 e => ⟨xs, Evl.ex_l e h, by rw [p.length]; exact Nat.le_refl _⟩
  yld := fun i z x H2 H3 e hz y => by
    obtain ⟨e3, y⟩ := y
    subst e3
    obtain ⟨x', hx, r⟩ := paired_get2 p hz
    have q := y xs (Evl.ex_l e h)
    rw [hx] at q
    cases q
    exact ⟨exr _, m _ _ _ _ e r⟩
theorem src_tup (m : MonoR R) (h : SqT K H1 a xs) (p : Paired (R H1) xs as) : Src (Itt K a) H1 R as where
  go := fun i z H2 e hz => by
    obtain ⟨x, hx, _⟩ := paired_get2 p hz
    exact ⟨xs, x, Evl.ex_t e h, hx⟩
  stop := fun H2 e => ⟨xs, Evl.ex_t e h, by rw [p.length]; exact Nat.le_refl _⟩
  yld := fun i z x H2 H3 e hz y => by
    obtain ⟨e3, y⟩ := y
    subst e3
    obtain ⟨x', hx, r⟩ := paired_get2 p hz
    have q := y xs (Evl.ex_t e h)
    rw [hx] at q
    cases q
    exact ⟨exr _, m _ _ _ _ e r⟩
theorem src_rng {lo : Int} {n : Nat} : Src (Itr lo n) H1 RInt ((List.range n).map fun i : Nat => lo + (i : Int)) where
  go := fun i z H2 e hz => by
    have h := (List.getElem?_eq_some_iff.mp hz).1
    rw [List.length_map, List.length_range] at h
    exact h
  stop := fun H2 e => by
    rw [List.length_map, List.length_range]
    exact Nat.le_refl _
  yld := fun i z x H2 H3 e hz y => by
    obtain ⟨e3, rfl⟩ := y
    subst e3
    have h := (List.getElem?_eq_some_iff.mp hz).1
    rw [List.length_map, List.length_range] at h
    rw [List.getElem?_map, List.getElem?_range h] at hz
    have e2 := Option.some.inj hz
    subst e2
    exact ⟨exr _, rfl⟩
theorem zip_get {as : List α} {bs : List β} {i : Nat} {z : α × β} (h : (as.zip bs)[i]? = some z) : as[i]? = some z.1 ∧ bs[i]? = some z.2 := by
  rw [List.getElem?_zip_eq_some] at h
  exact h
theorem src_zipT (m : MonoR R) (m2 : MonoR S) (h : SqT K H1 a xs) (p : Paired (R H1) xs as) (h2 : SqT K H1 b ys) (p2 : Paired (S H1) ys bs) : Src (RZ.ItzT K a b) H1 (RP2 R S) (as.zip bs) where
  go := fun i z H2 e hz => by
    obtain ⟨z1, z2⟩ := zip_get hz
    obtain ⟨x, hx, _⟩ := paired_get2 p z1
    obtain ⟨y, hy, _⟩ := paired_get2 p2 z2
    exact ⟨xs, ys, x, y, Evl.ex_t e h, Evl.ex_t e h2, hx, hy⟩
  stop := fun H2 e => ⟨xs, ys, Evl.ex_t e h, Evl.ex_t e h2, by rw [p.length, p2.length, List.length_zip]; omega⟩
  yld := fun i z x H2 H3 e hz y => by
    obtain ⟨z1, z2⟩ := zip_get hz
    obtain ⟨T, u, v, rfl, hT, rfl, y1, y2⟩ := y
    obtain ⟨x', hx, r⟩ := paired_get2 p z1
    obtain ⟨y', hy, r2⟩ := paired_get2 p2 z2
    have q := y1 xs (Evl.ex_t e h)
    have q2 := y2 ys (Evl.ex_t e h2)
    rw [hx] at q
    rw [hy] at q2
    have q3 := Option.some.inj q
    have q4 := Option.some.inj q2
    subst q3 q4
    have e3 : Ex H2 (upd H2 T (.tup [x', y'])) := Evl.Ex.new hT
    exact ⟨e3, T, x', y', rfl, upd_same, m _ _ _ _ (e.trans e3) r, m2 _ _ _ _ (e.trans e3) r2⟩
theorem src_zipL (m : MonoR R) (m2 : MonoR S) (h : SqL K H1 a xs) (p : Paired (R H1) xs as) (h2 : SqL K H1 b ys) (p2 : Paired (S H1) ys bs) : Src (Itz K a b) H1 (RP2 R S) (as.zip bs) where
  go := fun i z H2 e hz => by
    obtain ⟨z1, z2⟩ := zip_get hz
    obtain ⟨x, hx, _⟩ := paired_get2 p z1
    obtain ⟨y, hy, _⟩ := paired_get2 p2 z2
    exact ⟨xs, ys, x, y, Evl.ex_l e h, Evl.ex_l e h2, hx, hy⟩
  stop := fun H2 e => ⟨xs, ys, Evl.ex_l e h, Evl.ex_l e h2, by rw [p.length, p2.length, List.length_zip]; omega⟩
  yld := fun i z x H2 H3 e hz y => by
    obtain ⟨z1, z2⟩ := zip_get hz
    obtain ⟨T, u, v, rfl, hT, rfl, y1, y2⟩ := y
    obtain ⟨x', hx, r⟩ := paired_get2 p z1
    obtain ⟨y', hy, r2⟩ := paired_get2 p2 z2
    have q := y1 xs (Evl.ex_l e h)
    have q2 := y2 ys (Evl.ex_l e h2)
    rw [hx] at q
    rw [hy] at q2
    have q3 := Option.some.inj q
    have q4 := Option.some.inj q2
    subst q3 q4
    have e3 : Ex H2 (upd H2 T (.tup [x', y'])) := Evl.Ex.new hT
    exact ⟨e3, T, x', y', rfl, upd_same, m _ _ _ _ (e.trans e3) r, m2 _ _ _ _ (e.trans e3) r2⟩
/-- the comprehension's body: f which are kept, g what is made of them -/
theorem lc_src {γ : Type} {U : Hp → V → γ → Prop} {J : It} {g : TG} {tt : TT} {te : TE} {vs : List Nat} {σ : L2.St} {D : Addr} {Qd : Hp → Prop} (f : α → Bool) (gg : α → γ) (Z : Src J H1 R as) (mU : MonoT U) (hz : as.length < 100000)
    (item : ∀ (i : Nat) z x H2, as[i]? = some z → Ex H1 H2 → R H2 x z → ∀ (Ky : V → Hp → Prop) (Kn : Hp → Prop), (f z = true → ∀ y H3, Ex H2 H3 → U H3 y (gg z) → Ky y H3) → (f z = false → ∀ H3, Ex H2 H3 → Kn H3) →
      g x (wipe σ vs) H2 fun σ2 H3 => wipe σ2 vs = wipe σ vs ∧ tt σ2 H3 fun b H4 => if b = true then te σ2 H4 Ky else Kn H4)
    (hD : H1 D = none) (k : ∀ ys H2, Ex H1 H2 → H2 D = some (.lst ys) → Paired (U H2) ys ((as.filter f).map gg) → Qd H2) :
    ∃ W : Nat → Nat → Hp → Prop, (∃ m, W 0 m (upd H1 D (.lst []))) ∧ ∀ i m H, W i m H →
      (J.stop i H ∧ Qd H) ∨ (J.go i H ∧ ∃ Nx : Hp → Prop, (∀ H', Nx H' → ∃ m', m' < m ∧ W (i + 1) m' H') ∧ ∀ x H', J.yld i H x H' → g x (wipe σ vs) H' fun σ2 H2 => wipe σ2 vs = wipe σ vs ∧ tt σ2 H2 fun b H3 =>
        if b = true then te σ2 H3 fun y H4 => ∃ acc, H4 D = some (.lst acc) ∧ acc.length < sizeLine ∧ Nx (upd H4 D (.lst (acc ++ [y]))) else Nx H3) := by
  let P : Nat → Hp → Prop := fun i H => Ex H1 H ∧ ∃ acc, H D = some (.lst acc) ∧ Paired (U H) acc (((as.take i).filter f).map gg)
  refine ⟨fun i m H => m = as.length - i ∧ i ≤ as.length ∧ P i H, ⟨as.length, by simp, Nat.zero_le _, Evl.Ex.new hD, [], upd_same, .nil⟩, ?_⟩
  rintro i m H ⟨rfl, hi, e, acc, hacc, pr⟩
  by_cases hlt : i < as.length
  · have hz' : as[i]? = some as[i] := List.getElem?_eq_getElem hlt
    refine .inr ⟨Z.go i _ H e hz', P (i + 1), fun H' p => ⟨as.length - (i + 1), by omega, rfl, hlt, p⟩, fun x H' y => ?_⟩
    obtain ⟨e2, r⟩ := Z.yld i _ x H H' e hz' y
    refine item i _ x H' hz' (e.trans e2) r _ _ (fun hf y H3 e3 u => ?_) fun hf H3 e3 => ?_
    · have h3 := (e2.trans e3) D _ hacc
      have l : acc.length ≤ as.length := by
        rw [pr.length, List.length_map]
        exact Nat.le_trans (List.length_filter_le _ _) (by rw [List.length_take]; omega)
      refine ⟨acc, h3, sz_lt' (by omega), Evl.Ex.mut ((e.trans e2).trans e3) hD, _, upd_same, ?_⟩
      rw [take_more hz', List.filter_append, List.map_append]
      have e5 : [as[i]].filter f = [as[i]] := by rw [List.filter_cons, if_pos hf]; rfl
      rw [e5]
      have et : ExT H3 (upd H3 D (.lst (acc ++ [y]))) := .upd h3
      exact paired_app (Paired.mapP pr fun _ _ z => mU _ _ _ _ et (mU _ _ _ _ (.of (e2.trans e3)) z)) (.cons (mU _ _ _ _ et u) .nil)
    · refine ⟨(e.trans e2).trans e3, acc, (e2.trans e3) D _ hacc, ?_⟩
      rw [take_more hz', List.filter_append, List.map_append]
      have e5 : [as[i]].filter f = [] := by rw [List.filter_cons, if_neg (by rw [hf]; decide)]; rfl
      rw [e5, List.map_nil, List.append_nil]
      exact Paired.mapP pr fun _ _ z => mU _ _ _ _ (.of (e2.trans e3)) z
  · have ei : i = as.length := by omega
    subst ei
    refine .inl ⟨Z.stop H e, k acc H e hacc ?_⟩
    rw [List.take_length] at pr
    exact pr
end
theorem yes_go {X Y : Hp → Prop} {σ : L2.St} {H : Hp} (h : X H) : tYes σ H fun b H3 => if b = true then X H3 else Y H3 := by
  show if true = true then X H else Y H
  exact ifT rfl h
theorem filter_tt {α : Type} : ∀ l : List α, l.filter (fun _ => true) = l
  | [] => rfl
  | x :: l => by rw [List.filter_cons, if_pos rfl, filter_tt l]
/-- without tests -/
theorem lc_map {α γ : Type} {H1 : Hp} {R : Hp → V → α → Prop} {as : List α} {U : Hp → V → γ → Prop} {J : It} {g : TG} {te : TE} {vs : List Nat} {σ : L2.St} {D : Addr} {Qd : Hp → Prop} (gg : α → γ) (Z : Src J H1 R as) (mU : MonoT U) (hz : as.length < 100000)
    (item : ∀ (i : Nat) z x H2, as[i]? = some z → Ex H1 H2 → R H2 x z → ∀ Ky : V → Hp → Prop, (∀ y H3, Ex H2 H3 → U H3 y (gg z) → Ky y H3) → g x (wipe σ vs) H2 fun σ2 H3 => wipe σ2 vs = wipe σ vs ∧ te σ2 H3 Ky)
    (gm : ∀ x σ H (P P' : L2.St → Hp → Prop), (∀ σ' H', P σ' H' → P' σ' H') → g x σ H P → g x σ H P')
    (hD : H1 D = none) (k : ∀ ys H2, Ex H1 H2 → H2 D = some (.lst ys) → Paired (U H2) ys (as.map gg) → Qd H2) :
    ∃ W : Nat → Nat → Hp → Prop, (∃ m, W 0 m (upd H1 D (.lst []))) ∧ ∀ i m H, W i m H →
      (J.stop i H ∧ Qd H) ∨ (J.go i H ∧ ∃ Nx : Hp → Prop, (∀ H', Nx H' → ∃ m', m' < m ∧ W (i + 1) m' H') ∧ ∀ x H', J.yld i H x H' → g x (wipe σ vs) H' fun σ2 H2 => wipe σ2 vs = wipe σ vs ∧ tYes σ2 H2 fun b H3 =>
        if b = true then te σ2 H3 fun y H4 => ∃ acc, H4 D = some (.lst acc) ∧ acc.length < sizeLine ∧ Nx (upd H4 D (.lst (acc ++ [y]))) else Nx H3) := by
  refine lc_src (fun _ => true) gg Z mU hz (fun i z x H2 hi e r Ky Kn ky kn => ?_) hD fun ys H2 e h l => k ys H2 e h (by rw [filter_tt] at l; exact l)
  refine gm _ _ _ _ _ (fun σ' H' p => ?_) (item i z x H2 hi e r Ky (ky rfl))
  obtain ⟨p1, p2⟩ := p
  refine ⟨p1, ?_⟩
  show if true = true then te σ' H' Ky else Kn H'
  exact ifT rfl p2
theorem gm_name {i : Nat} (x : V) (σ : L2.St) (H : Hp) (P P' : L2.St → Hp → Prop) (h : ∀ σ' H', P σ' H' → P' σ' H') (g : gName i x σ H P) : gName i x σ H P' := h _ _ g
theorem gm_tup2 {K : PySem.W.Frag} {i j : Nat} (x : V) (σ : L2.St) (H : Hp) (P P' : L2.St → Hp → Prop) (h : ∀ σ' H', P σ' H' → P' σ' H') (g : gTup K 2 (gCons (gName i) (gCons (gName j) gNil)) x σ H P) : gTup K 2 (gCons (gName i) (gCons (gName j) gNil)) x σ H P' := by
  obtain ⟨a, xs, h1, h2, h3, v, r, h4, v2, r2, h5, h6, q⟩ := g
  exact ⟨a, xs, h1, h2, h3, v, r, h4, v2, r2, h5, h6, h _ _ q⟩
theorem gm_tup3 {K : PySem.W.Frag} {i j l : Nat} (x : V) (σ : L2.St) (H : Hp) (P P' : L2.St → Hp → Prop) (h : ∀ σ' H', P σ' H' → P' σ' H') (g : gTup K 3 (gCons (gName i) (gCons (gName j) (gCons (gName l) gNil))) x σ H P) :
    gTup K 3 (gCons (gName i) (gCons (gName j) (gCons (gName l) gNil))) x σ H P' := by
  obtain ⟨a, xs, h1, h2, h3, v, r, h4, v2, r2, h5, v3, r3, h6, h7, q⟩ := g
  exact ⟨a, xs, h1, h2, h3, v, r, h4, v2, r2, h5, v3, r3, h6, h7, h _ _ q⟩
/-- a target of names -/
theorem g_one {i : Nat} {x : V} {σ : L2.St} {H : Hp} {Q : L2.St → Hp → Prop} (q : Q (σ.set i (some x)) H) : gName i x σ H Q := q
theorem gtup2 {K : PySem.W.Frag} {i j : Nat} {v x y : V} {q : Addr} {σ : L2.St} {H : Hp} {Q : L2.St → Hp → Prop} (e : v = .ref q) (h : H q = some (.tup [x, y])) (k : Q ((σ.set i (some x)).set j (some y)) H) :
    gTup K 2 (gCons (gName i) (gCons (gName j) gNil)) v σ H Q := ⟨q, _, e, SqT.of h, rfl, _, _, rfl, _, _, rfl, rfl, k⟩
theorem gtup3 {K : PySem.W.Frag} {i j l : Nat} {v x y z : V} {q : Addr} {σ : L2.St} {H : Hp} {Q : L2.St → Hp → Prop} (e : v = .ref q) (h : H q = some (.tup [x, y, z])) (k : Q (((σ.set i (some x)).set j (some y)).set l (some z)) H) :
    gTup K 3 (gCons (gName i) (gCons (gName j) (gCons (gName l) gNil))) v σ H Q := ⟨q, _, e, SqT.of h, rfl, _, _, rfl, _, _, rfl, _, _, rfl, rfl, k⟩
end RG

set_option Elab.async false
set_option linter.all false
set_option maxRecDepth 100000
set_option maxHeartbeats 4000000
namespace RG
/-! ### the groupings by the joins that may be outermost -/
def gd (tp : Nat → Nat → List Nat) : Nat → Nat → Nat → List Tr
  | 0, a, _ => [.lf a]
  | f + 1, a, b => if a = b then [.lf a] else (tp a b).flatMap fun j => (gd tp f a j).flatMap fun l => (gd tp f (j + 1) b).map (Tr.nd l)
def GD (tp : Nat → Nat → List Nat) (a b : Nat) : List Tr := gd tp (b - a) a b
def TpOk (tp : Nat → Nat → List Nat) : Prop := ∀ a b j, j ∈ tp a b → a ≤ j ∧ j < b
theorem flatMap_congr {α β : Type} {f g : α → List β} : ∀ {l : List α}, (∀ x ∈ l, f x = g x) → l.flatMap f = l.flatMap g
  | [], _ => rfl
  | x :: l, h => by
    rw [List.flatMap_cons, List.flatMap_cons, h x List.mem_cons_self, flatMap_congr fun y hy => h y (List.mem_cons_of_mem _ hy)]
section
variable {tp : Nat → Nat → List Nat}
theorem gd_more (ok : TpOk tp) : ∀ (f a b : Nat), b - a ≤ f → a ≤ b → gd tp (f + 1) a b = gd tp f a b
  | 0, a, b, h, h2 => by
    have e : a = b := by omega
    show (if a = b then [Tr.lf a] else _) = [Tr.lf a]
    rw [if_pos e]
  | f + 1, a, b, h, h2 => by
    show (if a = b then [Tr.lf a] else (tp a b).flatMap fun j => (gd tp (f + 1) a j).flatMap fun l => (gd tp (f + 1) (j + 1) b).map (Tr.nd l)) = if a = b then [Tr.lf a] else (tp a b).flatMap fun j => (gd tp f a j).flatMap fun l => (gd tp f (j + 1) b).map (Tr.nd l)
    by_cases e : a = b
    · rw [if_pos e, if_pos e]
    · rw [if_neg e, if_neg e]
      refine flatMap_congr fun j hj => ?_
      obtain ⟨h3, h4⟩ := ok a b j hj
      rw [gd_more ok f a j (by omega) (by omega), gd_more ok f (j + 1) b (by omega) (by omega)]
theorem gd_fuel (ok : TpOk tp) {a b : Nat} (h : a ≤ b) : ∀ (f : Nat), b - a ≤ f → gd tp f a b = GD tp a b
  | 0, h2 => by
    have e : b - a = 0 := by omega
    unfold GD
    rw [e]
  | f + 1, h2 => by
    by_cases e : b - a = f + 1
    · unfold GD
      rw [e]
    · rw [gd_more ok f a b (by omega) h]
      exact gd_fuel ok h f (by omega)
theorem GD_self (a : Nat) : GD tp a a = [.lf a] := by
  unfold GD
  rw [Nat.sub_self]
  rfl
theorem GD_eq (ok : TpOk tp) {a b : Nat} (h : a < b) : GD tp a b = (tp a b).flatMap fun j => (GD tp a j).flatMap fun l => (GD tp (j + 1) b).map (Tr.nd l) := by
  obtain ⟨f, hf⟩ : ∃ f, b - a = f + 1 := ⟨b - a - 1, by omega⟩
  show gd tp (b - a) a b = _
  rw [hf]
  show (if a = b then [Tr.lf a] else (tp a b).flatMap fun j => (gd tp f a j).flatMap fun l => (gd tp f (j + 1) b).map (Tr.nd l)) = _
  rw [if_neg (by omega)]
  refine flatMap_congr fun j hj => ?_
  obtain ⟨h3, h4⟩ := ok a b j hj
  rw [gd_fuel ok h3 f (by omega), gd_fuel ok (by omega : j + 1 ≤ b) f (by omega)]
end
/-! ### prices -/
def price (pp : Nat → Nat → Nat → Int) (t : Tr) : Int := (t.trip.map fun p => pp p.1 p.2.1 p.2.2).sum
theorem price_nd (pp : Nat → Nat → Nat → Int) (l r : Tr) : price pp (.nd l r) = price pp l + price pp r + pp l.fst l.lst r.lst := by
  show ((l.trip ++ (l.fst, l.lst, r.lst) :: r.trip).map _).sum = _
  rw [List.map_append, List.sum_append, List.map_cons, List.sum_cons]
  show _ + (pp l.fst l.lst r.lst + _) = _
  unfold price
  omega
theorem price_lf (pp : Nat → Nat → Nat → Int) (n : Nat) : price pp (.lf n) = 0 := rfl
/-- the least of a list -/
def lmin : List Int → Option Int
  | [] => none
  | x :: r => some (match lmin r with
    | none => x
    | some y => if x ≤ y then x else y)
theorem lmin_none : ∀ {l : List Int}, lmin l = none ↔ l = []
  | [] => ⟨fun _ => rfl, fun _ => rfl⟩
  | _ :: _ => ⟨fun h => (nomatch h), fun h => (nomatch h)⟩
theorem lmin_some : ∀ {l : List Int} {m : Int}, lmin l = some m ↔ m ∈ l ∧ ∀ y ∈ l, m ≤ y
  | [], m => ⟨fun h => (nomatch h), fun h => by cases h.1⟩
  | x :: r, m => by
    have ih := @lmin_some r
    show some (match lmin r with | none => x | some y => if x ≤ y then x else y) = some m ↔ _
    cases hr : lmin r with
    | none =>
      have e := lmin_none.mp hr
      subst e
      constructor
      · intro h
        have e := Option.some.inj h
        subst e
        exact ⟨List.mem_cons_self, fun y hy => by
          rcases List.mem_cons.mp hy with e | hy
          · subst e; exact Int.le_refl _
          · cases hy⟩
      · rintro ⟨h, _⟩
        rcases List.mem_cons.mp h with e | hy
        · subst e; rfl
        · cases hy
    | some y =>
      obtain ⟨h1, h2⟩ := (ih (m := y)).mp hr
      have key : (if x ≤ y then x else y) ∈ x :: r ∧ ∀ z ∈ x :: r, (if x ≤ y then x else y) ≤ z := by
        by_cases c : x ≤ y
        · rw [if_pos c]
          exact ⟨List.mem_cons_self, fun z hz => by
            rcases List.mem_cons.mp hz with e | hz
            · subst e; exact Int.le_refl _
            · exact Int.le_trans c (h2 z hz)⟩
        · rw [if_neg c]
          exact ⟨List.mem_cons_of_mem _ h1, fun z hz => by
            rcases List.mem_cons.mp hz with e | hz
            · subst e; omega
            · exact h2 z hz⟩
      constructor
      · intro h
        have e := Option.some.inj h
        rw [← e]
        exact key
      · rintro ⟨k1, k2⟩
        have a1 := k2 _ key.1
        have a2 := key.2 m k1
        exact congrArg some (Int.le_antisymm a2 a1)
end RG

set_option Elab.async false
set_option linter.all false
set_option maxRecDepth 100000
set_option maxHeartbeats 4000000
namespace RG
/-! ### the joins by limits -/
def okj (lims : List (Nat × Nat)) (j b : Nat) : Bool := match lims[j - 1]? with
  | some p => decide (p.1 ≤ b) && decide (b ≤ p.2)
  | none => false
def tpL (lims : List (Nat × Nat)) (a b : Nat) : List Nat := ((List.range (b - a)).map (a + ·)).filter fun j => okj lims j b
theorem tpL_ok (lims : List (Nat × Nat)) : TpOk (tpL lims) := fun a b j h => by
  have h1 := (List.mem_filter.mp h).1
  obtain ⟨i, hi, e⟩ := List.mem_map.mp h1
  have h2 := List.mem_range.mp hi
  omega
theorem rng_nat (a m : Nat) (g : Nat → Bool) : (((List.range m).map fun i : Nat => (a : Int) + (i : Int)).filter fun z => g z.toNat).map Int.toNat = ((List.range m).map (a + ·)).filter g := by
  rw [List.filter_map, List.map_map, List.filter_map]
  have e1 : ((fun z : Int => g z.toNat) ∘ fun i : Nat => (a : Int) + (i : Int)) = g ∘ (a + ·) := by
    funext i
    show g ((a : Int) + (i : Int)).toNat = g (a + i)
    congr 1
  have e2 : (Int.toNat ∘ fun i : Nat => (a : Int) + (i : Int)) = (a + ·) := by
    funext i
    show ((a : Int) + (i : Int)).toNat = a + i
    omega
  rw [e1, e2]
/-! ### counts -/
def TpSm (tp : Nat → Nat → List Nat) : Prop := ∀ a b, (tp a b).length ≤ b - a
theorem flatMap_len {α β : Type} (f : α → List β) (m : Nat) : ∀ l : List α, (∀ x ∈ l, (f x).length ≤ m) → (l.flatMap f).length ≤ l.length * m
  | [], _ => by simp
  | x :: l, h => by
    rw [List.flatMap_cons, List.length_append, List.length_cons, Nat.succ_mul]
    have h1 := h x List.mem_cons_self
    have h2 := flatMap_len f m l fun y hy => h y (List.mem_cons_of_mem _ hy)
    omega
def cub : Nat → Nat
  | 0 => 1
  | k + 1 => (k + 1) * (cub k * cub k)
theorem cub_pos : ∀ k, 0 < cub k
  | 0 => Nat.one_pos
  | k + 1 => Nat.mul_pos (Nat.succ_pos k) (Nat.mul_pos (cub_pos k) (cub_pos k))
theorem cub_mono : ∀ {i k : Nat}, i ≤ k → cub i ≤ cub k := by
  intro i k h
  induction h with
  | refl => exact Nat.le_refl _
  | @step m _ ih =>
    refine Nat.le_trans ih ?_
    show cub m ≤ (m + 1) * (cub m * cub m)
    have p := cub_pos m
    have h1 : cub m * 1 ≤ cub m * cub m := Nat.mul_le_mul_left _ p
    have h2 : 1 * (cub m * cub m) ≤ (m + 1) * (cub m * cub m) := Nat.mul_le_mul_right _ (by omega)
    omega
theorem prod_len {α β γ : Type} (f : α → β → γ) (xs : List α) (ys : List β) : (xs.flatMap fun l => ys.map (f l)).length = xs.length * ys.length := by
  induction xs with
  | nil => simp
  | cons x xs ih =>
    rw [List.flatMap_cons, List.length_append, List.length_map, ih, List.length_cons, Nat.succ_mul]
    omega
theorem GD_le {tp : Nat → Nat → List Nat} (ok : TpOk tp) (sm : TpSm tp) : ∀ (k a b : Nat), a ≤ b → b - a ≤ k → (GD tp a b).length ≤ cub k
  | 0, a, b, h, h2 => by
    have e : a = b := by omega
    subst e
    rw [GD_self]
    exact Nat.le_refl _
  | k + 1, a, b, h, h2 => by
    by_cases e : a = b
    · subst e
      rw [GD_self]
      exact cub_pos _
    · rw [GD_eq ok (by omega)]
      refine Nat.le_trans (flatMap_len _ (cub k * cub k) _ fun j hj => ?_) ?_
      · obtain ⟨h3, h4⟩ := ok a b j hj
        rw [prod_len]
        exact Nat.mul_le_mul (GD_le ok sm k a j h3 (by omega)) (GD_le ok sm k (j + 1) b (by omega) (by omega))
      · exact Nat.mul_le_mul_right _ (Nat.le_trans (sm a b) h2)
theorem tpL_sm (lims : List (Nat × Nat)) : TpSm (tpL lims) := fun a b => by
  refine Nat.le_trans (List.length_filter_le _ _) ?_
  rw [List.length_map, List.length_range]
  exact Nat.le_refl _
def cntJ (tp : Nat → Nat → List Nat) (a b j : Nat) : Nat := (GD tp a j).length * (GD tp (j + 1) b).length
theorem flatMap_sum {α β : Type} (f : α → List β) : ∀ l : List α, (l.flatMap f).length = (l.map fun x => (f x).length).sum
  | [] => rfl
  | x :: l => by rw [List.flatMap_cons, List.length_append, List.map_cons, List.sum_cons, flatMap_sum f l]
theorem GD_count {tp : Nat → Nat → List Nat} (ok : TpOk tp) {a b : Nat} (h : a < b) : (GD tp a b).length = ((tp a b).map (cntJ tp a b)).sum := by
  rw [GD_eq ok h, flatMap_sum]
  congr 1
  refine List.map_congr_left fun j _ => ?_
  exact prod_len _ _ _
theorem prod_get {α β γ : Type} (f : α → β → γ) (ys : List β) : ∀ (xs : List α) (k : Nat), k < xs.length * ys.length → ∃ x y, xs[k / ys.length]? = some x ∧ ys[k % ys.length]? = some y ∧ (xs.flatMap fun l => ys.map (f l))[k]? = some (f x y)
  | [], k, h => by simp at h
  | x :: xs, k, h => by
    rw [List.length_cons, Nat.succ_mul] at h
    have hp : 0 < ys.length := by
      rcases Nat.eq_zero_or_pos ys.length with e | e
      · rw [e] at h; omega
      · exact e
    rw [List.flatMap_cons]
    by_cases c : k < ys.length
    · rw [Nat.div_eq_of_lt c, Nat.mod_eq_of_lt c, List.getElem?_append_left (by rw [List.length_map]; exact c)]
      refine ⟨x, ys[k], rfl, List.getElem?_eq_getElem c, ?_⟩
      rw [List.getElem?_map, List.getElem?_eq_getElem c]
      rfl
    · obtain ⟨m, hm⟩ : ∃ m, k = ys.length + m := ⟨k - ys.length, by omega⟩
      subst hm
      obtain ⟨u, v, h1, h2, h3⟩ := prod_get f ys xs m (by omega)
      rw [List.getElem?_append_right (by rw [List.length_map]; omega), List.length_map, Nat.add_sub_cancel_left, Nat.add_div_left _ hp, Nat.add_mod_left]
      exact ⟨u, v, by rw [List.getElem?_cons_succ]; exact h1, h2, h3⟩
end RG

set_option Elab.async false
set_option linter.all false
set_option maxRecDepth 100000
set_option maxHeartbeats 400000
namespace RG
/-! ### the trees of a stretch -/
def Span : Tr → Nat → Nat → Prop
  | .lf n, a, b => n = a ∧ a = b
  | .nd l r, a, b => ∃ j, a ≤ j ∧ j < b ∧ Span l a j ∧ Span r (j + 1) b
theorem span_le : ∀ {t : Tr} {a b : Nat}, Span t a b → a ≤ b
  | .lf _, _, _, h => Nat.le_of_eq h.2
  | .nd _ _, _, _, ⟨_, h1, h2, _⟩ => by omega
theorem span_fst : ∀ {t : Tr} {a b : Nat}, Span t a b → t.fst = a
  | .lf _, _, _, h => h.1
  | .nd l _, _, _, ⟨_, _, _, h, _⟩ => span_fst (t := l) h
theorem span_lst : ∀ {t : Tr} {a b : Nat}, Span t a b → t.lst = b
  | .lf _, _, _, h => h.1.trans h.2
  | .nd _ r, _, _, ⟨_, _, _, _, h⟩ => span_lst (t := r) h
theorem span_len : ∀ {t : Tr} {a b : Nat}, Span t a b → t.trip.length = b - a
  | .lf _, _, _, h => by
    show 0 = _
    have := h.2
    omega
  | .nd l r, a, b, ⟨j, h1, h2, h3, h4⟩ => by
    show (l.trip ++ (l.fst, l.lst, r.lst) :: r.trip).length = _
    rw [List.length_append, List.length_cons, span_len h3, span_len h4]
    omega
theorem span_ht : ∀ {t : Tr} {a b : Nat}, Span t a b → t.ht ≤ b - a
  | .lf _, _, _, _ => Nat.zero_le _
  | .nd l r, a, b, ⟨j, h1, h2, h3, h4⟩ => by
    have i1 := span_ht h3
    have i2 := span_ht h4
    show max l.ht r.ht + 1 ≤ _
    omega
theorem span_trip : ∀ {t : Tr} {a b : Nat}, Span t a b → ∀ z ∈ t.trip, a ≤ z.1 ∧ z.1 ≤ z.2.1 ∧ z.2.1 < z.2.2 ∧ z.2.2 ≤ b
  | .lf _, _, _, _, z, hz => by cases hz
  | .nd l r, a, b, ⟨j, h1, h2, h3, h4⟩, z, hz => by
    rcases List.mem_append.mp (show z ∈ l.trip ++ (l.fst, l.lst, r.lst) :: r.trip from hz) with m | m
    · have := span_trip h3 z m
      omega
    · rcases List.mem_cons.mp m with e | m
      · rw [e, span_fst h3, span_lst h3, span_lst h4]
        exact ⟨Nat.le_refl _, h1, h2, Nat.le_refl _⟩
      · have := span_trip h4 z m
        omega
section
variable {tp : Nat → Nat → List Nat}
theorem gd_ind (ok : TpOk tp) {P : Nat → Nat → Prop} (h0 : ∀ a, P a a) (h1 : ∀ a b, a < b → (∀ j ∈ tp a b, P a j ∧ P (j + 1) b) → P a b) : ∀ (k a b : Nat), a ≤ b → b - a ≤ k → P a b
  | 0, a, b, h, h2 => by
    have e : a = b := by omega
    subst e
    exact h0 a
  | k + 1, a, b, h, h2 => by
    by_cases e : a = b
    · subst e
      exact h0 a
    · refine h1 a b (by omega) fun j hj => ?_
      obtain ⟨h3, h4⟩ := ok a b j hj
      exact ⟨gd_ind ok h0 h1 k a j h3 (by omega), gd_ind ok h0 h1 k (j + 1) b (by omega) (by omega)⟩
theorem mem_GD (ok : TpOk tp) {a b : Nat} (h : a < b) {t : Tr} : t ∈ GD tp a b ↔ ∃ j ∈ tp a b, ∃ l ∈ GD tp a j, ∃ r ∈ GD tp (j + 1) b, t = .nd l r := by
  rw [GD_eq ok h, List.mem_flatMap]
  constructor
  · rintro ⟨j, hj, h⟩
    obtain ⟨l, hl, h⟩ := List.mem_flatMap.mp h
    obtain ⟨r, hr, e⟩ := List.mem_map.mp h
    exact ⟨j, hj, l, hl, r, hr, e.symm⟩
  · rintro ⟨j, hj, l, hl, r, hr, e⟩
    exact ⟨j, hj, List.mem_flatMap.mpr ⟨l, hl, List.mem_map.mpr ⟨r, hr, e.symm⟩⟩⟩
theorem GD_span (ok : TpOk tp) {a b : Nat} (h : a ≤ b) : ∀ t ∈ GD tp a b, Span t a b := by
  refine gd_ind ok (P := fun a b => ∀ t ∈ GD tp a b, Span t a b) (fun a t ht => ?_) (fun a b hab ih t ht => ?_) (b - a) a b h (Nat.le_refl _)
  · rw [GD_self] at ht
    cases List.mem_singleton.mp ht
    exact ⟨rfl, rfl⟩
  · obtain ⟨j, hj, l, hl, r, hr, rfl⟩ := (mem_GD ok hab).mp ht
    obtain ⟨h1, h2⟩ := ok a b j hj
    exact ⟨j, h1, h2, (ih j hj).1 l hl, (ih j hj).2 r hr⟩
end
/-! ### the best -/
def bestV (pp : Nat → Nat → Nat → Int) (tp : Nat → Nat → List Nat) (side : Int) (a b : Nat) : Option Int := (lmin ((GD tp a b).map fun t => side * price pp t)).map (side * ·)
def sumJ (f : Nat → Nat → Option Int) (pp : Nat → Nat → Nat → Int) (a b j : Nat) : Option Int := match f a j, f (j + 1) b with
  | some x, some y => some (x + y + pp a j b)
  | _, _ => none
def Side (s : Int) : Prop := s = 1 ∨ s = -1
theorem side_sq {s : Int} (h : Side s) (x : Int) : s * (s * x) = x := by
  rcases h with rfl | rfl <;> omega
theorem bestV_some {pp : Nat → Nat → Nat → Int} {tp : Nat → Nat → List Nat} {s : Int} (hs : Side s) {a b : Nat} {m : Int} : bestV pp tp s a b = some m ↔ (∃ t ∈ GD tp a b, price pp t = m) ∧ ∀ t ∈ GD tp a b, s * m ≤ s * price pp t := by
  unfold bestV
  rw [Option.map_eq_some_iff]
  constructor
  · rintro ⟨x, hx, rfl⟩
    obtain ⟨h1, h2⟩ := lmin_some.mp hx
    obtain ⟨t, ht, rfl⟩ := List.mem_map.mp h1
    rw [side_sq hs]
    exact ⟨⟨t, ht, rfl⟩, fun u hu => h2 _ (List.mem_map.mpr ⟨u, hu, rfl⟩)⟩
  · rintro ⟨⟨t, ht, rfl⟩, h⟩
    refine ⟨s * price pp t, lmin_some.mpr ⟨List.mem_map.mpr ⟨t, ht, rfl⟩, fun y hy => ?_⟩, side_sq hs _⟩
    obtain ⟨u, hu, rfl⟩ := List.mem_map.mp hy
    exact h u hu
theorem bestV_none {pp : Nat → Nat → Nat → Int} {tp : Nat → Nat → List Nat} {s : Int} {a b : Nat} : bestV pp tp s a b = none ↔ GD tp a b = [] := by
  unfold bestV
  rw [Option.map_eq_none_iff, lmin_none, List.map_eq_nil_iff]
theorem sumJ_some {f : Nat → Nat → Option Int} {pp : Nat → Nat → Nat → Int} {a b j : Nat} {m : Int} : sumJ f pp a b j = some m ↔ ∃ x y, f a j = some x ∧ f (j + 1) b = some y ∧ m = x + y + pp a j b := by
  unfold sumJ
  cases h1 : f a j with
  | none => exact ⟨fun h => (nomatch h), fun ⟨_, _, h, _⟩ => (nomatch h)⟩
  | some x =>
    cases h2 : f (j + 1) b with
    | none => exact ⟨fun h => (nomatch h), fun ⟨_, _, _, h, _⟩ => (nomatch h)⟩
    | some y =>
      constructor
      · intro h
        exact ⟨x, y, rfl, rfl, (Option.some.inj h).symm⟩
      · rintro ⟨x', y', h3, h4, rfl⟩
        rw [Option.some.inj h3, Option.some.inj h4]
section
variable {pp : Nat → Nat → Nat → Int} {tp : Nat → Nat → List Nat} {s : Int}
/-- the sums of a join: the best over the trees that it is outermost in -/
theorem sumJ_best (hs : Side s) (ok : TpOk tp) {a b j : Nat} (hj : j ∈ tp a b) {m : Int} (h : sumJ (bestV pp tp s) pp a b j = some m) :
    (∃ l ∈ GD tp a j, ∃ r ∈ GD tp (j + 1) b, price pp (.nd l r) = m) ∧ ∀ l ∈ GD tp a j, ∀ r ∈ GD tp (j + 1) b, s * m ≤ s * price pp (.nd l r) ∧ (m = price pp (.nd l r) → bestV pp tp s a j = some (price pp l) ∧ bestV pp tp s (j + 1) b = some (price pp r)) := by
  obtain ⟨h1, h2⟩ := ok a b j hj
  obtain ⟨x, y, hx, hy, rfl⟩ := sumJ_some.mp h
  obtain ⟨⟨l0, hl0, el0⟩, hx2⟩ := (bestV_some hs).mp hx
  obtain ⟨⟨r0, hr0, er0⟩, hy2⟩ := (bestV_some hs).mp hy
  have pe : ∀ l ∈ GD tp a j, ∀ r ∈ GD tp (j + 1) b, price pp (.nd l r) = price pp l + price pp r + pp a j b := fun l hl r hr => by
    rw [price_nd, span_fst (GD_span ok h1 l hl), span_lst (GD_span ok h1 l hl), span_lst (GD_span ok (by omega) r hr)]
  refine ⟨⟨l0, hl0, r0, hr0, by rw [pe l0 hl0 r0 hr0, el0, er0]⟩, fun l hl r hr => ?_⟩
  have i1 := hx2 l hl
  have i2 := hy2 r hr
  rw [pe l hl r hr, hx, hy]
  rcases hs with rfl | rfl
  · refine ⟨by omega, fun e => ?_⟩
    have z1 : x = price pp l := by omega
    have z2 : y = price pp r := by omega
    rw [z1, z2]
    exact ⟨rfl, rfl⟩
  · refine ⟨by omega, fun e => ?_⟩
    have z1 : x = price pp l := by omega
    have z2 : y = price pp r := by omega
    rw [z1, z2]
    exact ⟨rfl, rfl⟩
theorem sumJ_there (hs : Side s) {a b j : Nat} {l r : Tr} (hl : l ∈ GD tp a j) (hr : r ∈ GD tp (j + 1) b) : ∃ m, sumJ (bestV pp tp s) pp a b j = some m := by
  cases h1 : bestV pp tp s a j with
  | none =>
    rw [bestV_none.mp h1] at hl
    cases hl
  | some x =>
    cases h2 : bestV pp tp s (j + 1) b with
    | none =>
      rw [bestV_none.mp h2] at hr
      cases hr
    | some y => exact ⟨_, sumJ_some.mpr ⟨x, y, h1, h2, rfl⟩⟩
def sumsL (pp : Nat → Nat → Nat → Int) (tp : Nat → Nat → List Nat) (s : Int) (a b : Nat) : List (Nat × Int) := (tp a b).filterMap fun j => (sumJ (bestV pp tp s) pp a b j).map fun z => (j, z)
theorem mem_sumsL {a b j : Nat} {m : Int} : (j, m) ∈ sumsL pp tp s a b ↔ j ∈ tp a b ∧ sumJ (bestV pp tp s) pp a b j = some m := by
  unfold sumsL
  rw [List.mem_filterMap]
  constructor
  · rintro ⟨i, hi, h⟩
    obtain ⟨z, hz, e⟩ := Option.map_eq_some_iff.mp h
    cases e
    exact ⟨hi, hz⟩
  · rintro ⟨h1, h2⟩
    exact ⟨j, h1, by rw [h2]; rfl⟩
theorem best_rec (hs : Side s) (ok : TpOk tp) {a b : Nat} (hab : a < b) : bestV pp tp s a b = (lmin ((sumsL pp tp s a b).map fun z => s * z.2)).map (s * ·) := by
  cases h : lmin ((sumsL pp tp s a b).map fun z => s * z.2) with
  | none =>
    have e := List.map_eq_nil_iff.mp (lmin_none.mp h)
    refine bestV_none.mpr ?_
    refine List.eq_nil_iff_forall_not_mem.mpr fun t ht => ?_
    obtain ⟨j, hj, l, hl, r, hr, rfl⟩ := (mem_GD ok hab).mp ht
    obtain ⟨m, hm⟩ := sumJ_there (pp := pp) (s := s) hs hl hr
    have z := mem_sumsL.mpr ⟨hj, hm⟩
    rw [e] at z
    cases z
  | some x =>
    obtain ⟨h1, h2⟩ := lmin_some.mp h
    obtain ⟨⟨j, m⟩, hm, rfl⟩ := List.mem_map.mp h1
    obtain ⟨hj, hsj⟩ := mem_sumsL.mp hm
    obtain ⟨⟨l0, hl0, r0, hr0, e0⟩, _⟩ := sumJ_best hs ok hj hsj
    show _ = some (s * (s * m))
    rw [side_sq hs]
    refine (bestV_some hs).mpr ⟨⟨.nd l0 r0, (mem_GD ok hab).mpr ⟨j, hj, l0, hl0, r0, hr0, rfl⟩, e0⟩, fun t ht => ?_⟩
    obtain ⟨j', hj', l, hl, r, hr, rfl⟩ := (mem_GD ok hab).mp ht
    obtain ⟨m', hm'⟩ := sumJ_there (pp := pp) (s := s) hs hl hr
    have i1 := h2 _ (List.mem_map.mpr ⟨(j', m'), mem_sumsL.mpr ⟨hj', hm'⟩, rfl⟩)
    have i2 := ((sumJ_best hs ok hj' hm').2 l hl r hr).1
    exact Int.le_trans i1 i2
/-- the joins that reach the best -/
def tpB (pp : Nat → Nat → Nat → Int) (tp : Nat → Nat → List Nat) (s : Int) (a b : Nat) : List Nat := (tp a b).filter fun j => match sumJ (bestV pp tp s) pp a b j with
  | some m => decide (bestV pp tp s a b = some m)
  | none => false
theorem tpB_ok (ok : TpOk tp) : TpOk (tpB pp tp s) := fun a b j h => ok a b j (List.mem_filter.mp h).1
theorem tpB_sm (sm : TpSm tp) : TpSm (tpB pp tp s) := fun a b => Nat.le_trans (List.length_filter_le _ _) (sm a b)
theorem flatMap_filter {α β : Type} (p : α → Bool) (f : α → List β) : ∀ {l : List α}, (∀ x ∈ l, p x = false → f x = []) → (l.filter p).flatMap f = l.flatMap f
  | [], _ => rfl
  | x :: l, h => by
    have ih := flatMap_filter p f (l := l) fun y hy => h y (List.mem_cons_of_mem _ hy)
    cases c : p x with
    | true => rw [List.filter_cons, if_pos c, List.flatMap_cons, List.flatMap_cons, ih]
    | false => rw [List.filter_cons, if_neg (by rw [c]; decide), List.flatMap_cons, h x List.mem_cons_self c, List.nil_append, ih]
theorem filter_flatMap {α β : Type} (p : β → Bool) (f : α → List β) : ∀ l : List α, (l.flatMap f).filter p = l.flatMap fun x => (f x).filter p
  | [] => rfl
  | x :: l => by rw [List.flatMap_cons, List.filter_append, filter_flatMap p f l, List.flatMap_cons]
/-- the trees by those joins are the best trees -/
theorem GD_best (hs : Side s) (ok : TpOk tp) {a b : Nat} (h : a ≤ b) : GD (tpB pp tp s) a b = (GD tp a b).filter fun t => decide (bestV pp tp s a b = some (price pp t)) := by
  refine gd_ind ok (P := fun a b => GD (tpB pp tp s) a b = (GD tp a b).filter fun t => decide (bestV pp tp s a b = some (price pp t))) (fun a => ?_) (fun a b hab ih => ?_) (b - a) a b h (Nat.le_refl _)
  · have e : bestV pp tp s a a = some (price pp (.lf a)) := (bestV_some hs).mpr (by
      rw [GD_self]
      exact ⟨⟨_, List.mem_singleton_self _, rfl⟩, fun t ht => by rw [List.mem_singleton.mp ht]; exact Int.le_refl _⟩)
    rw [GD_self, GD_self, List.filter_cons, if_pos (decide_eq_true e)]
    rfl
  · rw [GD_eq (tpB_ok ok) hab, GD_eq ok hab, filter_flatMap]
    -- a tree of a join is best where both halves are and the join's sum is
    have key : ∀ j ∈ tp a b, ∀ l ∈ GD tp a j, ∀ r ∈ GD tp (j + 1) b, bestV pp tp s a b = some (price pp (.nd l r)) ↔ (j ∈ tpB pp tp s a b ∧ bestV pp tp s a j = some (price pp l) ∧ bestV pp tp s (j + 1) b = some (price pp r)) := fun j hj l hl r hr => by
      obtain ⟨h1, h2⟩ := ok a b j hj
      obtain ⟨m, hm⟩ := sumJ_there (pp := pp) (s := s) hs hl hr
      obtain ⟨⟨l0, hl0, r0, hr0, e0⟩, hall⟩ := sumJ_best hs ok hj hm
      have hB : j ∈ tpB pp tp s a b ↔ bestV pp tp s a b = some m := by
        unfold tpB
        rw [List.mem_filter, hm]
        exact ⟨fun h => of_decide_eq_true h.2, fun h => ⟨hj, decide_eq_true h⟩⟩
      rw [hB]
      constructor
      · intro e
        obtain ⟨_, hb2⟩ := (bestV_some hs).mp e
        have i1 := hb2 _ ((mem_GD ok hab).mpr ⟨j, hj, l0, hl0, r0, hr0, rfl⟩)
        have i2 := (hall l hl r hr).1
        rw [e0] at i1
        have em : m = price pp (.nd l r) := by
          rcases hs with rfl | rfl <;> omega
        exact ⟨by rw [em]; exact e, (hall l hl r hr).2 em⟩
      · rintro ⟨e, e1, e2⟩
        obtain ⟨x, y, hx, hy, em⟩ := sumJ_some.mp hm
        rw [e1] at hx
        rw [e2] at hy
        rw [e, em, ← Option.some.inj hx, ← Option.some.inj hy, price_nd, span_fst (GD_span ok h1 l hl), span_lst (GD_span ok h1 l hl), span_lst (GD_span ok (by omega) r hr)]
    show (tpB pp tp s a b).flatMap _ = _
    have step : ∀ j ∈ tpB pp tp s a b, ((GD (tpB pp tp s) a j).flatMap fun l => (GD (tpB pp tp s) (j + 1) b).map (Tr.nd l)) = (((GD tp a j).flatMap fun l => (GD tp (j + 1) b).map (Tr.nd l)).filter fun t => decide (bestV pp tp s a b = some (price pp t))) := fun j hB => by
      have hj : j ∈ tp a b := (List.mem_filter.mp hB).1
      rw [(ih j hj).1, (ih j hj).2, filter_flatMap]
      have e1 : ∀ l ∈ GD tp a j, bestV pp tp s a j = some (price pp l) → ((GD tp (j + 1) b).filter fun t => decide (bestV pp tp s (j + 1) b = some (price pp t))).map (Tr.nd l) = ((GD tp (j + 1) b).map (Tr.nd l)).filter fun t => decide (bestV pp tp s a b = some (price pp t)) := fun l hl hb => by
        rw [List.filter_map]
        congr 1
        refine List.filter_congr fun r hr => ?_
        show decide _ = decide _
        rw [decide_eq_decide, key j hj l hl r hr]
        exact ⟨fun h => ⟨hB, hb, h⟩, fun h => h.2.2⟩
      rw [flatMap_congr (g := fun l => ((GD tp (j + 1) b).map (Tr.nd l)).filter fun t => decide (bestV pp tp s a b = some (price pp t))) fun l hl => e1 l (List.mem_filter.mp hl).1 (of_decide_eq_true (List.mem_filter.mp hl).2)]
      refine flatMap_filter _ _ fun l hl hp => ?_
      refine List.filter_eq_nil_iff.mpr fun t ht => ?_
      obtain ⟨r, hr, rfl⟩ := List.mem_map.mp ht
      intro c
      have z := ((key j hj l hl r hr).mp (of_decide_eq_true c)).2.1
      exact of_decide_eq_false hp z
    rw [flatMap_congr step]
    refine flatMap_filter _ _ fun j hj hp => ?_
    refine List.filter_eq_nil_iff.mpr fun t ht => ?_
    obtain ⟨l, hl, ht⟩ := List.mem_flatMap.mp ht
    obtain ⟨r, hr, rfl⟩ := List.mem_map.mp ht
    intro c
    have z := ((key j hj l hl r hr).mp (of_decide_eq_true c)).1
    have z2 := (List.mem_filter.mp z).2
    rw [hp] at z2
    exact Bool.noConfusion z2
/-! ### the sum of all -/
def sumG (pp : Nat → Nat → Nat → Int) (tp : Nat → Nat → List Nat) (a b : Nat) : Int := ((GD tp a b).map (price pp)).sum
theorem sum_prod (f : Tr → Int) (c : Int) (g : Tr → Tr → Int) (xs ys : List Tr) (h : ∀ x ∈ xs, ∀ y ∈ ys, g x y = f x + f y + c) :
    ((xs.flatMap fun l => ys.map fun r => g l r)).sum = (xs.map f).sum * ys.length + xs.length * (ys.map f).sum + xs.length * ys.length * c := by
  have one : ∀ (x : Tr) (ys : List Tr), (∀ y ∈ ys, g x y = f x + f y + c) → (ys.map fun r => g x r).sum = f x * ys.length + (ys.map f).sum + ys.length * c := by
    intro x ys
    induction ys with
    | nil => intro _; simp
    | cons y ys ih =>
      intro h
      rw [List.map_cons, List.sum_cons, h y List.mem_cons_self, ih fun z hz => h z (List.mem_cons_of_mem _ hz), List.map_cons, List.sum_cons, List.length_cons]
      have e1 : f x * ((ys.length + 1 : Nat) : Int) = f x * ys.length + f x := by rw [Int.natCast_add, Int.mul_add]; simp
      have e2 : ((ys.length + 1 : Nat) : Int) * c = ys.length * c + c := by rw [Int.natCast_add, Int.add_mul]; simp
      rw [e1, e2]
      omega
  induction xs with
  | nil => simp
  | cons x xs ih =>
    rw [List.flatMap_cons, List.sum_append, one x ys (h x List.mem_cons_self), ih fun z hz => h z (List.mem_cons_of_mem _ hz), List.map_cons, List.sum_cons, List.length_cons]
    have e1 : (f x + (xs.map f).sum) * (ys.length : Int) = f x * ys.length + (xs.map f).sum * ys.length := Int.add_mul _ _ _
    have e2 : ((xs.length + 1 : Nat) : Int) * (ys.map f).sum = xs.length * (ys.map f).sum + (ys.map f).sum := by rw [Int.natCast_add, Int.add_mul]; simp
    have e3 : ((xs.length + 1 : Nat) : Int) * ys.length * c = xs.length * ys.length * c + ys.length * c := by rw [Int.natCast_add, Int.add_mul, Int.add_mul]; simp
    rw [e1, e2, e3]
    omega
def sumJJ (pp : Nat → Nat → Nat → Int) (tp : Nat → Nat → List Nat) (a b j : Nat) : Int :=
  sumG pp tp a j * (GD tp (j + 1) b).length + (GD tp a j).length * sumG pp tp (j + 1) b + (GD tp a j).length * (GD tp (j + 1) b).length * pp a j b
theorem flatMap_isum {α : Type} (f : α → List Int) : ∀ l : List α, (l.flatMap f).sum = (l.map fun x => (f x).sum).sum
  | [] => rfl
  | x :: l => by rw [List.flatMap_cons, List.sum_append, List.map_cons, List.sum_cons, flatMap_isum f l]
theorem map_flatMap' {α β γ : Type} (g : β → γ) (f : α → List β) : ∀ l : List α, (l.flatMap f).map g = l.flatMap fun x => (f x).map g
  | [] => rfl
  | x :: l => by rw [List.flatMap_cons, List.map_append, map_flatMap' g f l, List.flatMap_cons]
theorem sum_rec (ok : TpOk tp) {a b : Nat} (hab : a < b) : sumG pp tp a b = ((tp a b).map (sumJJ pp tp a b)).sum := by
  unfold sumG
  rw [GD_eq ok hab, map_flatMap', flatMap_isum]
  congr 1
  refine List.map_congr_left fun j hj => ?_
  obtain ⟨h1, h2⟩ := ok a b j hj
  rw [map_flatMap']
  have e : ((GD tp a j).flatMap fun x => ((GD tp (j + 1) b).map (Tr.nd x)).map (price pp)) = (GD tp a j).flatMap fun l => (GD tp (j + 1) b).map fun r => price pp (.nd l r) := by
    refine flatMap_congr fun l _ => ?_
    rw [List.map_map]
    rfl
  rw [e, sum_prod (price pp) (pp a j b) (fun l r => price pp (.nd l r)) _ _ fun l hl r hr => by rw [price_nd, span_fst (GD_span ok h1 l hl), span_lst (GD_span ok h1 l hl), span_lst (GD_span ok (by omega) r hr)]]
  rfl
end
end RG

set_option Elab.async false
set_option linter.all false
set_option maxRecDepth 100000
set_option maxHeartbeats 4000000
namespace RG
open PySem PySem.Spec PyProof.Rows L2
variable {P : Program} {w : World} {K : PySem.W.Frag} {mg : Str → Option Value} {base : Heap}
/-! ### is_number -/
def isNum (d : PyData) : Bool := isInt d && !isBool d
def spIsNum (K : PySem.W.Frag) : Sp := fun vs H Q _ => ∃ v d, vs = [v] ∧ Dp K H v d ∧ Q (.bl (isNum d)) H
theorem ok_is_number (T : Txt K mg) : DefOk P w K mg base CX0 "is_number" p_is_number 2 (spIsNum K) := by
  obtain ⟨fd, F⟩ := T.F_is_number
  refine ⟨⟨_, fd, T.g_is_number, F.kp, F.bindsN (ps := p_is_number) (fun _ _ _ _ _ _ us hl => match us, hl with | [_], _ => rfl), F.ok sc_is_number (fun vs H Q E h => ?_) fun cdv A outer s H vs Q E hr h => ?_⟩⟩
  · obtain ⟨v, d, rfl, _⟩ := h
    rfl
  obtain ⟨v, d, rfl, hd, q⟩ := h
  refine ⟨_, PSs.nox (pss_one (ps_ret (pe_and (pe_callB (r := rIsi K) call_isi rfl T.f_isinstance b_isinstance (pa_cons (pv 0) (pa_cons (pe_bltn (v := .ty "int") rfl T.f_int b_int rfl) pa_nil))) (pe_one (pe_not (pe_callB (r := rIsi K) call_isi rfl T.f_isinstance b_isinstance (pa_cons (pv 0) (pa_cons (pe_bltn (v := .ty "bool") rfl T.f_bool b_bool rfl) pa_nil)))))))), ?_⟩
  refine ⟨_, rfl, _, _, _, _, _, rfl, .ty _, dp_ty hd, kit_int d, _, rfl, ite2 (fun c => ⟨_, rfl, _, _, _, _, _, rfl, .ty _, dp_ty hd, kit_bool d, _, rfl, ?_⟩) (fun c => ?_)⟩
  · have e : isNum d = !isBool d := by unfold isNum; rw [c]; rfl
    rw [e] at q
    exact q
  · have e : isNum d = false := by unfold isNum; rw [Bool.eq_false_iff.mpr c]; rfl
    rw [e] at q
    exact q
/-! ### ends -/
def spEnds (K : PySem.W.Frag) : Sp := fun vs H Q _ => ∃ v t, vs = [v] ∧ TrM K H v t ∧ ∀ p H', Ex H H' → H' p = some (.tup [.int t.fst, .int t.lst]) → Q (.ref p) H'
theorem ok_ends (T : Txt K mg) (D_is_number : DefOk P w K mg base CX0 "is_number" p_is_number 2 (spIsNum K)) : DefOk P w K mg base CX0 "ends" p_ends 4 (spEnds K) := by
  obtain ⟨fd, F⟩ := T.F_ends
  refine ⟨⟨_, fd, T.g_ends, F.kp, F.bindsN (ps := p_ends) (fun _ _ _ _ _ _ us hl => match us, hl with | [_], _ => rfl), F.ok sc_ends (fun vs H Q E h => ?_) fun cdv A outer s H vs Q E hr h => ?_⟩⟩
  · obtain ⟨v, t, rfl, _⟩ := h
    rfl
  obtain ⟨v, t, rfl, ht, q⟩ := h
  refine ⟨_, PSs.nox (pss_cons (ps_par (i := 1) (j := 2) rfl sc_ends.nd rfl rfl (by decide) rfl rfl (pa_cons (pv 0) (pa_cons (pv 0) pa_nil)) (by rfl)) (pss_cons (ps_while PassesOwn.never (pt_not (pt_val (pe_d D_is_number (hr.mono (by omega)) pass0 (pa_cons (pv 1) pa_nil)))) (pss_one (ps_set (i := 1) sc_ends.nd rfl (Or.inl rfl) (pe_ix (r := rIx K) ix_seq (pv 1) pe_int (fun _ _ => rfl))))) (pss_cons (ps_while PassesOwn.never (pt_not (pt_val (pe_d D_is_number (hr.mono (by omega)) pass0 (pa_cons (pv 2) pa_nil)))) (pss_one (ps_set (i := 2) sc_ends.nd rfl (Or.inl rfl) (pe_ix (r := rIx K) ix_seq (pv 2) pe_int (fun _ _ => rfl))))) (pss_one (ps_ret (pe_tup (pa_cons (pv 1) (pa_cons (pv 2) pa_nil)))))))), ?_⟩
  refine ⟨_, rfl, _, rfl, _, _, rfl, ?_⟩
  refine ⟨fun m σ H' => ∃ x u, σ = [some v, some x, some v] ∧ H = H' ∧ TrM K H x u ∧ u.fst = t.fst ∧ m = u.ht, ⟨_, v, t, rfl, rfl, ht, rfl, rfl⟩, ?_⟩
  rintro m σ H' ⟨x, u, rfl, rfl, hu, hf, rfl⟩
  obtain ⟨d, hd, hn⟩ := hu.data
  refine ⟨_, rfl, x, d, rfl, hd, _, rfl, ?_⟩
  cases u with
  | nd l r =>
    refine ifT (by rw [show isNum d = false from hn]; rfl) ⟨fun σ' H' => ∃ y, TrM K H y l ∧ σ' = [some v, some y, some v] ∧ H = H', ?_, _, rfl, hu.ix0 fun y hy => ⟨y, hy, rfl, rfl⟩⟩
    rintro σ' H' ⟨y, hy, rfl, rfl⟩
    exact ⟨l.ht, by show l.ht < max l.ht r.ht + 1; omega, y, l, rfl, rfl, hy, hf, rfl⟩
  | lf n =>
    cases hu
    refine ifF (by rw [show isNum d = true from hn]; rfl) ?_
    have en : n = t.fst := hf
    subst en
    refine ⟨fun m σ H' => ∃ x u, σ = [some v, some (.int t.fst), some x] ∧ H = H' ∧ TrM K H x u ∧ u.lst = t.lst ∧ m = u.ht, ⟨_, v, t, rfl, rfl, ht, rfl, rfl⟩, ?_⟩
    rintro m σ H' ⟨x, u, rfl, rfl, hu, hl, rfl⟩
    obtain ⟨d, hd, hn⟩ := hu.data
    refine ⟨_, rfl, x, d, rfl, hd, _, rfl, ?_⟩
    cases u with
    | nd l r =>
      refine ifT (by rw [show isNum d = false from hn]; rfl) ⟨fun σ' H' => ∃ y, TrM K H y r ∧ σ' = [some v, some (.int t.fst), some y] ∧ H = H', ?_, _, rfl, hu.ix1 fun y hy => ⟨y, hy, rfl, rfl⟩⟩
      rintro σ' H' ⟨y, hy, rfl, rfl⟩
      exact ⟨r.ht, by show r.ht < max l.ht r.ht + 1; omega, y, r, rfl, rfl, hy, hl, rfl⟩
    | lf n =>
      cases hu
      refine ifF (by rw [show isNum d = true from hn]; rfl) ?_
      have en : n = t.lst := hl
      subst en
      exact ⟨_, rfl, _, rfl, (by show 2 ≤ sizeLine; decide), fun p hp => q p _ (Evl.Ex.new hp) upd_same⟩
/-! ### factors_in -/
def spFactorsIn (K : PySem.W.Frag) : Sp := fun vs H Q _ => ∃ v t, vs = [v] ∧ TrM K H v t ∧ ∀ H', Ex H H' → Q (.int t.lst) H'
theorem ok_factors_in (T : Txt K mg) (D_ends : DefOk P w K mg base CX0 "ends" p_ends 4 (spEnds K)) : DefOk P w K mg base CX0 "factors_in" p_factors_in 5 (spFactorsIn K) := by
  obtain ⟨fd, F⟩ := T.F_factors_in
  refine ⟨⟨_, fd, T.g_factors_in, F.kp, F.bindsN (ps := p_factors_in) (fun _ _ _ _ _ _ us hl => match us, hl with | [_], _ => rfl), F.ok sc_factors_in (fun vs H Q E h => ?_) fun cdv A outer s H vs Q E hr h => ?_⟩⟩
  · obtain ⟨v, t, rfl, _⟩ := h
    rfl
  obtain ⟨v, t, rfl, ht, q⟩ := h
  refine ⟨_, PSs.nox (pss_one (ps_ret (pe_ix (r := rIxT K) ix_tup (pe_d D_ends (hr.mono (by omega)) pass0 (pa_cons (pv 0) pa_nil)) pe_int (fun _ _ => rfl)))), ?_⟩
  exact ⟨_, rfl, v, t, rfl, ht, fun p H1 e1 h1 => ⟨p, _, 1, _, rfl, rfl, SqT.of h1, rfl, q _ e1⟩⟩
/-! ### spans -/
def spSpans (K : PySem.W.Frag) (n : Nat) : Sp := fun vs H Q _ => ∃ v t, vs = [v] ∧ TrM K H v t ∧ t.ht < n ∧ t.trip.length ≤ 1000 ∧ ∀ r H', Ex H H' → LO RTrip H' r t.trip → Q r H'
theorem spans_none (T : Txt K mg) {k : Nat} : DefOk P w K mg base CX0 "spans" p_spans k (spSpans K 0) := by
  have no : ∀ vs H Q E, ¬ spSpans K 0 vs H Q E := fun vs H Q E ⟨_, _, _, _, h, _⟩ => absurd h (Nat.not_lt_zero _)
  obtain ⟨fd, F⟩ := T.F_spans
  exact ⟨⟨_, fd, T.g_spans, F.kp, F.bindsN (ps := p_spans) (fun _ _ _ _ _ _ us hl => match us, hl with | [_], _ => rfl), fn_none no⟩⟩
theorem spans_more (T : Txt K mg) (D_is_number : DefOk P w K mg base CX0 "is_number" p_is_number 2 (spIsNum K)) (D_ends : DefOk P w K mg base CX0 "ends" p_ends 4 (spEnds K)) {n : Nat} (D_spans : DefOk P w K mg base CX0 "spans" p_spans (n + 5) (spSpans K n)) :
    DefOk P w K mg base CX0 "spans" p_spans (n + 6) (spSpans K (n + 1)) := by
  obtain ⟨fd, F⟩ := T.F_spans
  refine ⟨⟨_, fd, T.g_spans, F.kp, F.bindsN (ps := p_spans) (fun _ _ _ _ _ _ us hl => match us, hl with | [_], _ => rfl), F.ok sc_spans (fun vs H Q E h => ?_) fun cdv A outer s H vs Q E hr h => ?_⟩⟩
  · obtain ⟨v, t, rfl, _⟩ := h
    rfl
  obtain ⟨v, t, rfl, ht, hh, hz, q⟩ := h
  refine ⟨_, PSs.nox (pss_cons (ps_if (pt_val (pe_d D_is_number (hr.mono (by omega)) pass0 (pa_cons (pv 0) pa_nil))) (pss_one (ps_ret (pe_lst pa_nil))) pss_nil) (pss_cons (ps_par (i := 1) (j := 2) rfl sc_spans.nd rfl rfl (by decide) rfl rfl (pa_cons (pe_d D_spans (hr.mono (by omega)) pass0 (pa_cons (pe_ix (r := rIx K) ix_seq (pv 0) pe_int (fun _ _ => rfl)) pa_nil)) (pa_cons (pe_d D_spans (hr.mono (by omega)) pass0 (pa_cons (pe_ix (r := rIx K) ix_seq (pv 0) pe_int (fun _ _ => rfl)) pa_nil)) pa_nil)) (by rfl)) (pss_cons (ps_asg (pe_d D_ends (hr.mono (by omega)) pass0 (pa_cons (pe_ix (r := rIx K) ix_seq (pv 0) pe_int (fun _ _ => rfl)) pa_nil)) (pg_tup rfl (pgs_cons (pg_name (i := 3) sc_spans.nd rfl (Or.inl rfl)) (pgs_cons (pg_name (i := 4) sc_spans.nd rfl (Or.inl rfl)) pgs_nil)))) (pss_one (ps_ret (pe_lst (StX.pa_star (pv 1) (pa_cons (pe_tup (pa_cons (pv 3) (pa_cons (pv 4) (pa_cons (pe_ix (r := rIxT K) ix_tup (pe_d D_ends (hr.mono (by omega)) pass0 (pa_cons (pe_ix (r := rIx K) ix_seq (pv 0) pe_int (fun _ _ => rfl)) pa_nil)) pe_int (fun _ _ => rfl)) pa_nil)))) (StX.pa_star (pv 2) pa_nil))))))))), ?_⟩
  obtain ⟨d, hd, hn⟩ := ht.data
  refine ⟨_, rfl, v, d, rfl, hd, _, rfl, ?_⟩
  cases t with
  | lf m =>
    refine ifT hn ⟨(by show 0 ≤ sizeLine; decide), fun p hp => q _ _ (Evl.Ex.new hp) ⟨p, _, rfl, upd_same, .nil⟩⟩
  | nd l r =>
    refine ifF hn ?_
    have hz' : l.trip.length + (r.trip.length + 1) ≤ 1000 := by
      have e : (Tr.nd l r).trip.length = l.trip.length + (r.trip.length + 1) := by
        show (l.trip ++ (l.fst, l.lst, r.lst) :: r.trip).length = _
        rw [List.length_append, List.length_cons]
      rw [← e]
      exact hz
    have hl : l.ht < n := by have : max l.ht r.ht + 1 < n + 1 := hh; omega
    have hr' : r.ht < n := by have : max l.ht r.ht + 1 < n + 1 := hh; omega
    refine ⟨_, rfl, ht.ix0 fun x hx => ⟨x, l, rfl, hx, hl, by omega, fun r1 H1 e1 l1 => ?_⟩⟩
    refine ⟨_, rfl, (ht.ex e1).ix1 fun y hy => ⟨y, r, rfl, hy, hr', by omega, fun r2 H2 e2 l2 => ⟨_, _, rfl, ?_⟩⟩⟩
    have e12 := e1.trans e2
    refine ⟨_, rfl, (ht.ex e12).ix0 fun x hx => ⟨x, l, rfl, hx, fun p3 H3 e3 h3 => ⟨p3, _, rfl, SqT.of h3, rfl, _, _, rfl, _, _, rfl, rfl, ?_⟩⟩⟩
    have e13 := e12.trans e3
    obtain ⟨q1, vs1, rfl, hq1, pr1⟩ := (l1.ex mono_trip e2).ex mono_trip e3
    obtain ⟨q2, vs2, rfl, hq2, pr2⟩ := l2.ex mono_trip e3
    refine ⟨_, rfl, q1, vs1, rfl, .inr (SqL.of hq1), _, rfl, _, rfl, _, rfl, (ht.ex e13).ix1 fun y hy => ⟨y, r, rfl, hy, fun p4 H4 e4 h4 => ⟨p4, _, 1, _, rfl, rfl, SqT.of h4, rfl, (by show 3 ≤ sizeLine; decide), fun p5 hp5 => ?_⟩⟩⟩
    have e45 : Ex H4 (upd H4 p5 (.tup [.int l.fst, .int l.lst, .int r.lst])) := Evl.Ex.new hp5
    have hq2' := e45 _ _ (e4 _ _ hq2)
    have n1 := pr1.length
    have n2 := pr2.length
    refine ⟨_, rfl, q2, vs2, rfl, .inr (SqL.of hq2'), (by
      show (vs1 ++ _ :: (vs2 ++ [])).length ≤ sizeLine
      rw [List.append_nil, List.length_append, List.length_cons]
      exact sz_le (by omega)), fun p6 hp6 => ?_⟩
    have e56 := Evl.Ex.new (o := .lst (vs1 ++ V.ref p5 :: (vs2 ++ []))) hp6
    have e46 := e45.trans e56
    refine q _ _ (e13.trans (e4.trans e46)) ⟨p6, _, rfl, upd_same, ?_⟩
    have pr3 : Paired (RTrip H3) (vs2 ++ []) r.trip := by
      rw [List.append_nil]
      exact pr2
    exact paired_app (Paired.mapP pr1 fun _ _ z => mono_trip _ _ _ _ (e4.trans e46) z) (.cons ⟨p5, rfl, e56 _ _ upd_same⟩ (Paired.mapP pr3 fun _ _ z => mono_trip _ _ _ _ (e4.trans e46) z))
theorem ok_spans (T : Txt K mg) (D_is_number : DefOk P w K mg base CX0 "is_number" p_is_number 2 (spIsNum K)) (D_ends : DefOk P w K mg base CX0 "ends" p_ends 4 (spEnds K)) : ∀ n : Nat, DefOk P w K mg base CX0 "spans" p_spans (n + 5) (spSpans K n)
  | 0 => spans_none T
  | n + 1 => spans_more T D_is_number D_ends (ok_spans T D_is_number D_ends n)
end RG

set_option Elab.async false
set_option linter.all false
set_option maxRecDepth 100000
set_option maxHeartbeats 4000000
namespace RG
open PySem PySem.Spec PyProof.Rows L2
variable {P : Program} {w : World} {K : PySem.W.Frag} {mg : Str → Option Value} {base : Heap}
/-! ### reaches -/
def spReaches (K : PySem.W.Frag) : Sp := fun vs H Q _ => ∃ v t, vs = [v] ∧ TrM K H v t ∧ t.ht < 30 ∧ t.trip.length ≤ 1000 ∧ ∀ r H', Ex H H' → TO RNat H' r t.rch → Q r H'
theorem ok_reaches (T : Txt K mg) (D_spans : DefOk P w K mg base CX0 "spans" p_spans 35 (spSpans K 30)) : DefOk P w K mg base CX0 "reaches" p_reaches 36 (spReaches K) := by
  obtain ⟨fd, F⟩ := T.F_reaches
  refine ⟨⟨_, fd, T.g_reaches, F.kp, F.bindsN (ps := p_reaches) (fun _ _ _ _ _ _ us hl => match us, hl with | [_], _ => rfl), F.ok sc_reaches (fun vs H Q E h => ?_) fun cdv A outer s H vs Q E hr h => ?_⟩⟩
  · obtain ⟨v, t, rfl, _⟩ := h
    rfl
  obtain ⟨v, t, rfl, ht, hh, hz, q⟩ := h
  refine ⟨_, PSs.nox (pss_one (ps_ret (pe_callTy (r := rTupOf K) call_tuple_of rfl T.f_tuple b_tuple (pa_cons (pe_lc (own := [("first", 1), ("join", 2), ("last", 3)]) (g := (gTup K 3 (gCons (gName 1) (gCons (gName 2) (gCons (gName 3) gNil))))) rfl sc_reaches.nd (pi_list (pe_d D_spans (hr.mono (by omega)) pass0 (pa_cons (pv 0) pa_nil))) (blkOk_by (own := [("first", 1), ("join", 2), ("last", 3)]) (N := n_reaches) (sc := (defScope s_reaches)) (by decide +kernel)) (fun _ _ _ _ _ => (by exact (pg_tup rfl (pgs_cons (pg_name (i := 1) sc_reaches.nd rfl (Or.inl rfl)) (pgs_cons (pg_name (i := 2) sc_reaches.nd rfl (Or.inl rfl)) (pgs_cons (pg_name (i := 3) sc_reaches.nd rfl (Or.inl rfl)) pgs_nil)))))) (fun _ _ _ _ _ => pts_nil) (fun _ _ _ _ _ => (pv 3))) pa_nil)))), ?_⟩
  refine ⟨_, rfl, v, t, rfl, ht, hh, hz, fun r H1 e1 l1 => ?_⟩
  obtain ⟨p, vs, rfl, hp, pr⟩ := l1
  refine ⟨p, rfl, ⟨_, SqL.of hp⟩, fun D hD => lc_map (fun z => z.2.2) (src_list mono_trip (SqL.of hp) pr) monoT_nat (by omega) (fun i z x H2 _ e ⟨q, hx, hq⟩ Ky ky => ?_) gm_tup3 hD fun ys H2 e hy py => ?_⟩
  · exact gtup3 hx hq ⟨rfl, _, rfl, ky _ _ (exr _) rfl⟩
  · exact ⟨D, ys, rfl, .inl ⟨SqL.of hy, fun l hl => q _ _ ((e1.trans e).trans (Evl.Ex.new hl)) ⟨l, ys, rfl, upd_same, Paired.mapP py fun _ _ z => z⟩⟩⟩
/-! ### singles -/
def spSingles : Sp := fun vs H Q _ => ∃ n : Nat, vs = [.int n] ∧ n ≤ 1000 ∧ ∀ r H', Ex H H' → LO RPr H' r ((List.range n).map fun i => (i + 1, i + 1)) → Q r H'
theorem ok_singles (T : Txt K mg) : DefOk P w K mg base CX0 "singles" p_singles 1 spSingles := by
  obtain ⟨fd, F⟩ := T.F_singles
  refine ⟨⟨_, fd, T.g_singles, F.kp, F.bindsN (ps := p_singles) (fun _ _ _ _ _ _ us hl => match us, hl with | [_], _ => rfl), F.ok sc_singles (fun vs H Q E h => ?_) fun cdv A outer s H vs Q E hr h => ?_⟩⟩
  · obtain ⟨n, rfl, _⟩ := h
    rfl
  obtain ⟨n, rfl, hn, q⟩ := h
  refine ⟨_, PSs.nox (pss_one (ps_ret (pe_lc (own := [("first", 1)]) (g := (gName 1)) rfl sc_singles.nd (pi_range2 rfl T.f_range (pa_cons pe_int (pa_cons (pe_op op_add (pv 0) pe_int) pa_nil))) (blkOk_by (own := [("first", 1)]) (N := n_singles) (sc := (defScope s_singles)) (by decide +kernel)) (fun _ _ _ _ _ => (by exact (pg_name (i := 1) sc_singles.nd rfl (Or.inl rfl)))) (fun _ _ _ _ _ => pts_nil) (fun _ _ _ _ _ => (pe_tup (pa_cons (pv 1) (pa_cons (pv 1) pa_nil))))))), ?_⟩
  refine ⟨_, rfl, _, _, rfl, rfl, 1, (n : Int) + 1, rfl, ⟨by omega, by omega, by omega, by omega⟩, fun D hD => lc_map (γ := Nat × Nat) (fun z : Int => (z.toNat, z.toNat)) src_rng monoT_pr (by rw [List.length_map, List.length_range]; omega) (fun i z x H2 hz e r Ky ky => ?_) gm_name hD fun ys H2 e hy py => ?_⟩
  · obtain rfl : x = .int z := r
    have hi := (List.getElem?_eq_some_iff.mp hz).1
    rw [List.length_map, List.length_range] at hi
    rw [List.getElem?_map, List.getElem?_range hi] at hz
    have ez : (1 : Int) + (i : Int) = z := Option.some.inj hz
    refine ⟨rfl, _, rfl, _, rfl, (by show 2 ≤ sizeLine; decide), fun p hp => ky _ _ (Evl.Ex.new hp) ⟨p, rfl, ?_⟩⟩
    rw [upd_same]
    have e1 : ((z.toNat : Nat) : Int) = z := by omega
    show some (HO.tup [V.int z, V.int z]) = some (HO.tup [V.int ((z.toNat : Nat) : Int), V.int ((z.toNat : Nat) : Int)])
    rw [e1]
  · refine q _ _ e ⟨D, ys, rfl, hy, ?_⟩
    have el : (((List.range ((n : Int) + 1 - 1).toNat).map fun i : Nat => (1 : Int) + (i : Int)).map fun z : Int => (z.toNat, z.toNat)) = (List.range n).map fun i => (i + 1, i + 1) := by
      have e1 : ((n : Int) + 1 - 1).toNat = n := by omega
      rw [e1, List.map_map]
      refine List.map_congr_left fun i _ => ?_
      have e2 : ((1 : Int) + (i : Int)).toNat = i + 1 := by omega
      show (((1 : Int) + (i : Int)).toNat, ((1 : Int) + (i : Int)).toNat) = _
      rw [e2]
    rw [← el]
    exact py
/-! ### stretches -/
def strow (n i : Nat) : List (Nat × Nat) := (List.range (n - (i + 1))).map fun f => (f + 1, f + 1 + (i + 1))
def stq (n i : Nat) : List (Nat × Nat) := (List.range i).flatMap (strow n)
def sl (n : Nat) : List (Nat × Nat) := stq n (n - 1)
theorem stq_more (n i : Nat) : stq n (i + 1) = stq n i ++ strow n i := by
  unfold stq
  rw [List.range_succ, List.flatMap_append, List.flatMap_singleton]
theorem strow_more (j i : Nat) : ((List.range (j + 1)).map fun f => (f + 1, f + 1 + (i + 1))) = ((List.range j).map fun f => (f + 1, f + 1 + (i + 1))) ++ [(j + 1, j + 1 + (i + 1))] := by
  rw [List.range_succ, List.map_append]
  rfl
theorem stq_len (n : Nat) : ∀ i, (stq n i).length ≤ n * i
  | 0 => by show 0 ≤ _; exact Nat.zero_le _
  | i + 1 => by
    rw [stq_more, List.length_append, Nat.mul_succ]
    have h := stq_len n i
    have h2 : (strow n i).length ≤ n := by
      unfold strow
      rw [List.length_map, List.length_range]
      omega
    omega
def spStretches : Sp := fun vs H Q _ => ∃ n : Nat, vs = [.int n] ∧ n ≤ 100 ∧ ∀ r H', Ex H H' → LO RPr H' r (sl n) → Q r H'
theorem ok_stretches (T : Txt K mg) : DefOk P w K mg base CX0 "stretches" p_stretches 1 spStretches := by
  obtain ⟨fd, F⟩ := T.F_stretches
  refine ⟨⟨_, fd, T.g_stretches, F.kp, F.bindsN (ps := p_stretches) (fun _ _ _ _ _ _ us hl => match us, hl with | [_], _ => rfl), F.ok sc_stretches (fun vs H Q E h => ?_) fun cdv A outer s H vs Q E hr h => ?_⟩⟩
  · obtain ⟨n, rfl, _⟩ := h
    rfl
  obtain ⟨n, rfl, hn, q⟩ := h
  refine ⟨_, PSs.nox (pss_one (ps_ret (pe_lc2 (own := [("size", 1), ("first", 2)]) (vs1 := [2]) rfl sc_stretches.nd (pi_range2 rfl T.f_range (pa_cons pe_int (pa_cons (pv 0) pa_nil))) (blkOk_by (own := [("size", 1), ("first", 2)]) (N := n_stretches) (sc := (defScope s_stretches)) (by decide +kernel)) (by decide) (fun _ _ _ _ _ => (by exact (pg_name (i := 1) sc_stretches.nd rfl (Or.inl rfl)))) (fun _ _ _ _ _ => pts_nil) (fun _ _ _ _ _ => (pi_range2 rfl T.f_range (pa_cons pe_int (pa_cons (pe_op op_add (pe_op op_sub (pv 0) (pv 1)) pe_int) pa_nil)))) (fun _ _ _ _ _ => (by exact (pg_name (i := 2) sc_stretches.nd rfl (Or.inl rfl)))) (fun _ _ _ _ _ => pts_nil) (fun _ _ _ _ _ => (pe_tup (pa_cons (pv 2) (pa_cons (pe_op op_add (pv 2) (pv 1)) pa_nil))))))), ?_⟩
  refine ⟨_, rfl, 1, (n : Int), rfl, ⟨by omega, by omega, by omega, by omega⟩, fun D hD => ?_⟩
  have en : ((n : Int) - 1).toNat = n - 1 := by omega
  refine ⟨fun i m H' => m = (n - 1) - i ∧ i ≤ n - 1 ∧ Ex H H' ∧ ∃ acc, H' D = some (.lst acc) ∧ Paired (RPr H') acc (stq n i), ⟨_, rfl, Nat.zero_le _, Evl.Ex.new hD, [], upd_same, .nil⟩, ?_⟩
  rintro i m H1 ⟨rfl, hi, e1, acc, ha, pa⟩
  by_cases hlt : i < n - 1
  · refine .inr ⟨by show i < ((n : Int) - 1).toNat; omega, fun H' => Ex H H' ∧ ∃ acc, H' D = some (.lst acc) ∧ Paired (RPr H') acc (stq n (i + 1)), fun H' hp => ⟨_, by omega, rfl, by omega, hp⟩, fun x H' hx => ?_⟩
    obtain ⟨rfl, rfl⟩ := hx
    refine ⟨rfl, yes_go ?_⟩
    refine ⟨_, rfl, _, rfl, _, _, rfl, rfl, _, _, rfl, rfl, 1, (n : Int) - (1 + (i : Int)) + 1, rfl, ⟨by omega, by omega, by omega, by omega⟩, ?_⟩
    have ej : ((n : Int) - (1 + (i : Int)) + 1 - 1).toNat = n - (i + 1) := by omega
    refine ⟨fun j k H' => k = (n - (i + 1)) - j ∧ j ≤ n - (i + 1) ∧ Ex H H' ∧ ∃ acc, H' D = some (.lst acc) ∧ Paired (RPr H') acc (stq n i ++ (List.range j).map fun f => (f + 1, f + 1 + (i + 1))), ⟨_, rfl, Nat.zero_le _, e1, acc, ha, by show Paired _ acc (stq n i ++ []); rw [List.append_nil]; exact pa⟩, ?_⟩
    rintro j k H2 ⟨rfl, hj, e2, acc2, ha2, pa2⟩
    by_cases hl2 : j < n - (i + 1)
    · refine .inr ⟨by show j < ((n : Int) - (1 + (i : Int)) + 1 - 1).toNat; omega, fun H' => Ex H H' ∧ ∃ acc, H' D = some (.lst acc) ∧ Paired (RPr H') acc (stq n i ++ (List.range (j + 1)).map fun f => (f + 1, f + 1 + (i + 1))), fun H' hp => ⟨_, by omega, rfl, by omega, hp⟩, fun x H' hx => ?_⟩
      obtain ⟨rfl, rfl⟩ := hx
      refine ⟨rfl, yes_go ?_⟩
      refine ⟨_, rfl, _, rfl, _, rfl, _, _, rfl, rfl, (by show 2 ≤ sizeLine; decide), fun p hp => ?_⟩
      have e3 : Ex _ (upd _ p (.tup [.int (1 + (j : Int)), .int (1 + (j : Int) + (1 + (i : Int)))])) := Evl.Ex.new hp
      have ha3 := e3 _ _ ha2
      have hl := pa2.length
      have hs := stq_len n i
      have hm : n * i ≤ 100 * 100 := Nat.mul_le_mul hn (by omega)
      rw [List.length_append, List.length_map, List.length_range] at hl
      refine ⟨acc2, ha3, sz_lt' (by omega), Evl.Ex.mut (e2.trans e3) hD, _, upd_same, ?_⟩
      rw [strow_more, ← List.append_assoc]
      have et := ExT.upd (o := .lst (acc2 ++ [V.ref p])) ha3
      refine paired_app (Paired.mapP pa2 fun _ _ z => monoT_pr _ _ _ _ et (monoT_pr _ _ _ _ (.of e3) z)) (.cons (monoT_pr _ _ _ _ et ⟨p, rfl, ?_⟩) .nil)
      rw [upd_same]
      have z1 : ((j + 1 : Nat) : Int) = 1 + (j : Int) := by omega
      have z2 : ((j + 1 + (i + 1) : Nat) : Int) = 1 + (j : Int) + (1 + (i : Int)) := by omega
      show some (HO.tup _) = some (HO.tup [V.int ((j + 1 : Nat) : Int), V.int ((j + 1 + (i + 1) : Nat) : Int)])
      rw [z1, z2]
    · have ej2 : j = n - (i + 1) := by omega
      subst ej2
      refine .inl ⟨by show ((n : Int) - (1 + (i : Int)) + 1 - 1).toNat ≤ n - (i + 1); omega, e2, acc2, ha2, ?_⟩
      rw [stq_more]
      exact pa2
  · have ei : i = n - 1 := by omega
    subst ei
    exact .inl ⟨by show ((n : Int) - 1).toNat ≤ n - 1; omega, q _ _ e1 ⟨D, acc, rfl, ha, pa⟩⟩
/-! ### fraction -/
def frac (top : Int) (below : Nat) : Int × Int := (top / ((Nat.gcd top.natAbs below : Nat) : Int), (below : Int) / ((Nat.gcd top.natAbs below : Nat) : Int))
def spFrac : Sp := fun vs H Q _ => ∃ (top : Int) (below : Nat), vs = [.int top, .int below] ∧ 0 < below ∧ below < 100000000 ∧ ∀ p H', Ex H H' → H' p = some (.tup [.int (frac top below).1, .int (frac top below).2]) → Q (.ref p) H'
theorem ok_fraction (T : Txt K mg) : DefOk P w K mg base CX0 "fraction" p_fraction 1 spFrac := by
  obtain ⟨fd, F⟩ := T.F_fraction
  refine ⟨⟨_, fd, T.g_fraction, F.kp, F.bindsN (ps := p_fraction) (fun _ _ _ _ _ _ us hl => match us, hl with | [_, _], _ => rfl), F.ok sc_fraction (fun vs H Q E h => ?_) fun cdv A outer s H vs Q E hr h => ?_⟩⟩
  · obtain ⟨t, b, rfl, _⟩ := h
    rfl
  obtain ⟨t, b, rfl, hb, hb2, q⟩ := h
  refine ⟨_, PSs.nox (pss_cons (ps_par (i := 2) (j := 3) rfl sc_fraction.nd rfl rfl (by decide) rfl rfl (pa_cons (pe_callB call_abs rfl T.f_abs b_abs (pa_cons (pv 0) pa_nil)) (pa_cons (pv 1) pa_nil)) (by rfl)) (pss_cons (ps_while PassesOwn.never (pt_cmpR op_gt (pv 2) pe_int (nomark _)) (pss_one (ps_par (i := 2) (j := 3) rfl sc_fraction.nd rfl rfl (by decide) rfl rfl (pa_cons (pe_op op_mod (pv 3) (pv 2)) (pa_cons (pv 2) pa_nil)) (by rfl)))) (pss_one (ps_ret (pe_tup (pa_cons (pe_op op_fdiv (pv 0) (pv 3)) (pa_cons (pe_op op_fdiv (pv 1) (pv 3)) pa_nil))))))), ?_⟩
  have ea : (if t < 0 then -t else t) = ((t.natAbs : Nat) : Int) := by
    by_cases c : t < 0
    · rw [if_pos c]; omega
    · rw [if_neg c]; omega
  refine ⟨_, rfl, _, rfl, _, rfl, _, _, rfl, ?_⟩
  refine ⟨fun m σ H' => ∃ x y : Nat, σ = [some (.int t), some (.int b), some (.int x), some (.int y)] ∧ H = H' ∧ Nat.gcd x y = Nat.gcd t.natAbs b ∧ 0 < x + y ∧ x = m, ⟨_, t.natAbs, b, by rw [← ea]; rfl, rfl, rfl, by omega, rfl⟩, ?_⟩
  rintro m σ H' ⟨x, y, rfl, rfl, hg, h0, rfl⟩
  refine ⟨_, rfl, _, _, rfl, rfl, _, rfl, ?_⟩
  refine ite2 (fun c => ?_) (fun c => ?_)
  · have c' : (0 : Int) < (x : Int) := of_decide_eq_true c
    refine ⟨fun σ' H' => ∃ x' y' : Nat, x' < x ∧ σ' = [some (.int t), some (.int b), some (.int x'), some (.int y')] ∧ H = H' ∧ Nat.gcd x' y' = Nat.gcd t.natAbs b ∧ 0 < x' + y', ?_, ?_⟩
    · rintro σ' H' ⟨x', y', h1, rfl, rfl, h2, h3⟩
      exact ⟨x', h1, x', y', rfl, rfl, h2, h3, rfl⟩
    · refine ⟨_, rfl, _, rfl, _, _, rfl, rfl, c', _, rfl, _, _, rfl, y % x, x, Nat.mod_lt _ (by omega), ?_, rfl, ?_, by omega⟩
      · show [some (V.int t), some (V.int b), some (V.int ((y : Int) % (x : Int))), some (V.int (x : Int))] = _
        rw [Int.natCast_emod]
      · rw [← hg, ← Nat.gcd_rec]
  · have c' : ¬ (0 : Int) < (x : Int) := of_decide_eq_false (Bool.eq_false_iff.mpr c)
    have ex : x = 0 := by omega
    subst ex
    have ey : y = Nat.gcd t.natAbs b := by rw [← hg, Nat.gcd_zero_left]
    have hy : 0 < y := by omega
    have hy2 : y ≤ b := by rw [ey]; exact Nat.gcd_le_right _ hb
    refine ⟨_, rfl, _, rfl, _, _, rfl, rfl, ⟨by omega, by omega⟩, _, rfl, _, rfl, _, _, rfl, rfl, ⟨by omega, by omega⟩, (by show 2 ≤ sizeLine; decide), fun p hp => q p _ (Evl.Ex.new hp) ?_⟩
    rw [upd_same]
    unfold frac
    rw [← ey]
end RG

set_option Elab.async false
set_option linter.all false
set_option maxRecDepth 100000
set_option maxHeartbeats 4000000
namespace RG
open PySem PySem.Spec PyProof.Rows L2
variable {P : Program} {w : World} {K : PySem.W.Frag} {mg : Str → Option Value} {base : Heap}
/-! ### factors_from -/
def ffn : Nat → PyData → Int → Option Int
  | 0, _, _ => none
  | n + 1, d, a => match d with
    | .int i => if i = a then some (a + 1) else none
    | .tuple [x, y] => (ffn n x a).bind (ffn n y)
    | _ => none
def optV : Option Int → V
  | none => .non
  | some i => .int i
def spFF (K : PySem.W.Frag) (n : Nat) : Sp := fun vs H Q _ => ∃ v d a, vs = [v, .int a] ∧ Dp K H v d ∧ d.depth < n ∧ (∀ H', Ex H H' → Q (optV (ffn n d a)) H')
theorem ff_none (T : Txt K mg) {k : Nat} : DefOk P w K mg base CX0 "factors_from" p_factors_from k (spFF K 0) := by
  have no : ∀ vs H Q E, ¬ spFF K 0 vs H Q E := fun vs H Q E ⟨_, _, _, _, _, h, _⟩ => absurd h (Nat.not_lt_zero _)
  obtain ⟨fd, F⟩ := T.F_factors_from
  exact ⟨⟨_, fd, T.g_factors_from, F.kp, F.bindsN (ps := p_factors_from) (fun _ _ _ _ _ _ us hl => match us, hl with | [_, _], _ => rfl), fn_none no⟩⟩
theorem depth_tup {x y : PyData} {n : Nat} (h : (PyData.tuple [x, y]).depth < n + 1) : x.depth < n ∧ y.depth < n := by
  simp only [PyData.depth, PyData.depthAll] at h
  omega
theorem ff_more (T : Txt K mg) (D_is_number : DefOk P w K mg base CX0 "is_number" p_is_number 2 (spIsNum K)) {n : Nat} (D_factors_from : DefOk P w K mg base CX0 "factors_from" p_factors_from (n + 2) (spFF K n)) :
    DefOk P w K mg base CX0 "factors_from" p_factors_from (n + 3) (spFF K (n + 1)) := by
  obtain ⟨fd, F⟩ := T.F_factors_from
  refine ⟨⟨_, fd, T.g_factors_from, F.kp, F.bindsN (ps := p_factors_from) (fun _ _ _ _ _ _ us hl => match us, hl with | [_, _], _ => rfl), F.ok sc_factors_from (fun vs H Q E h => ?_) fun cdv A outer s H vs Q E hr h => ?_⟩⟩
  · obtain ⟨v, d, a, rfl, _⟩ := h
    rfl
  obtain ⟨v, d, a, rfl, hd, hh, q⟩ := h
  refine ⟨_, PSs.nox (pss_cons (ps_if (pt_val (pe_d D_is_number (hr.mono (by omega)) pass0 (pa_cons (pv 0) pa_nil))) (pss_one (ps_ret (pe_ifExp (pt_cmpR op_eq (pv 0) (pv 1) (nomark _)) (pe_op op_add (pv 1) pe_int) pe_non))) pss_nil) (pss_cons (ps_if (PW.pt (pw_or (pt_not (pt_val (pe_callB (r := rIsi K) call_isi rfl T.f_isinstance b_isinstance (pa_cons (pv 0) (pa_cons (pe_bltn (v := .ty "tuple") rfl T.f_tuple b_tuple rfl) pa_nil))))) (pw_or1 (pt_cmpR op_ne (pe_callB (r := Evl.rLenS K) call_len_seq rfl T.f_len b_len (pa_cons (pv 0) pa_nil)) (pe_glob (v := .int 2) rfl T.g_PAIR.choose_spec ⟨_, rfl⟩) (nomark _))))) (pss_one (ps_ret pe_non)) pss_nil) (pss_cons (ps_set (i := 2) sc_factors_from.nd rfl (Or.inl rfl) (pe_d D_factors_from (hr.mono (by omega)) pass0 (pa_cons (pe_ix (r := rIxT K) ix_tup (pv 0) pe_int (fun _ _ => rfl)) (pa_cons (pv 1) pa_nil)))) (pss_one (ps_ret (pe_ifExp (pt_cmpR op_isN (pv 2) pe_non (nomark _)) pe_non (pe_d D_factors_from (hr.mono (by omega)) pass0 (pa_cons (pe_ix (r := rIxT K) ix_tup (pv 0) pe_int (fun _ _ => rfl)) (pa_cons (pv 2) pa_nil))))))))), ?_⟩
  refine ⟨_, rfl, v, d, rfl, hd, _, rfl, ?_⟩
  have q0 := q H (exr H)
  have hd' := hd
  cases hd with
  | non | bl b | str x | lst h a =>
    refine ifF (show isNum _ = false from rfl) ⟨_, rfl, _, _, _, _, _, rfl, .ty _, dp_ty hd', kit_tuple _, _, rfl, ?_⟩
    refine ifT (show (!isTup _) = true from rfl) ?_
    exact ifT rfl q0
  | int i =>
    refine ifT (show isNum _ = true from rfl) ⟨_, rfl, _, rfl, rfl, _, rfl, ite2 (fun c => ?_) (fun c => ?_)⟩
    · have e : i = a := by
        have e := of_decide_eq_true c
        injection e
      subst e
      refine ⟨_, rfl, _, _, rfl, rfl, ?_⟩
      have e2 : ffn (n + 1) (.int i) i = some (i + 1) := if_pos rfl
      rw [e2] at q0
      exact q0
    · have e : ¬ i = a := fun e => c (by rw [e]; exact decide_eq_true rfl)
      have e2 : ffn (n + 1) (.int i) a = none := if_neg e
      rw [e2] at q0
      exact q0
  | @tup p xs ds hs ha =>
    refine ifF (show isNum _ = false from rfl) ⟨_, rfl, _, _, _, _, _, rfl, .ty _, dp_ty hd', kit_tuple _, _, rfl, ?_⟩
    refine ifF (show (!isTup _) = false from rfl) ⟨_, rfl, p, xs, rfl, .inr hs, rfl, _, rfl, ?_⟩
    have hl := dpa_len ha
    refine ite2 (fun c => ?_) (fun c => ?_)
    · have e : ffn (n + 1) (.tuple ds) a = none := by
        have c2 : ¬ ((xs.length : Nat) : Int) = 2 := fun e => by
          rw [e] at c
          exact absurd c (by decide)
        match ds, hl with
        | [], _ => rfl
        | [_], _ => rfl
        | [_, _], hl => exact absurd (by rw [hl]; rfl) c2
        | _ :: _ :: _ :: _, _ => rfl
      rw [e] at q0
      exact q0
    · have c2 : ((xs.length : Nat) : Int) = 2 := by
        have c3 : (!decide (V.int ((xs.length : Nat) : Int) = V.int 2)) = false := Bool.eq_false_iff.mpr c
        have c4 : decide (V.int ((xs.length : Nat) : Int) = V.int 2) = true := by
          cases h : decide (V.int ((xs.length : Nat) : Int) = V.int 2) with
          | true => rfl
          | false => rw [h] at c3; cases c3
        have e := of_decide_eq_true c4
        injection e
      match ds, xs, ha, hl with
      | [x, y], [u, v], .cons hx (.cons hy .nil), _ =>
        obtain ⟨hdx, hdy⟩ := depth_tup hh
        have e : ffn (n + 1) (.tuple [x, y]) a = (ffn n x a).bind (ffn n y) := rfl
        refine ⟨_, rfl, p, _, 0, _, rfl, rfl, hs, rfl, _, rfl, u, x, a, rfl, hx, hdx, fun H1 e1 => ?_⟩
        refine ⟨_, rfl, rfl, _, rfl, ?_⟩
        have q1 := q H1 e1
        rw [e] at q1
        cases hf : ffn n x a with
        | none =>
          rw [hf] at q1
          exact q1
        | some b =>
          rw [hf] at q1
          refine iteF ⟨_, rfl, p, _, 1, _, rfl, rfl, Evl.ex_t e1 hs, rfl, _, rfl, v, y, b, rfl, dp_ex e1 hy, hdy, fun H2 e2 => ?_⟩
          have q2 := q H2 (e1.trans e2)
          rw [e, hf] at q2
          exact q2
      | [], [], _, _ => exact absurd c2 (by show ¬ ((0 : Nat) : Int) = 2; decide)
      | [_], [_], _, _ => exact absurd c2 (by show ¬ ((1 : Nat) : Int) = 2; decide)
      | _ :: _ :: _ :: ds', _ :: _ :: _ :: xs', _, _ => exact absurd c2 (by simp only [List.length_cons]; omega)
theorem ok_ff (T : Txt K mg) (D_is_number : DefOk P w K mg base CX0 "is_number" p_is_number 2 (spIsNum K)) : ∀ n : Nat, DefOk P w K mg base CX0 "factors_from" p_factors_from (n + 2) (spFF K n)
  | 0 => ff_none T
  | n + 1 => ff_more T D_is_number (ok_ff T D_is_number n)
/-! ### is_grouping -/
def isGr (d : PyData) : Bool := (ffn 30 d 1).isSome
def spIsGr (K : PySem.W.Frag) : Sp := fun vs H Q _ => ∃ v d, vs = [v] ∧ Dp K H v d ∧ d.depth < 30 ∧ ∀ H', Ex H H' → Q (.bl (isGr d)) H'
theorem ok_is_grouping (T : Txt K mg) (D_factors_from : DefOk P w K mg base CX0 "factors_from" p_factors_from 32 (spFF K 30)) : DefOk P w K mg base CX0 "is_grouping" p_is_grouping 33 (spIsGr K) := by
  obtain ⟨fd, F⟩ := T.F_is_grouping
  refine ⟨⟨_, fd, T.g_is_grouping, F.kp, F.bindsN (ps := p_is_grouping) (fun _ _ _ _ _ _ us hl => match us, hl with | [_], _ => rfl), F.ok sc_is_grouping (fun vs H Q E h => ?_) fun cdv A outer s H vs Q E hr h => ?_⟩⟩
  · obtain ⟨v, d, rfl, _⟩ := h
    rfl
  obtain ⟨v, d, rfl, hd, hh, q⟩ := h
  refine ⟨_, PSs.nox (pss_one (ps_ret (pe_cmpR op_notN (pe_d D_factors_from (hr.mono (by omega)) pass0 (pa_cons (pv 0) (pa_cons pe_int pa_nil))) pe_non (nomark _)))), ?_⟩
  refine ⟨_, rfl, v, d, 1, rfl, hd, hh, fun H1 e1 => ⟨rfl, ?_⟩⟩
  have q1 := q H1 e1
  have e : isGr d = !decide (optV (ffn 30 d 1) = V.non) := by
    unfold isGr
    cases ffn 30 d 1 <;> rfl
  rw [e] at q1
  exact q1
end RG

set_option Elab.async false
set_option linter.all false
set_option maxRecDepth 100000
set_option maxHeartbeats 4000000
namespace RG
open PySem PySem.Spec PyProof.Rows L2
variable {P : Program} {w : World} {K : PySem.W.Frag} {mg : Str → Option Value} {base : Heap}
/-! ### the stretches' order -/
theorem mem_strow {n i a b : Nat} : (a, b) ∈ strow n i ↔ 1 ≤ a ∧ b = a + (i + 1) ∧ b ≤ n := by
  unfold strow
  rw [List.mem_map]
  constructor
  · rintro ⟨f, hf, e⟩
    have h := List.mem_range.mp hf
    injection e with e1 e2
    omega
  · rintro ⟨h1, h2, h3⟩
    exact ⟨a - 1, List.mem_range.mpr (by omega), Prod.ext (by show a - 1 + 1 = a; omega) (by show a - 1 + 1 + (i + 1) = b; omega)⟩
theorem mem_stq {n k a b : Nat} : (a, b) ∈ stq n k ↔ 1 ≤ a ∧ a < b ∧ b ≤ n ∧ b - a ≤ k := by
  unfold stq
  rw [List.mem_flatMap]
  constructor
  · rintro ⟨i, hi, h⟩
    have h1 := List.mem_range.mp hi
    have h2 := mem_strow.mp h
    omega
  · rintro ⟨h1, h2, h3, h4⟩
    exact ⟨b - a - 1, List.mem_range.mpr (by omega), mem_strow.mpr (by omega)⟩
theorem mem_sl {n a b : Nat} : (a, b) ∈ sl n ↔ 1 ≤ a ∧ a < b ∧ b ≤ n := by
  unfold sl
  rw [mem_stq]
  omega
theorem stq_pw (n : Nat) : ∀ k, (stq n k).Pairwise fun p q => p.2 - p.1 ≤ q.2 - q.1
  | 0 => List.Pairwise.nil
  | k + 1 => by
    rw [stq_more, List.pairwise_append]
    refine ⟨stq_pw n k, ?_, ?_⟩
    · refine List.pairwise_of_forall_mem_list fun p hp q hq => ?_
      have h1 := mem_strow.mp (show (p.1, p.2) ∈ strow n k from hp)
      have h2 := mem_strow.mp (show (q.1, q.2) ∈ strow n k from hq)
      omega
    · intro p hp q hq
      have h1 := mem_stq.mp (show (p.1, p.2) ∈ stq n k from hp)
      have h2 := mem_strow.mp (show (q.1, q.2) ∈ strow n k from hq)
      omega
theorem sl_before {n i a b a' b' : Nat} (h : (sl n)[i]? = some (a, b)) (h1 : 1 ≤ a') (h2 : a' < b') (h3 : b' ≤ n) (h4 : b' - a' < b - a) : (a', b') ∈ (sl n).take i := by
  obtain ⟨j, hj⟩ := List.getElem?_of_mem (mem_sl.mpr ⟨h1, h2, h3⟩)
  obtain ⟨l1, e1⟩ := List.getElem?_eq_some_iff.mp h
  obtain ⟨l2, e2⟩ := List.getElem?_eq_some_iff.mp hj
  rcases Nat.lt_or_ge j i with c | c
  · refine List.mem_of_getElem? (i := j) ?_
    rw [List.getElem?_take, if_pos c]
    exact hj
  · exfalso
    rcases Nat.lt_or_ge i j with c2 | c2
    · have z := List.pairwise_iff_getElem.mp (stq_pw n (n - 1)) i j l1 l2 c2
      have z1 : ((sl n)[i]).2 - ((sl n)[i]).1 ≤ ((sl n)[j]).2 - ((sl n)[j]).1 := z
      rw [e1, e2] at z1
      have z2 : b - a ≤ b' - a' := z1
      omega
    · have e : i = j := by omega
      subst e
      rw [h] at hj
      have z := Option.some.inj hj
      injection z with z1 z2
      omega
theorem sl_len (n : Nat) : (sl n).length ≤ n * (n - 1) := stq_len n (n - 1)
/-! ### tables -/
def key2 (a b : Nat) : List Key := [.inl (a : Int), .inl (b : Int)]
def TopsAt (H : Hp) (v : V) (n : Nat) (tp : Nat → Nat → List Nat) : Prop := ∃ p kvs, v = .ref p ∧ H p = some (.dT kvs) ∧ ∀ a b, 1 ≤ a → a < b → b ≤ n → ∃ l, valV kvs (key2 a b) = some (.ref l) ∧ H l = some (.lst ((tp a b).map fun j : Nat => V.int j))
def NumAt (H : Hp) (v : V) (n : Nat) (f : Nat → Nat → Int) : Prop := ∃ p kvs, v = .ref p ∧ H p = some (.dT kvs) ∧ ∀ a b, 1 ≤ a → a ≤ b → b ≤ n → valV kvs (key2 a b) = some (.int (f a b))
theorem TopsAt.ex {H H' : Hp} {v : V} {n : Nat} {tp : Nat → Nat → List Nat} (e : Ex H H') (h : TopsAt H v n tp) : TopsAt H' v n tp := by
  obtain ⟨p, kvs, h1, h2, h3⟩ := h
  refine ⟨p, kvs, h1, e _ _ h2, fun a b ha hb hn => ?_⟩
  obtain ⟨l, h4, h5⟩ := h3 a b ha hb hn
  exact ⟨l, h4, e _ _ h5⟩
theorem NumAt.ex {H H' : Hp} {v : V} {n : Nat} {f : Nat → Nat → Int} (e : Ex H H') (h : NumAt H v n f) : NumAt H' v n f := by
  obtain ⟨p, kvs, h1, h2, h3⟩ := h
  exact ⟨p, kvs, h1, e _ _ h2, h3⟩
theorem key2_inj {a b c d : Nat} (h : key2 a b = key2 c d) : a = c ∧ b = d := by
  unfold key2 at h
  injection h with h1 h2
  injection h2 with h3 _
  have e1 := Sum.inl.inj h1
  have e3 := Sum.inl.inj h3
  omega
theorem key2_map (a b : Nat) : (key2 a b).map kV = [V.int a, V.int b] := rfl
/-! ### tops_between -/
def spTopsBetween : Sp := fun vs H Q _ => ∃ (n : Nat) (r : V) (lims : List (Nat × Nat)), vs = [.int n, r] ∧ n ≤ 100 ∧ LO RPr H r lims ∧ lims.length + 1 = n ∧ ∀ v H', Ex H H' → TopsAt H' v n (tpL lims) → Q v H'
theorem ok_tops_between (T : Txt K mg) (D_stretches : DefOk P w K mg base CX0 "stretches" p_stretches 1 spStretches) : DefOk P w K mg base CX0 "tops_between" p_tops_between 2 spTopsBetween := by
  obtain ⟨fd, F⟩ := T.F_tops_between
  refine ⟨⟨_, fd, T.g_tops_between, F.kp, F.bindsN (ps := p_tops_between) (fun _ _ _ _ _ _ us hl => match us, hl with | [_, _], _ => rfl), F.ok sc_tops_between (fun vs H Q E h => ?_) fun cdv A outer s H vs Q E hr h => ?_⟩⟩
  · obtain ⟨n, r, lims, rfl, _⟩ := h
    rfl
  obtain ⟨n, r, lims, rfl, hn, hr0, hl, q⟩ := h
  refine ⟨_, PSs.nox (pss_cons (ps_set (i := 2) sc_tops_between.nd rfl (Or.inl rfl) pe_dnewT) (pss_cons (ps_for PassesOwn.never rfl (pi_list (pe_d D_stretches (hr.mono (by omega)) pass0 (pa_cons (pv 0) pa_nil))) (pg_tup rfl (pgs_cons (pg_name (i := 3) sc_tops_between.nd rfl (Or.inl rfl)) (pgs_cons (pg_name (i := 4) sc_tops_between.nd rfl (Or.inr rfl)) pgs_nil))) (pss_one (ps_dput (hu_of hr) (pv 2) (pe_tup (pa_cons (pv 3) (pa_cons (pv 4) pa_nil))) (pe_lc (own := [("join", 5)]) (g := (gName 5)) rfl sc_tops_between.nd (pi_range2 rfl T.f_range (pa_cons (pv 3) (pa_cons (pv 4) pa_nil))) (blkOk_by (own := [("join", 5)]) (N := n_tops_between) (sc := (defScope s_tops_between)) (by decide +kernel)) (fun _ _ _ _ _ => (by exact (pg_name (i := 5) sc_tops_between.nd rfl (Or.inl rfl)))) (fun _ _ _ _ _ => (pts_one (pt_chain op_le op_le (pe_ix (r := rIxT K) ix_tup (pe_ix (r := rIxL K) ix_list (pv 1) (pe_op op_sub (pv 5) pe_int) (fun _ _ => rfl)) pe_int (fun _ _ => rfl)) (pv 4) (pe_ix (r := rIxT K) ix_tup (pe_ix (r := rIxL K) ix_list (pv 1) (pe_op op_sub (pv 5) pe_int) (fun _ _ => rfl)) pe_int (fun _ _ => rfl))))) (fun _ _ _ _ _ => (pv 5))) rfl))) (pss_one (ps_ret (pv 2))))), ?_⟩
  refine fun d hd => ⟨_, rfl, n, rfl, hn, fun r1 H1 e1 l1 => ?_⟩
  obtain ⟨p, vs, rfl, hp, pr⟩ := l1
  have hd1 := e1 _ _ upd_same
  have e0 : Ex H H1 := (Evl.Ex.new hd).trans e1
  refine ⟨p, rfl, ⟨_, SqL.of hp⟩, for_list (xs := vs) (fun i σ H' => Ex H H' ∧ H' p = some (.lst vs) ∧ Paired (RPr H') vs (sl n) ∧ (∃ x y, σ = [some (.int n), some r, some (.ref d), x, y, none]) ∧ ∃ kvs, H' d = some (.dT kvs) ∧ kvs.length ≤ i ∧ ∀ a b, (a, b) ∈ (sl n).take i → ∃ l, valV kvs (key2 a b) = some (.ref l) ∧ H' l = some (.lst ((tpL lims a b).map fun j : Nat => V.int j)))
    ⟨e0, hp, pr, ⟨none, none, rfl⟩, [], hd1, Nat.le_refl _, fun a b h => nomatch h⟩ (fun i σ H' _ h => SqL.of h.2.1) ?_ ?_⟩
  · rintro i x σ H2 hi ⟨e2, hp2, pr2, ⟨x0, y0, rfl⟩, kvs, hk, hkl, hall⟩
    obtain ⟨⟨a, b⟩, hab, q1, rfl, hq1⟩ := paired_get pr2 hi
    obtain ⟨ha, hb, hbn⟩ := mem_sl.mp (List.mem_of_getElem? hab)
    refine gtup2 rfl hq1 ?_
    obtain ⟨pr0, rvs, hrv, hrp, prr⟩ := hr0.ex monoT_pr.ex e2
    refine ⟨_, rfl, _, rfl, (a : Int), (b : Int), rfl, ⟨by omega, by omega, by omega, by omega⟩, fun D hD => ?_⟩
    refine lc_src (γ := Nat) (fun z : Int => okj lims z.toNat b) Int.toNat src_rng monoT_nat (by rw [List.length_map, List.length_range]; omega) (fun i2 z x H3 hz e3 hx Ky Kn ky kn => ?_) hD fun ys H3 e3 hy py => ?_
    · obtain rfl : x = .int z := hx
      have hi2 := (List.getElem?_eq_some_iff.mp hz).1
      rw [List.length_map, List.length_range] at hi2
      rw [List.getElem?_map, List.getElem?_range hi2] at hz
      have ez : (a : Int) + (i2 : Int) = z := Option.some.inj hz
      have hz1 : z.toNat - 1 < lims.length := by omega
      obtain ⟨rw1, hrw, q2, hq2v, hq2⟩ := paired_get2 prr (List.getElem?_eq_getElem hz1)
      have hat : atI rvs (z - 1) = some rw1 := at_of (by omega : z - 1 = ((z.toNat - 1 : Nat) : Int)) hrw
      have hq3 := e3 _ _ hq2
      have eo : okj lims z.toNat b = (decide ((lims[z.toNat - 1]).1 ≤ b) && decide (b ≤ (lims[z.toNat - 1]).2)) := by
        unfold okj
        rw [List.getElem?_eq_getElem hz1]
      refine ⟨rfl, _, rfl, _, rfl, _, _, rfl, rfl, pr0, rvs, z - 1, rw1, hrv, rfl, SqL.of (e3 _ _ hrp), hat, q2, _, 0, _, hq2v, rfl, SqT.of hq3, rfl, _, rfl, _, _, rfl, rfl, _, rfl, ?_⟩
      refine ite2 (fun c => ?_) (fun c => ?_)
      · have c1 : (((lims[z.toNat - 1]).1 : Nat) : Int) ≤ (b : Int) := of_decide_eq_true c
        refine ⟨_, rfl, _, rfl, _, _, rfl, rfl, pr0, rvs, z - 1, rw1, hrv, rfl, SqL.of (e3 _ _ hrp), hat, q2, _, 1, _, hq2v, rfl, SqT.of hq3, rfl, _, _, rfl, rfl, _, rfl, ?_⟩
        refine ite2 (fun c2 => ?_) (fun c2 => ?_)
        · have c3 : (b : Int) ≤ (((lims[z.toNat - 1]).2 : Nat) : Int) := of_decide_eq_true c2
          refine ⟨_, rfl, ky (by rw [eo, decide_eq_true (by omega), decide_eq_true (by omega)]; rfl) _ _ (exr _) ?_⟩
          show V.int z = V.int ((z.toNat : Nat) : Int)
          congr 1
          omega
        · have c3 : ¬ (b : Int) ≤ (((lims[z.toNat - 1]).2 : Nat) : Int) := of_decide_eq_false (Bool.eq_false_iff.mpr c2)
          exact kn (by rw [eo, decide_eq_false (p := b ≤ _) (by omega), Bool.and_false]) _ (exr _)
      · have c1 : ¬ (((lims[z.toNat - 1]).1 : Nat) : Int) ≤ (b : Int) := of_decide_eq_false (Bool.eq_false_iff.mpr c)
        refine ⟨_, rfl, ?_⟩
        exact iteF (kn (by rw [eo, decide_eq_false (by omega), Bool.false_and]) _ (exr _))
    · have et : ((b : Int) - (a : Int)).toNat = b - a := by omega
      rw [et, rng_nat a (b - a) fun j => okj lims j b] at py
      have ey := paired_nat py
      have hd3 := e3 _ _ hk
      refine ⟨_, rfl, _, rfl, _, rfl, (by show 2 ≤ sizeLine; decide), fun p4 hp4 => ?_⟩
      have e4 : Ex H3 (upd H3 p4 (.tup [.int a, .int b])) := Evl.Ex.new hp4
      have hd4 := e4 _ _ hd3
      have hll := sl_len n
      have hnn : n * (n - 1) ≤ 100 * 100 := Nat.mul_le_mul hn (by omega)
      have hil := (List.getElem?_eq_some_iff.mp hab).1
      refine ⟨d, _, rfl, DPut.t (k := key2 a b) hd4 upd_same (sz_lt' (by omega)), ?_⟩
      have keep : ∀ x o, x ≠ d → H2 x = some o → upd (upd H3 p4 (.tup [.int a, .int b])) d (.dT (putK kvs (key2 a b) (.ref D))) x = some o := fun x o hx h => by
        rw [upd_ne hx]
        exact e4 _ _ (e3 _ _ h)
      have nD : D ≠ d := fun z => by rw [z, hk] at hD; cases hD
      refine ⟨Evl.Ex.mut ((e2.trans e3).trans e4) hd, keep _ _ (fun z => by rw [z, hk] at hp2; cases hp2) hp2, Paired.mapP pr2 fun v z ⟨q, hv, hq⟩ => ⟨q, hv, keep _ _ (fun z => by rw [z, hk] at hq; cases hq) hq⟩, ⟨_, _, rfl⟩, _, upd_same, ?_, ?_⟩
      · have := length_putK kvs (key2 a b) (.ref D)
        omega
      · intro a' b' hm
        rw [take_more hab, List.mem_append] at hm
        rw [valV_put]
        by_cases c : key2 a' b' = key2 a b
        · obtain ⟨rfl, rfl⟩ := key2_inj c
          rw [if_pos rfl]
          refine ⟨D, rfl, ?_⟩
          rw [upd_ne nD]
          have := e4 _ _ hy
          rw [ey] at this
          exact this
        · rw [if_neg c]
          rcases hm with hm | hm
          · obtain ⟨l, h1, h2⟩ := hall a' b' hm
            exact ⟨l, h1, keep _ _ (fun z => by rw [z, hk] at h2; cases h2) h2⟩
          · have z : (a', b') = (a, b) := by simpa using hm
            injection z with z1 z2
            exact absurd (by rw [z1, z2]) c
  · rintro σ H2 ⟨e2, _, pr2, ⟨x0, y0, rfl⟩, kvs, hk, _, hall⟩
    refine ⟨_, rfl, q _ _ e2 ⟨d, kvs, rfl, hk, fun a b ha hb hbn => hall a b ?_⟩⟩
    rw [pr2.length, List.take_length]
    exact mem_sl.mpr ⟨ha, hb, hbn⟩
end RG

set_option Elab.async false
set_option linter.all false
set_option maxRecDepth 100000
set_option maxHeartbeats 4000000
namespace RG
open PySem PySem.Spec PyProof.Rows L2
variable {P : Program} {w : World} {K : PySem.W.Frag} {mg : Str → Option Value} {base : Heap}
theorem paired_nats {H : Hp} : ∀ l : List Nat, Paired (RNat H) (l.map fun j : Nat => V.int j) l
  | [] => .nil
  | _ :: l => .cons rfl (paired_nats l)
theorem sum_cast {α : Type} (f : α → Nat) : ∀ l : List α, (((l.map f).sum : Nat) : Int) = (l.map fun x => ((f x : Nat) : Int)).sum
  | [] => rfl
  | x :: l => by
    rw [List.map_cons, List.sum_cons, List.map_cons, List.sum_cons, ← sum_cast f l]
    omega
def lenG (tp : Nat → Nat → List Nat) (a b : Nat) : Int := ((GD tp a b).length : Nat)
def Bd (tp : Nat → Nat → List Nat) (n : Nat) : Prop := ∀ a b, 1 ≤ a → a ≤ b → b ≤ n → (GD tp a b).length ≤ 10000000
theorem cmul_nat {i j : Nat} (h : i ≤ 10000000) : CMul (i : Int) j := by
  refine .inl ⟨by omega, ?_⟩
  have e : (2 : Int) ^ 64 = 18446744073709551616 := by decide
  omega
/-! ### counted -/
def spCounted : Sp := fun vs H Q _ => ∃ (n : Nat) (r : V) (tp : Nat → Nat → List Nat), vs = [.int n, r] ∧ n ≤ 100 ∧ TopsAt H r n tp ∧ TpOk tp ∧ TpSm tp ∧ Bd tp n ∧ ∀ v H', Ex H H' → NumAt H' v n (lenG tp) → Q v H'
theorem ok_counted (T : Txt K mg) (D_stretches : DefOk P w K mg base CX0 "stretches" p_stretches 1 spStretches) (D_singles : DefOk P w K mg base CX0 "singles" p_singles 1 spSingles) : DefOk P w K mg base CX0 "counted" p_counted 2 spCounted := by
  obtain ⟨fd, F⟩ := T.F_counted
  refine ⟨⟨_, fd, T.g_counted, F.kp, F.bindsN (ps := p_counted) (fun _ _ _ _ _ _ us hl => match us, hl with | [_, _], _ => rfl), F.ok sc_counted (fun vs H Q E h => ?_) fun cdv A outer s H vs Q E hr h => ?_⟩⟩
  · obtain ⟨n, r, tp, rfl, _⟩ := h
    rfl
  obtain ⟨n, r, tp, rfl, hn, hr0, ok, sm, bd, q⟩ := h
  refine ⟨_, PSs.nox (pss_cons (ps_set (i := 2) sc_counted.nd rfl (Or.inr rfl) pe_dnewT) (pss_cons (ps_for PassesOwn.never rfl (pi_list (pe_d D_singles (hr.mono (by omega)) pass0 (pa_cons (pv 0) pa_nil))) (pg_name (i := 3) sc_counted.nd rfl (Or.inl rfl)) (pss_one (ps_dput (hu_of hr) (pv 2) (pv 3) pe_int rfl))) (pss_cons (ps_for PassesOwn.never rfl (pi_list (pe_d D_stretches (hr.mono (by omega)) pass0 (pa_cons (pv 0) pa_nil))) (pg_tup rfl (pgs_cons (pg_name (i := 4) sc_counted.nd rfl (Or.inr rfl)) (pgs_cons (pg_name (i := 5) sc_counted.nd rfl (Or.inr rfl)) pgs_nil))) (pss_one (ps_dput (hu_of hr) (pv 2) (pe_tup (pa_cons (pv 4) (pa_cons (pv 5) pa_nil))) (pe_callB (r := rSum K) (cr_sum rfl) rfl T.f_sum b_sum (pa_cons (pe_lc (own := [("join", 6)]) (g := (gName 6)) rfl sc_counted.nd (pi_list (pe_dget (hu_of hr) (pv 1) (pe_tup (pa_cons (pv 4) (pa_cons (pv 5) pa_nil))) (fun _ _ => rfl))) (blkOk_by (own := [("join", 6)]) (N := n_counted) (sc := (defScope s_counted)) (by decide +kernel)) (fun _ _ _ _ _ => (by exact (pg_name (i := 6) sc_counted.nd rfl (Or.inl rfl)))) (fun _ _ _ _ _ => pts_nil) (fun _ _ _ _ _ => (pe_op op_mul (pe_dget (hu_of hr) (pv 2) (pe_tup (pa_cons (pv 4) (pa_cons (pv 6) pa_nil))) (fun _ _ => rfl)) (pe_dget (hu_of hr) (pv 2) (pe_tup (pa_cons (pe_op op_add (pv 6) pe_int) (pa_cons (pv 5) pa_nil))) (fun _ _ => rfl))))) pa_nil)) rfl))) (pss_one (ps_ret (pv 2)))))), ?_⟩
  refine fun d hd => ⟨_, rfl, n, rfl, by omega, fun r1 H1 e1 l1 => ?_⟩
  obtain ⟨p, vs, rfl, hp, pr⟩ := l1
  have hd1 := e1 _ _ upd_same
  have e0 : Ex H H1 := (Evl.Ex.new hd).trans e1
  have hlen : vs.length = n := by rw [pr.length, List.length_map, List.length_range]
  refine ⟨p, rfl, ⟨_, SqL.of hp⟩, for_list (xs := vs) (fun i σ H' => Ex H H' ∧ H' p = some (.lst vs) ∧ Paired (RPr H') vs ((List.range n).map fun i => (i + 1, i + 1)) ∧ (∃ x, σ = [some (.int n), some r, some (.ref d), x, none, none, none]) ∧ ∃ kvs, H' d = some (.dT kvs) ∧ kvs.length ≤ i ∧ ∀ a, 1 ≤ a → a ≤ i → valV kvs (key2 a a) = some (.int 1))
    ⟨e0, hp, pr, ⟨none, rfl⟩, [], hd1, Nat.le_refl _, fun a h1 h2 => by omega⟩ (fun i σ H' _ h => SqL.of h.2.1) ?_ ?_⟩
  · rintro i x σ H2 hi ⟨e2, hp2, pr2, ⟨x0, rfl⟩, kvs, hk, hkl, hall⟩
    obtain ⟨ab, hab, q1, rfl, hq1⟩ := paired_get pr2 hi
    have hil := (List.getElem?_eq_some_iff.mp hab).1
    rw [List.length_map, List.length_range] at hil
    rw [List.getElem?_map, List.getElem?_range hil] at hab
    obtain rfl := Option.some.inj hab
    refine ⟨_, rfl, _, rfl, d, _, rfl, DPut.t (k := key2 (i + 1) (i + 1)) hk hq1 (sz_lt' (by omega)), ?_⟩
    have keep : ∀ x o, x ≠ d → H2 x = some o → upd H2 d (.dT (putK kvs (key2 (i + 1) (i + 1)) (.int 1))) x = some o := fun x o hx h => by
      rw [upd_ne hx]
      exact h
    refine ⟨Evl.Ex.mut e2 hd, keep _ _ (fun z => by rw [z, hk] at hp2; cases hp2) hp2, Paired.mapP pr2 fun v z ⟨q, hv, hq⟩ => ⟨q, hv, keep _ _ (fun z => by rw [z, hk] at hq; cases hq) hq⟩, ⟨_, rfl⟩, _, upd_same, ?_, fun a h1 h2 => ?_⟩
    · have := length_putK kvs (key2 (i + 1) (i + 1)) (.int 1)
      omega
    · rw [valV_put]
      by_cases c : key2 a a = key2 (i + 1) (i + 1)
      · rw [if_pos c]
      · rw [if_neg c]
        refine hall a h1 ?_
        have : a ≠ i + 1 := fun e => c (by rw [e])
        omega
  rintro σ H2 ⟨e2, hp2, pr2, ⟨x0, rfl⟩, kvs, hk, hkl, hall⟩
  rw [hlen] at hkl hall
  refine ⟨_, rfl, n, rfl, hn, fun r1 H3 e3 l3 => ?_⟩
  obtain ⟨p', vs', rfl, hp', pr'⟩ := l3
  have hk3 := e3 _ _ hk
  refine ⟨p', rfl, ⟨_, SqL.of hp'⟩, for_list (xs := vs') (fun i σ H' => Ex H H' ∧ H' p' = some (.lst vs') ∧ Paired (RPr H') vs' (sl n) ∧ (∃ x y z, σ = [some (.int n), some r, some (.ref d), x, y, z, none]) ∧ ∃ kvs, H' d = some (.dT kvs) ∧ kvs.length ≤ n + i ∧ (∀ a, 1 ≤ a → a ≤ n → valV kvs (key2 a a) = some (.int 1)) ∧ ∀ a b, (a, b) ∈ (sl n).take i → valV kvs (key2 a b) = some (.int (lenG tp a b)))
    ⟨e2.trans e3, hp', pr', ⟨x0, none, none, rfl⟩, kvs, hk3, by omega, hall, fun a b h => nomatch h⟩ (fun i σ H' _ h => SqL.of h.2.1) ?_ ?_⟩
  · rintro i x σ H4 hi ⟨e4, hp4, pr4, ⟨x1, y1, z1, rfl⟩, kvs, hk4, hkl4, hsi, hall4⟩
    obtain ⟨⟨a, b⟩, hab, q1, rfl, hq1⟩ := paired_get pr4 hi
    obtain ⟨ha, hb, hbn⟩ := mem_sl.mp (List.mem_of_getElem? hab)
    have look : ∀ a' b', 1 ≤ a' → a' ≤ b' → b' ≤ n → b' - a' < b - a → valV kvs (key2 a' b') = some (.int (lenG tp a' b')) := fun a' b' h1 h2 h3 h4 => by
      by_cases c : a' = b'
      · subst c
        rw [hsi a' h1 h3]
        unfold lenG
        rw [GD_self]
        rfl
      · exact hall4 a' b' (sl_before hab h1 (by omega) h3 h4)
    refine gtup2 rfl hq1 ?_
    obtain ⟨pt, kt, hrv, hpt, hkt⟩ := hr0.ex e4
    obtain ⟨l, hl1, hl2⟩ := hkt a b ha hb hbn
    refine ⟨_, rfl, _, rfl, _, rfl, (by show 2 ≤ sizeLine; decide), fun p5 hp5 => ?_⟩
    have e5 : Ex H4 (upd H4 p5 (.tup [.int a, .int b])) := Evl.Ex.new hp5
    refine ⟨pt, _, hrv, ?_, l, rfl, ⟨_, SqL.of (e5 _ _ hl2)⟩, fun D hD => ?_⟩
    · rw [← hl1]
      exact DGet.t (k := key2 a b) (e5 _ _ hpt) upd_same
    have hsm := sm a b
    refine lc_map (γ := Int) (fun j : Nat => ((cntJ tp a b j : Nat) : Int)) (src_list mono_nat (SqL.of (e5 _ _ hl2)) (paired_nats (tp a b))) monoT_int (by omega) (fun i2 j x H6 hj e6 hx Ky ky => ?_) gm_name hD fun ys H6 e6 hy py => ?_
    · obtain rfl : x = .int j := hx
      obtain ⟨hj1, hj2⟩ := ok a b j (List.mem_of_getElem? hj)
      have hk6 := e6 _ _ (e5 _ _ hk4)
      refine ⟨rfl, ?_⟩
      refine ⟨_, rfl, _, rfl, _, rfl, (by show 2 ≤ sizeLine; decide), fun p7 hp7 => ?_⟩
      have e7 : Ex H6 (upd H6 p7 (.tup [.int a, .int j])) := Evl.Ex.new hp7
      refine ⟨d, _, rfl, by rw [← look a j ha hj1 (by omega) (by omega)]; exact DGet.t (k := key2 a j) (e7 _ _ hk6) upd_same, ?_⟩
      refine ⟨_, rfl, _, rfl, _, _, rfl, rfl, _, rfl, (by show 2 ≤ sizeLine; decide), fun p8 hp8 => ?_⟩
      have e8 : Ex (upd H6 p7 (.tup [.int a, .int j])) (upd (upd H6 p7 (.tup [.int a, .int j])) p8 (.tup [.int ((j : Int) + 1), .int b])) := Evl.Ex.new hp8
      refine ⟨d, _, rfl, by rw [← look (j + 1) b (by omega) (by omega) hbn (by omega)]; exact DGet.t (k := key2 (j + 1) b) (e8 _ _ (e7 _ _ hk6)) upd_same, ?_⟩
      refine ⟨_, _, rfl, rfl, cmul_nat (bd a j ha hj1 (by omega)), ky _ _ (e7.trans e8) ?_⟩
      show V.int (((GD tp a j).length : Int) * ((GD tp (j + 1) b).length : Int)) = V.int ((cntJ tp a b j : Nat) : Int)
      unfold cntJ
      rw [Int.natCast_mul]
    · have ey := paired_int py
      have es : (((tp a b).map fun j : Nat => ((cntJ tp a b j : Nat) : Int))).sum = lenG tp a b := by
        unfold lenG
        rw [GD_count ok hb, sum_cast]
      refine ⟨D, _, rfl, by rw [← ey]; exact SqL.of hy, ?_⟩
      rw [es]
      have hk6 := e6 _ _ (e5 _ _ hk4)
      refine ⟨_, rfl, _, rfl, _, rfl, (by show 2 ≤ sizeLine; decide), fun p9 hp9 => ?_⟩
      have e9 : Ex H6 (upd H6 p9 (.tup [.int a, .int b])) := Evl.Ex.new hp9
      have hd9 := e9 _ _ hk6
      have hll := sl_len n
      have hnn : n * (n - 1) ≤ 100 * 100 := Nat.mul_le_mul hn (by omega)
      have hil := (List.getElem?_eq_some_iff.mp hab).1
      refine ⟨d, _, rfl, DPut.t (k := key2 a b) hd9 upd_same (sz_lt' (by omega)), ?_⟩
      have keep : ∀ x o, x ≠ d → H4 x = some o → upd (upd H6 p9 (.tup [.int a, .int b])) d (.dT (putK kvs (key2 a b) (.int (lenG tp a b)))) x = some o := fun x o hx h => by
        rw [upd_ne hx]
        exact e9 _ _ (e6 _ _ (e5 _ _ h))
      refine ⟨Evl.Ex.mut (((e4.trans e5).trans e6).trans e9) hd, keep _ _ (fun z => by rw [z, hk4] at hp4; cases hp4) hp4, Paired.mapP pr4 fun v z ⟨q, hv, hq⟩ => ⟨q, hv, keep _ _ (fun z => by rw [z, hk4] at hq; cases hq) hq⟩, ⟨_, _, _, rfl⟩, _, upd_same, ?_, fun a' h1 h2 => ?_, fun a' b' hm => ?_⟩
      · have := length_putK kvs (key2 a b) (.int (lenG tp a b))
        omega
      · rw [valV_put, if_neg (fun c => by obtain ⟨z1, z2⟩ := key2_inj c; omega)]
        exact hsi a' h1 h2
      · rw [take_more hab, List.mem_append] at hm
        rw [valV_put]
        by_cases c : key2 a' b' = key2 a b
        · obtain ⟨rfl, rfl⟩ := key2_inj c
          rw [if_pos rfl]
        · rw [if_neg c]
          rcases hm with hm | hm
          · exact hall4 a' b' hm
          · have z : (a', b') = (a, b) := by simpa using hm
            injection z with z1 z2
            exact absurd (by rw [z1, z2]) c
  · rintro σ H4 ⟨e4, _, pr4, ⟨x1, y1, z1, rfl⟩, kvs, hk4, _, hsi, hall4⟩
    refine ⟨_, rfl, q _ _ e4 ⟨d, kvs, rfl, hk4, fun a b ha hb hbn => ?_⟩⟩
    by_cases c : a = b
    · subst c
      rw [hsi a ha hbn]
      unfold lenG
      rw [GD_self]
      rfl
    · refine hall4 a b ?_
      rw [pr4.length, List.take_length]
      exact mem_sl.mpr ⟨ha, by omega, hbn⟩
end RG

set_option Elab.async false
set_option linter.all false
set_option maxRecDepth 100000
set_option maxHeartbeats 4000000
namespace RG
open PySem PySem.Spec PyProof.Rows L2
variable {P : Program} {w : World} {K : PySem.W.Frag} {mg : Str → Option Value} {base : Heap}
/-! ### nth_of -/
def blockJ (tp : Nat → Nat → List Nat) (a b j : Nat) : List Tr := (GD tp a j).flatMap fun l => (GD tp (j + 1) b).map (Tr.nd l)
def spNth (K : PySem.W.Frag) (m : Nat) : Sp := fun vs H Q _ => ∃ (n a b k : Nat) (r mv : V) (q : Addr) (tp : Nat → Nat → List Nat) (t : Tr), vs = [r, mv, .ref q, .int k] ∧ n ≤ 100 ∧ TopsAt H r n tp ∧ NumAt H mv n (lenG tp) ∧ TpOk tp ∧ Bd tp n ∧
  H q = some (.tup [.int a, .int b]) ∧ 1 ≤ a ∧ a ≤ b ∧ b ≤ n ∧ b - a < m ∧ (GD tp a b)[k]? = some t ∧ ∀ v H', Ex H H' → Dp K H' v t.tp → Q v H'
theorem nth_none (T : Txt K mg) {k : Nat} : DefOk P w K mg base CX0 "nth_of" p_nth_of k (spNth K 0) := by
  have no : ∀ vs H Q E, ¬ spNth K 0 vs H Q E := fun vs H Q E ⟨_, _, _, _, _, _, _, _, _, _, _, _, _, _, _, _, _, _, _, h, _⟩ => absurd h (Nat.not_lt_zero _)
  obtain ⟨fd, F⟩ := T.F_nth_of
  exact ⟨⟨_, fd, T.g_nth_of, F.kp, F.bindsN (ps := p_nth_of) (fun _ _ _ _ _ _ us hl => match us, hl with | [_, _, _, _], _ => rfl), fn_none no⟩⟩
theorem nth_more (T : Txt K mg) {m : Nat} (D_nth_of : DefOk P w K mg base CX0 "nth_of" p_nth_of m (spNth K m)) :
    DefOk P w K mg base CX0 "nth_of" p_nth_of (m + 1) (spNth K (m + 1)) := by
  obtain ⟨fd, F⟩ := T.F_nth_of
  refine ⟨⟨_, fd, T.g_nth_of, F.kp, F.bindsN (ps := p_nth_of) (fun _ _ _ _ _ _ us hl => match us, hl with | [_, _, _, _], _ => rfl), F.ok sc_nth_of (fun vs H Q E h => ?_) fun cdv A outer s H vs Q E hr h => ?_⟩⟩
  · obtain ⟨n, a, b, k, r, mv, q, tp, t, rfl, _⟩ := h
    rfl
  obtain ⟨n, a, b, k, r, mv, q, tp, t, rfl, hn, hr0, hm0, ok, bd, hq, ha, hab, hbn, hm, hk, qq⟩ := h
  refine ⟨_, PSs.nox (pss_cons (ps_asg (pv 2) (pg_tup rfl (pgs_cons (pg_name (i := 4) sc_nth_of.nd rfl (Or.inl rfl)) (pgs_cons (pg_name (i := 5) sc_nth_of.nd rfl (Or.inl rfl)) pgs_nil)))) (pss_cons (ps_if (pt_cmpR op_eq (pv 4) (pv 5) (nomark _)) (pss_one (ps_ret (pv 4))) pss_nil) (pss_cons (ps_set (i := 6) sc_nth_of.nd rfl (Or.inl rfl) (pv 3)) (pss_cons (ps_for PassesOwn.never rfl (pi_list (pe_dget (hu_of hr) (pv 0) (pv 2) (fun _ _ => rfl))) (pg_name (i := 7) sc_nth_of.nd rfl (Or.inl rfl)) (pss_cons (ps_set (i := 8) sc_nth_of.nd rfl (Or.inl rfl) (pe_op op_mul (pe_dget (hu_of hr) (pv 1) (pe_tup (pa_cons (pv 4) (pa_cons (pv 7) pa_nil))) (fun _ _ => rfl)) (pe_dget (hu_of hr) (pv 1) (pe_tup (pa_cons (pe_op op_add (pv 7) pe_int) (pa_cons (pv 5) pa_nil))) (fun _ _ => rfl)))) (pss_cons (ps_if (pt_cmpR op_lt (pv 6) (pv 8) (nomark _)) (pss_cons (ps_par (i := 9) (j := 10) rfl sc_nth_of.nd rfl rfl (by decide) rfl rfl (pa_cons (pe_op op_fdiv (pv 6) (pe_dget (hu_of hr) (pv 1) (pe_tup (pa_cons (pe_op op_add (pv 7) pe_int) (pa_cons (pv 5) pa_nil))) (fun _ _ => rfl))) (pa_cons (pe_op op_mod (pv 6) (pe_dget (hu_of hr) (pv 1) (pe_tup (pa_cons (pe_op op_add (pv 7) pe_int) (pa_cons (pv 5) pa_nil))) (fun _ _ => rfl))) pa_nil)) (by rfl)) (pss_one (ps_ret (pe_tup (pa_cons (pe_d D_nth_of (hr.mono (by omega)) pass0 (pa_cons (pv 0) (pa_cons (pv 1) (pa_cons (pe_tup (pa_cons (pv 4) (pa_cons (pv 7) pa_nil))) (pa_cons (pv 9) pa_nil))))) (pa_cons (pe_d D_nth_of (hr.mono (by omega)) pass0 (pa_cons (pv 0) (pa_cons (pv 1) (pa_cons (pe_tup (pa_cons (pe_op op_add (pv 7) pe_int) (pa_cons (pv 5) pa_nil))) (pa_cons (pv 10) pa_nil))))) pa_nil)))))) pss_nil) (pss_one (ps_set (i := 6) sc_nth_of.nd rfl (Or.inl rfl) (pe_op op_sub (pv 6) (pv 8))))))) (pss_one (ps_ret pe_non)))))), ?_⟩
  refine ⟨_, rfl, gtup2 rfl hq ⟨_, rfl, _, rfl, rfl, _, rfl, ite2 (fun c => ?_) (fun c => ?_)⟩⟩
  · have e : a = b := by
      have e := of_decide_eq_true c
      injection e with e
      omega
    subst e
    rw [GD_self] at hk
    match k, hk with
    | 0, hk =>
      obtain rfl := Option.some.inj hk
      exact ⟨_, rfl, qq _ _ (exr H) (.int _)⟩
  have hlt : a < b := by
    have : ¬ a = b := fun e => c (by rw [e]; exact decide_eq_true rfl)
    omega
  obtain ⟨pt, kt, rfl, hpt, hkt⟩ := id hr0
  obtain ⟨pm, km, rfl, hpm, hkm⟩ := id hm0
  obtain ⟨l, hl1, hl2⟩ := hkt a b ha hlt hbn
  have hkey : H q = some (.tup ((key2 a b).map kV)) := hq
  refine ⟨_, rfl, _, rfl, _, rfl, pt, _, rfl, by rw [← hl1]; exact DGet.t hpt hkey, l, rfl, ⟨_, SqL.of hl2⟩, ?_⟩
  refine for_list (K := K) (xs := (tp a b).map fun j : Nat => V.int j) (fun i σ H' => Ex H H' ∧ ∃ (k' : Nat) (x1 x2 x3 x4 : Option V), σ = [some (.ref pt), some (.ref pm), some (.ref q), some (.int k), some (.int a), some (.int b), some (.int k'), x1, x2, x3, x4] ∧ (((tp a b).drop i).flatMap (blockJ tp a b))[k']? = some t)
    ⟨exr H, k, none, none, none, none, rfl, by rw [List.drop_zero]; rw [GD_eq ok hlt] at hk; exact hk⟩ (fun i σ H' _ h => SqL.of (h.1 _ _ hl2)) ?_ ?_
  · rintro i x σ H1 hi ⟨e1, k', x1, x2, x3, x4, rfl, hk'⟩
    rw [List.getElem?_map] at hi
    cases hj : (tp a b)[i]? with
    | none => rw [hj] at hi; cases hi
    | some j =>
      rw [hj] at hi
      obtain rfl := Option.some.inj hi
      obtain ⟨hj1, hj2⟩ := ok a b j (List.mem_of_getElem? hj)
      have hil := (List.getElem?_eq_some_iff.mp hj).1
      have hdrop : (tp a b).drop i = j :: (tp a b).drop (i + 1) := by
        rw [List.drop_eq_getElem_cons hil]
        rw [List.getElem?_eq_getElem hil] at hj
        rw [Option.some.inj hj]
      rw [hdrop, List.flatMap_cons] at hk'
      have hpm1 := e1 _ _ hpm
      have hpt1 := e1 _ _ hpt
      have l1 := hkm a j ha hj1 (by omega)
      have l2 := hkm (j + 1) b (by omega) (by omega) hbn
      have b1 := bd a j ha hj1 (by omega)
      have b2 := bd (j + 1) b (by omega) (by omega) hbn
      -- block = many[first, join] * many[join + 1, last]
      refine ⟨_, rfl, _, rfl, _, rfl, (by show 2 ≤ sizeLine; decide), fun p2 hp2 => ?_⟩
      have e2 : Ex H1 (upd H1 p2 (.tup [.int a, .int j])) := Evl.Ex.new hp2
      refine ⟨pm, _, rfl, by rw [← l1]; exact DGet.t (k := key2 a j) (e2 _ _ hpm1) upd_same, ?_⟩
      refine ⟨_, rfl, _, rfl, _, _, rfl, rfl, _, rfl, (by show 2 ≤ sizeLine; decide), fun p3 hp3 => ?_⟩
      have e3 : Ex (upd H1 p2 (.tup [.int a, .int j])) (upd (upd H1 p2 (.tup [.int a, .int j])) p3 (.tup [.int ((j : Int) + 1), .int b])) := Evl.Ex.new hp3
      have e13 := e2.trans e3
      refine ⟨pm, _, rfl, by rw [← l2]; exact DGet.t (k := key2 (j + 1) b) (e13 _ _ hpm1) upd_same, ?_⟩
      refine ⟨_, _, rfl, rfl, cmul_nat b1, ?_⟩
      have hbl : (blockJ tp a b j).length = (GD tp a j).length * (GD tp (j + 1) b).length := prod_len _ _ _
      refine ⟨_, rfl, _, rfl, _, _, rfl, rfl, _, rfl, ite2 (fun c => ?_) (fun c => ?_)⟩
      · have c1 : (k' : Int) < ((GD tp a j).length : Int) * ((GD tp (j + 1) b).length : Int) := of_decide_eq_true c
        have c2 : k' < (GD tp a j).length * (GD tp (j + 1) b).length := by
          rw [← Int.natCast_mul] at c1
          omega
        rw [List.getElem?_append_left (by rw [hbl]; exact c2)] at hk'
        obtain ⟨tx, ty, hx, hy, hxy⟩ := prod_get Tr.nd (GD tp (j + 1) b) (GD tp a j) k' c2
        have ex : blockJ tp a b j = (GD tp a j).flatMap fun l => (GD tp (j + 1) b).map (Tr.nd l) := rfl
        rw [ex, hxy] at hk'
        obtain rfl := Option.some.inj hk'
        have hpos : 0 < (GD tp (j + 1) b).length := by
          rcases Nat.eq_zero_or_pos (GD tp (j + 1) b).length with e | e
          · rw [e] at c2; omega
          · exact e
        have e03 := e1.trans e13
        refine ⟨_, rfl, _, rfl, _, rfl, _, _, rfl, rfl, _, rfl, (by show 2 ≤ sizeLine; decide), fun p4 hp4 => ?_⟩
        have e4 := Evl.Ex.new (o := .tup [.int ((j : Int) + 1), .int b]) hp4
        have e04 := e03.trans e4
        refine ⟨pm, _, rfl, by rw [← l2]; exact DGet.t (k := key2 (j + 1) b) (e04 _ _ hpm) upd_same, ?_⟩
        refine ⟨_, _, rfl, rfl, ⟨by unfold lenG; omega, by unfold lenG; omega⟩, ?_⟩
        refine ⟨_, rfl, _, rfl, _, rfl, _, _, rfl, rfl, _, rfl, (by show 2 ≤ sizeLine; decide), fun p5 hp5 => ?_⟩
        have e5 := Evl.Ex.new (o := .tup [.int ((j : Int) + 1), .int b]) hp5
        have e05 := e04.trans e5
        refine ⟨pm, _, rfl, by rw [← l2]; exact DGet.t (k := key2 (j + 1) b) (e05 _ _ hpm) upd_same, ?_⟩
        refine ⟨_, _, rfl, rfl, (by show 0 < lenG tp (j + 1) b; unfold lenG; omega), ?_⟩
        refine ⟨_, _, rfl, ?_⟩
        -- the two halves
        refine ⟨_, rfl, _, rfl, _, rfl, _, rfl, (by show 2 ≤ sizeLine; decide), fun p6 hp6 => ?_⟩
        have e6 := Evl.Ex.new (o := .tup [.int (a : Int), .int (j : Int)]) hp6
        have e06 := e05.trans e6
        have d1 : ((k' : Int) / lenG tp (j + 1) b) = ((k' / (GD tp (j + 1) b).length : Nat) : Int) := by
          unfold lenG
          rw [Int.natCast_ediv]
        have d2 : ((k' : Int) % lenG tp (j + 1) b) = ((k' % (GD tp (j + 1) b).length : Nat) : Int) := by
          unfold lenG
          rw [Int.natCast_emod]
        refine ⟨_, rfl, n, a, j, _, _, _, p6, tp, tx, by show [V.ref pt, V.ref pm, V.ref p6, V.int ((k' : Int) / lenG tp (j + 1) b)] = _; rw [d1], hn, hr0.ex e06, hm0.ex e06, ok, bd, upd_same, ha, hj1, by omega, by omega, hx, fun v1 H7 e7 r7 => ?_⟩
        have e07 := e06.trans e7
        refine ⟨_, rfl, _, rfl, _, rfl, _, _, rfl, rfl, _, rfl, (by show 2 ≤ sizeLine; decide), fun p8 hp8 => ?_⟩
        have e8 := Evl.Ex.new (o := .tup [.int ((j : Int) + 1), .int b]) hp8
        have e08 := e07.trans e8
        refine ⟨_, rfl, n, j + 1, b, _, _, _, p8, tp, ty, by show [V.ref pt, V.ref pm, V.ref p8, V.int ((k' : Int) % lenG tp (j + 1) b)] = _; rw [d2], hn, hr0.ex e08, hm0.ex e08, ok, bd, upd_same, by omega, by omega, hbn, by omega, hy, fun v2 H9 e9 r9 => ?_⟩
        refine ⟨(by show 2 ≤ sizeLine; decide), fun p10 hp10 => ?_⟩
        have e10 := Evl.Ex.new (o := .tup [v1, v2]) hp10
        exact qq _ _ ((e08.trans e9).trans e10) (.tup (SqT.of upd_same) (.cons (dp_ex ((e8.trans e9).trans e10) r7) (.cons (dp_ex e10 r9) .nil)))
      · have c1 : ¬ (k' : Int) < ((GD tp a j).length : Int) * ((GD tp (j + 1) b).length : Int) := of_decide_eq_false (Bool.eq_false_iff.mpr c)
        have c2 : (blockJ tp a b j).length ≤ k' := by
          rw [hbl]
          rw [← Int.natCast_mul] at c1
          omega
        rw [List.getElem?_append_right c2] at hk'
        refine ⟨_, rfl, _, rfl, _, _, rfl, rfl, e1.trans e13, k' - (blockJ tp a b j).length, some (.int j), some (.int (lenG tp a j * lenG tp (j + 1) b)), x3, x4, ?_, hk'⟩
        have e5 : ((k' - (blockJ tp a b j).length : Nat) : Int) = (k' : Int) - ((GD tp a j).length : Int) * ((GD tp (j + 1) b).length : Int) := by
          rw [← Int.natCast_mul, ← hbl]
          omega
        rw [e5]
        rfl
  · rintro σ H1 ⟨e1, k', x1, x2, x3, x4, rfl, hk'⟩
    rw [List.length_map, List.drop_length] at hk'
    cases hk'
theorem ok_nth (T : Txt K mg) : ∀ m : Nat, DefOk P w K mg base CX0 "nth_of" p_nth_of m (spNth K m)
  | 0 => nth_none T
  | m + 1 => nth_more T (ok_nth T m)
end RG

set_option Elab.async false
set_option linter.all false
set_option maxRecDepth 100000
set_option maxHeartbeats 4000000
/-! Rules that the kit lacks -/
namespace RG
open PySem PySem.Spec PyProof.Rows L2
/-- two ways that meet: R is found by the first use of key -/
theorem cutQ {G : Prop} (C : V → Hp → Prop) {R : V → Hp → Prop} (main : (∀ v H, C v H → R v H) → G) (key : ∀ v H, C v H → R v H) : G := main key
theorem cutS {G : Prop} (C : L2.St → Hp → Prop) {R : L2.St → Hp → Prop} (main : (∀ σ H, C σ H → R σ H) → G) (key : ∀ σ H, C σ H → R σ H) : G := main key
/-- a statement whose ways meet behind it -/
theorem seqCut {t u : TS} {D : Ends} {σ : L2.St} {H : Hp} (C : L2.St → Hp → Prop) (main : ∀ D' : Ends, (∀ σ H, C σ H → D'.nx σ H) → t D' σ H) (key : ∀ σ H, C σ H → u D σ H) : tSeq t u D σ H := main { D with nx := u D } key
theorem teCut {tv : TE} {σ : L2.St} {H : Hp} {R : VK} (C : V → Hp → Prop) (main : ∀ Q : VK, (∀ v H', C v H' → Q v H') → tv σ H Q) (key : ∀ v H', C v H' → R v H') : tv σ H R := main R key
section
variable {X : Cx}
/-- sum of a tuple of ints -/
def rSumT (K : PySem.W.Frag) : List V → Hp → VK → Prop := fun vs H Q => ∃ (a : Addr) (ns : List Int), vs = [V.ref a] ∧ SqT K H a (ns.map V.int) ∧ Q (.int ns.sum) H
theorem cr_sumT (hc : X.calm = true) : CallR X (.builtin "sum") (rSumT X.K) := by
  rintro pins s σ H vs us Q I r ⟨a, ns, rfl, hs, q⟩
  obtain ⟨its, rv, ht, _⟩ := I.tuple hs
  rw [Vals.ref1 r]
  have hi := rv.ints
  obtain ⟨xs, ex⟩ := hi.allInts.items
  have hn : numsOf (intItems xs).toList = ns := ex ▸ hi.numsOf
  rw [nums_intItems] at hn
  refine PySem.W.ktm_sumG (I.ok.hd hc) (ex ▸ ht) fun h' tk t' hk => ?_
  rw [preSum_eq, List.take_of_length_le (by simp), hn]
  exact ⟨.int _, H, I.kept hk, ⟨_, rfl⟩, q⟩
/-- (x,) * k for k = 1: the tuple itself; for k = 0: a new empty one -/
theorem tm_one (l : Addr) (items : Array Value) (n : Nat) (dd : Option Addr) (sl : Array (Option Value)) (u : Tok) :
    Meets (Builtin.«tuple.__mul__» ⟨[.ref l, .int 1 u], []⟩) (fun _ R s => s.heap.get? l = some { cls := .type "tuple", dict := dd, data := .seq items n, slots := sl } ∧ R (.ok (.ret (Value.ref l))) s) :=
  .of_wp fun prog w A R s h => by
    obtain ⟨hp, g, d, tk, os⟩ := s
    obtain ⟨hl, h⟩ := h
    have f1 := AutoSeq1.idx_int
    have c0 : (decide ((1 : Int) < -(2 ^ 63)) || decide ((1 : Int) ≥ 2 ^ 63)) = false := by decide
    have c1 : (items.isEmpty || (1 : Int) == 1) = true := by simp
    wp_walk using wpAny_loadPart' hl
    repeat (first
      | (refine wpAny_ite_false (decide_eq_false (by rw [c0]; exact Bool.false_ne_true)) ?_; wp_walk using wpAny_loadPart' hl)
      | (refine wpAny_ite_true (decide_eq_true c1) ?_; wp_walk using wpAny_loadPart' hl))
    exact ⟨_, rfl, h⟩
theorem tm_zero (l : Addr) (items : Array Value) (n : Nat) (dd : Option Addr) (sl : Array (Option Value)) (u : Tok) (hi : items.isEmpty = false) :
    Meets (Builtin.«tuple.__mul__» ⟨[.ref l, .int 0 u], []⟩) (fun _ R s => s.heap.get? l = some { cls := .type "tuple", dict := dd, data := .seq items n, slots := sl } ∧
      R (.ok (.ret (Value.ref s.heap.objs.size))) { s with heap := s.heap.push { cls := Value.type "tuple", data := Data.seq #[] }, toks := s.toks }) :=
  .of_wp fun prog w A R s h => by
    obtain ⟨hp, g, d, tk, os⟩ := s
    obtain ⟨hl, h⟩ := h
    have f1 := AutoSeq1.idx_int
    have c0 : (decide ((0 : Int) < -(2 ^ 63)) || decide ((0 : Int) ≥ 2 ^ 63)) = false := by decide
    have c1 : (items.isEmpty || (0 : Int) == 1) = false := by rw [hi]; rfl
    have c2 : (decide ((0 : Int) ≤ 0) || items.isEmpty) = true := by rfl
    wp_walk using wpAny_loadPart' hl
    repeat (first
      | (refine wpAny_ite_false (decide_eq_false (by rw [c0]; exact Bool.false_ne_true)) ?_; wp_walk using wpAny_loadPart' hl)
      | (refine wpAny_ite_false (decide_eq_false (by rw [c1]; exact Bool.false_ne_true)) ?_; wp_walk using wpAny_loadPart' hl)
      | (refine wpAny_ite_true (decide_eq_true c2) ?_; wp_walk using wpAny_loadPart' hl))
    exact ⟨_, rfl, h⟩
/-- t * k, 0 ≤ k -/
def rRepA (K : PySem.W.Frag) : R2 := fun x y H Q => ∃ l k xs, x = .ref l ∧ y = .int k ∧ SqT K H l xs ∧ xs ≠ [] ∧ 0 ≤ k ∧ k ≤ 1000 ∧ xs.length ≤ 1000 ∧ (k = 1 → Q (.ref l) H) ∧
  (k ≠ 1 → ∀ p, H p = none → Q (.ref p) (upd H p (.tup (List.replicate k.toNat xs).flatten)))
theorem op_repA : OpR X (binaryOp .Mult) (rRepA X.K) := by
  rintro pins s σ H x y v u Q I rx ry ⟨l, k, xs, ex, ey, hT, hne, h1, h2, hz, q1, q2⟩
  by_cases c2 : 2 ≤ k
  · exact op_repT pins s σ H x y v u Q I rx ry ⟨l, k, xs, ex, ey, hT, hne, c2, h2, hz, q2 (by omega)⟩
  subst ex ey
  cases rx
  obtain ⟨t, rfl⟩ := ry
  obtain ⟨its, r, ⟨⟨cls, dd, data, sl⟩, ho, hc, n, hd⟩, hs⟩ := I.tuple hT
  simp only at hc hd
  subst hc hd
  have hi : its.toArray.isEmpty = false := by
    cases its with
    | nil => exact absurd (List.eq_nil_of_length_eq_zero r.length) hne
    | cons a b => rfl
  have road : ∀ {R : Value → Shared → Prop}, wpAny (model X.prog X.w) X.A (call (.builtin "tuple.__mul__") [.ref l, .int k t]) R X.xe s → wpAny (model X.prog X.w) X.A (binaryOp .Mult (.ref l) (.int k t)) R X.xe s := fun {R} h =>
    wpAny_binaryOp_repeat_ref (T := "tuple") (U := "int") (by decide) ⟨_, ho, rfl⟩ (fun s' => typeIs_int s' k t) noFill_tuple_mul F.fills_int_mul F.slot_int_rmul repeat_tuple F.slot_int_index.lookup
      (call_meets F.slot_int_rmul (typeIs_int s k t) F.entry_int_rmul (F.args_int_rmul_2 _ _) (int_rmul_tuple k t l its.toArray n dd sl) ⟨ho, rfl, ⟨_, ho, rfl⟩, h⟩)
  by_cases c1 : k = 1
  · subst c1
    exact road (call_meets F.slot_tuple_mul ⟨_, ho, rfl⟩ F.entry_tuple_mul (F.args_tuple_mul_2 _ _) (tm_one l its.toArray n dd sl t) ⟨ho, .ref l, H, I, rfl, q1 rfl⟩)
  · have c0 : k = 0 := by omega
    subst c0
    refine road (call_meets F.slot_tuple_mul ⟨_, ho, rfl⟩ F.entry_tuple_mul (F.args_tuple_mul_2 _ _) (tm_zero l its.toArray n dd sl t hi) ⟨ho, ?_⟩)
    exact ⟨.ref s.heap.objs.size, _, I.laid (t' := s.toks) (o := .tup []) (fun b ob q => Heap.get?_push_of_some _ q) (Nat.le_refl _) ⟨Nat.zero_le _, [], .nil, IsTup.new _ _⟩, rfl, q2 c1 _ (I.hok.fresh (Nat.le_refl _))⟩
/-- what is never reached -/
def tNever : TS := fun _ _ _ => False
theorem ps_never {st : Stmt} : PS X st tNever := ⟨fun _ _ _ _ _ _ h => h.elim⟩
/-- o.f = .., as a target -/
def gFld (K : PySem.W.Frag) (to : TE) (f : Str) : TG := fun v σ H Q => to σ H fun x H2 => ∃ a C dx fs, x = .ref a ∧ H2 a = some (.ins C dx fs) ∧ Cls K C ∧ NoAttr K C f ∧ fs.length < 1000 ∧ Q σ (upd H2 a (.ins C dx (putF f v fs)))
theorem pg_fld {K : PySem.W.Frag} {o : Expr} {f : Str} {pos : Pos} {to : TE} (ho : PE X o to) (hK : X.K = K := by rfl)
    (ha : ∀ v, assign (.Attribute o f pos) X.env v = (do
      let ov ← holding [v] (eval o X.env)
      standAt pos.atName
      holding [v, ov] (setAttr ov f v)
      release [v, ov] []) := by intro _; rfl) : PG X (.Attribute o f pos) (gFld K to f) := by
  subst hK
  refine ⟨fun pins s σ H v u Q I r h => ?_⟩
  rw [ha]
  refine wpAny_bind (wpAny_holding (thn (ho.run pins s σ H _ I h) fun ov s1 ⟨x, H1, I1, r1, a, C, dx, fs, ex, ea, c, n, l, q⟩ => ?_))
  subst ex
  obtain rfl : ov = Value.ref a := r1
  exact wpAny_bind (wpAny_standAt (wpAny_bind (wpAny_holding (setattr_ok I1 ea c n l r fun s2 I2 => wpAny_release ⟨σ, _, I2, q⟩))))
/-- C(), C an own exception class without own __init__ -/
theorem pmk_own0 {C : Addr} {bmB : List Value} {B newId initId : String} {x : Str} {p pos : Pos} (F : ExcBaseFacts B newId initId bmB) (q : PySem.W.excIn X.K C bmB newId = true) (gC : X.mg x = some (.ref C)) (kC : PySem.W.keepIn X.K (.ref C) = true) (r : Raises X (.ref C))
    (hg : Gl X x := by rfl) (hdb : (x == ("__debug__" : Str)) = false := by decide) : PMk X (.Call (.Name x p) [] [] pos) (fun _ H Q => Q (.ref C) none H) := by
  rintro pins s σ H Q I h
  refine wpAny_Call_Name_kw (ld_glob I hg gC ?_ hdb)
  obtain ⟨bm, N, nm, qn, bs, hdct, sn, sub, ab, col, dd, k0, k1, k2, k3, k5, mN, hC, hN, hni, T⟩ := exc_obj I.kIn q
  exact PySem.W.callWith_K0 I.kIn kC (wpAny_call_exc_subT F T hC hN hni (fun h' e hm => mk_of I hm r h (I.hok.gone hm.new)) (Nat.zero_le _))
end
theorem mk_ve {X : Cx} {x : Str} (h : PySem.W.excIn X.K (He.ga X.K x) He.veBase "ValueError.__new__" = true ∧ PySem.W.keepIn X.K (.ref (He.ga X.K x)) = true ∧ PySem.W.subIn X.K (.ref (He.ga X.K x)) (.type "BaseException") = some true ∧ PySem.W.typeIn X.K (.ref (He.ga X.K x)) = some (.type "type"))
    (g : X.mg x = some (.ref (He.ga X.K x))) {p pos : Pos} (hg : Gl X x := by rfl) (hdb : (x == ("__debug__" : Str)) = false := by decide) : PMk X (.Call (.Name x p) [] [] pos) (fun _ H Q => Q (.ref (He.ga X.K x)) none H) :=
  pmk_own0 PySem.F.excBase_ValueError h.1 g h.2.1 (raises_own h.2.2.1 h.2.2.2) hg hdb
end RG

set_option Elab.async false
set_option linter.all false
set_option maxRecDepth 100000
set_option maxHeartbeats 4000000
/-! {k: v for .. in ..}, the keys tuples -/
namespace RG
open PySem PySem.Spec PyProof.Rows L2
section
variable {X : Cx}
/-- d[k] = v by a comprehension, k a tuple of ints, texts -/
theorem put_tup {pins : List (Addr × Obj)} {σ : L2.St} {H : Hp} {s : Shared} {E : Value → Shared → Prop} {D b : Addr} {kvs : List (List Key × V)} {k : List Key} {v : V} {r : Value} {Q : Unit → Shared → Prop} (hu : X.A.units + 1 < cLine)
    (I : Inv X pins σ H s) (e : H D = some (.dT kvs)) (eb : H b = some (.tup (k.map kV))) (l : kvs.length < sizeLine) (rv : RelV v r) (h : ∀ s', Inv X pins σ (upd H D (.dT (putK kvs k v))) s' → Q () s') :
    wpAny (model X.prog X.w) X.A (dictSet D (.ref b) r) Q E s := by
  obtain ⟨z, hd, xs, rel, dd⟩ := dt_of I.hok e
  have hl : (putK kvs k v).length ≤ sizeLine := Nat.le_trans (length_putK kvs k v) l
  refine wpAny_dictSet_heap (hsz := (Paired.length rel) ▸ z) (Nat.lt_of_succ_lt hu) (key_of I.hok eb) dd fun h' ⟨q, es, ep, hq, h2, h3, h4, _, h5⟩ hs => h _ ?_
  refine d_write I (e ▸ True.intro) hs ⟨q, hq⟩ ⟨hl, hd, _, (rel.put k eb rv).keeps fun c ys ec => ?_, q, es, ep, hq, h2, h3, h4, h5⟩
  rw [upd_ne (ne_of ec e (fun z => nomatch z))]
  exact ec
/-- D: the new dict -/
def tDcT (wi : TI) (g : TG) (tt : TT) (tk tv : TE) (vs : List Nat) : TE := fun σ H Q => wi σ H fun J H1 => ∀ D, H1 D = none → ∃ W : Nat → Nat → Hp → Prop, (∃ m, W 0 m (upd H1 D (.dT []))) ∧ ∀ i m H, W i m H →
  (J.stop i H ∧ Q (.ref D) H) ∨ (J.go i H ∧ ∃ Nx : Hp → Prop, (∀ H', Nx H' → ∃ m', m' < m ∧ W (i + 1) m' H') ∧ ∀ x H', J.yld i H x H' → g x (wipe σ vs) H' fun σ2 H2 => wipe σ2 vs = wipe σ vs ∧ tt σ2 H2 fun c H3 =>
    if c = true then tk σ2 H3 fun y H4 => tv σ2 H4 fun z H5 => ∃ b kvs k, y = .ref b ∧ H5 b = some (.tup (k.map kV)) ∧ H5 D = some (.dT kvs) ∧ kvs.length < sizeLine ∧ Nx (upd H5 D (.dT (putK kvs k z))) else Nx H3)
variable {kx vx tg iter : Expr} {ifs : List Expr} {scope : Scope} {own : List (Str × Nat)} {pos pos' : Pos} {wi : TI} {g : TG} {tt : TT} {tk tv : TE}
theorem pe_dcT (hu : X.A.units + 1 < cLine) (hc : X.calm = true) (hN : X.N.Nodup) (hi : PI X tg iter wi) (ok : BlkOk X.N X.env.scope scope own)
    (hg : ∀ (s : Shared) (H : Hp) (C : Addr) (cl : List (Str × Addr)) (fp : List Addr), PG (X.blk s H scope (compEnvC scope cl C X.env) fp) tg g)
    (ht : ∀ (s : Shared) (H : Hp) (C : Addr) (cl : List (Str × Addr)) (fp : List Addr), PTs (X.blk s H scope (compEnvC scope cl C X.env) fp) ifs tt)
    (hk : ∀ (s : Shared) (H : Hp) (C : Addr) (cl : List (Str × Addr)) (fp : List Addr), PE (X.blk s H scope (compEnvC scope cl C X.env) fp) kx tk)
    (hv : ∀ (s : Shared) (H : Hp) (C : Addr) (cl : List (Str × Addr)) (fp : List Addr), PE (X.blk s H scope (compEnvC scope cl C X.env) fp) vx tv)
    (hs : ∀ x, foldedSetIterable iter X.env x = pure x := by intro _; rfl) : PE X (.DictComp kx vx [⟨tg, iter, ifs, 0⟩] scope pos) (tDcT wi g tt tk tv (own.map (·.2))) := by
  refine ⟨fun pins s σ H Q I h => ?_⟩
  rw [arm_eval_DictComp]
  have clo : ∀ y ∈ scope.names, y.2 = .free → ∃ c, X.env.cells.lookup y.1 = some c := fun y hy e => (ok.free y hy e).elim (fun k => I.ok.has _ (.inl k)) fun k => I.ok.has _ (.inr k)
  refine wpAny_comprehension_free rfl hs (closure_ok clo) ok.kind (fun y hy e => by rw [ok.uniq y hy, e]) (thn (hi.run pins s σ H _ I h) fun _ _ hx => thn hx fun _ s2 ⟨it, fp, tn, J, H2, e, I2, T, st2, f2, q⟩ => ?_)
  subst e
  refine wpAny_newObj_type (newEnv_comp ?_)
  -- the new dict, at D
  obtain ⟨D, hD⟩ : ∃ D, D = s2.heap.objs.size := ⟨_, rfl⟩
  rw [← hD]
  have hDn : H2 D = none := I2.hok.fresh (Nat.le_of_eq hD.symm)
  obtain ⟨W, ⟨m0, w0⟩, turn⟩ := q D hDn
  obtain ⟨s3, hs3⟩ : ∃ s3 : Shared, s3 = { s2 with heap := s2.heap.push { cls := .type "dict", data := .dict #[] } } := ⟨_, rfl⟩
  rw [← hs3]
  have h3 : s3.heap = s2.heap.push { cls := .type "dict", data := .dict #[] } := by rw [hs3]
  obtain ⟨H3, hH3⟩ : ∃ H3, H3 = upd H2 D (.dT []) := ⟨_, rfl⟩
  rw [← hH3] at w0
  have I3 : Inv X pins σ H3 s3 := by
    rw [hs3, hH3]
    exact I2.laid (t' := s2.toks) (fun b o e => Heap.get?_push_of_some _ e) (Nat.le_of_eq hD.symm) (hD ▸ dt_empty s2.heap I2.big)
  have inOld : ∀ b ∈ fp, b < s2.heap.objs.size := fun b hb => let ⟨_, e, _⟩ := T.obj _ _ st2 b hb; Heap.lt_size e
  have f3 : ∀ b ∈ fp, FpOk X pins H3 b ∧ b < s3.heap.objs.size := fun b hb => by
    have lt := inOld b hb
    refine ⟨⟨?_, (f2 b hb).2⟩, by rw [h3, Heap.size_push]; exact Nat.lt_succ_of_lt lt⟩
    rw [hH3, upd_ne (by rw [hD]; exact Nat.ne_of_lt lt)]
    exact (f2 b hb).1
  have none3 : ∀ b ∈ fp, H3 b = none := fun b hb => (f3 b hb).1.1
  have st3 : tn 0 s3.heap := T.keep _ _ _ st2 fun b _ o e => by rw [h3]; exact Heap.get?_push_of_some _ e
  have I4 := block_start I3 ok hN f3
  obtain ⟨cl, hcl⟩ : ∃ cl, cl = cellsFrom (s3.heap.objs.size + 1) scope.names (cloFrom X.env.cells scope.names []) := ⟨_, rfl⟩
  have pg := hg s3 H3 s3.heap.objs.size cl fp
  have pt := ht s3 H3 s3.heap.objs.size cl fp
  have pk := hk s3 H3 s3.heap.objs.size cl fp
  have pv := hv s3 H3 s3.heap.objs.size cl fp
  rw [← hcl] at I4
  show codeAny _ _ (.compStart (.DictComp kx vx [⟨tg, iter, ifs, 0⟩] scope pos) 0 (.ref it) (.ref D) (compEnvC scope (cellsFrom (s3.heap.objs.size + 1) scope.names (cloFrom X.env.cells scope.names [])) s3.heap.objs.size X.env)) _ { s3 with heap := pushCells (s3.heap.push { cls := .type "dict", data := .dict #[] }) scope.names }
  rw [← hcl]
  obtain ⟨ce, hce⟩ : ∃ ce, ce = compEnvC scope cl s3.heap.objs.size X.env := ⟨_, rfl⟩
  have cL : ce.locals = s3.heap.objs.size := by rw [hce]; rfl
  rw [← hce] at I4 pg pt pk pv ⊢
  obtain ⟨s4, hs4⟩ : ∃ s4 : Shared, s4 = { s3 with heap := pushCells (s3.heap.push { cls := .type "dict", data := .dict #[] }) scope.names } := ⟨_, rfl⟩
  rw [← hs4] at I4 ⊢
  have st4 : tn 0 s4.heap := T.keep _ _ _ st3 fun b _ o e => by rw [hs4]; exact pushCells_keeps _ _ _ _ (Heap.get?_push_of_some _ e)
  have stat : ∀ {σ' : L2.St} {H' : Hp} {s' : Shared}, Inv (X.blk s3 H3 scope ce fp) [] σ' H' s' → (∀ b ∈ fp, H' b = none) → ∀ b ∈ fp, FpOk (X.blk s3 H3 scope ce fp) [] H' b := fun I' hn b hb =>
    ⟨hn b hb, (I'.ok.exf b hb).1, I'.ok.exfs b hb, .inl hb, fun x c e => (I'.ok.exf b hb).2 x c e, fun p hp => absurd (show p ∈ ([] : List (Addr × Obj)) ++ [] from hp) (by simp)⟩
  -- what holds ahead of a turn
  let At : Nat → Shared → Prop := fun n s' => ∃ i H', Inv (X.blk s3 H3 scope ce fp) [] (wipe σ (own.map (·.2))) H' s' ∧ tn i s'.heap ∧ (∀ b ∈ fp, H' b = none) ∧ W i n H'
  refine codeAny_compStart_dict (compLoop_anyD At ?_ m0 ⟨0, H3, I4, st4, none3, w0⟩) (T.self X.A 0 _ _ _ st4 (compLoop_anyD At ?_ m0 ⟨0, H3, I4, st4, none3, w0⟩))
  all_goals
    rintro n s5 ⟨i, H5, I5, st5, n5, w5⟩
    rcases turn i n H5 w5 with ⟨stop, qq⟩ | ⟨go, Nx, hNx, step⟩
    · refine thnF (T.done (X.blk s3 H3 scope ce fp) rfl rfl rfl hc i [] s5 _ H5 (fun _ _ => False) I5 (stat I5 n5) st5 stop) fun r s6 ⟨hr, I6⟩ => ?_
      subst hr
      have I7 : Inv X pins σ H5 s6 := I3.call' (ch := fp) I6.os I6.base I6.hok I6.bare fun b hb => ⟨(f3 b hb).1.2.2.2.1, (f3 b hb).1.2.1, (f3 b hb).1.2.2.2.2.1, (f3 b hb).1.2.2.2.2.2⟩
      have nC : H5 s3.heap.objs.size = none := cL ▸ (I6.free : H5 ce.locals = none)
      obtain ⟨m, hn, _⟩ := I6.loc
      obtain ⟨g0, g1, _, g3, g4, g5⟩ := I3.fpOk (Nat.le_refl _) nC
      exact ⟨m, cL ▸ (hn : s6.heap.Ns ce.locals m), fun h'' sb => ⟨.ref D, H5, I7.turned (t' := s6.toks) (fun b o hb e => (sb.2 b hb).trans e) g0 (by assumption) g3 g4 g5, rfl, qq⟩⟩
    · refine thnF (T.item (X.blk s3 H3 scope ce fp) rfl rfl rfl hc i [] s5 _ H5 (fun _ _ => False) I5 (stat I5 n5) st5 go) fun r s6 ⟨u, hr, h6⟩ => ?_
      subst hr
      refine thnF h6 fun _ s7 ⟨x, H7, I7, r7, y7, st7, n7⟩ => ?_
      have obj7 := T.obj _ _ st7
      refine thnF (pg.run _ s7 _ H7 x u _ (I7.pinned (stat I7 n7) obj7) r7 (step x H7 y7)) fun _ s8 ⟨σ8, H8, I8, hw8, q8⟩ => ?_
      refine thnF (pt.run _ s8 σ8 H8 _ I8 q8) fun c s9 ⟨H9, I9, q9⟩ => ?_
      have fin : ∀ {s' : Shared} {H' : Hp}, Inv (X.blk s3 H3 scope ce fp) ([] ++ pinsAt fp s7.heap) σ8 H' s' → Nx H' → ∃ m, m < n ∧ At m s' := fun {s' H'} I' nx => by
        obtain ⟨m', hm, w'⟩ := hNx H' nx
        have pin' : ∀ b ∈ fp, ∀ o, s7.heap.get? b = some o → s'.heap.get? b = some o ∧ H' b = none := fun b hb o e =>
          let z := I'.pin (b, o) (List.mem_append_right _ (List.mem_append_right _ (mem_pinsAt hb e)))
          ⟨z.1, z.2.1⟩
        refine ⟨m', hm, i + 1, H', (I'.unpinned (pins := [])).weak (by rw [← hw8, wipe_length]) (fun j v e => (wipe_some (hw8.symm ▸ e)).1), T.keep _ _ _ st7 fun b hb o e => (pin' b hb o e).1, fun b hb => ?_, w'⟩
        obtain ⟨o, e, _⟩ := obj7 b hb
        exact (pin' b hb o e).2
      cases c with
      | false => exact fin I9 q9
      | true =>
        refine thnF (pk.run _ s9 σ8 H9 _ I9 q9) fun z s10 ⟨yk, H10, I10, r10, q10⟩ => ?_
        refine thnF (pv.run _ s10 σ8 H10 _ I10 q10) fun z2 s11 ⟨yv, H11, I11, r11, b, kvs, k, ek, eb, hD11, hz11, nx⟩ => ?_
        subst ek
        cases (show z = Value.ref b from r10)
        exact put_tup (X := X.blk s3 H3 scope ce fp) hu I11 hD11 eb hz11 r11 fun s12 I12 => fin I12 nx
end
end RG

set_option Elab.async false
set_option linter.all false
set_option maxRecDepth 100000
set_option maxHeartbeats 4000000
/-! zip of a list and a tuple -/
namespace RG
open PySem PySem.Spec PyProof.Rows L2
/-- the list at a and the tuple at b as they stand at each turn, the items in new pairs -/
def ItzM (K : PySem.W.Frag) (a b : Addr) : It :=
  ⟨fun i H => ∃ (xs ys : List V) (x y : V), SqL K H a xs ∧ SqT K H b ys ∧ xs[i]? = some x ∧ ys[i]? = some y,
    fun i H v H' => ∃ T x y, v = .ref T ∧ H T = none ∧ H' = upd H T (.tup [x, y]) ∧ (∀ xs, SqL K H a xs → xs[i]? = some x) ∧ ∀ ys, SqT K H b ys → ys[i]? = some y,
    fun i H => ∃ xs ys : List V, SqL K H a xs ∧ SqT K H b ys ∧ i ≤ xs.length ∧ i ≤ ys.length ∧ (i = xs.length ∨ i = ys.length)⟩
def stM (a b z TI TO i1 i2 : Addr) (i : Nat) (h : Heap) : Prop := IsZip h z TI TO .none ∧ IsTupOf2 h TI (.ref i1) (.ref i2) ∧ (∃ x y, IsTupOf2 h TO x y) ∧ h.IsListIter i1 a i ∧ h.IsTupleIter i2 b i
theorem sepM (n a b : Nat) (ha : a < n) (hb : b < n) : ZipSep2 (n + 4) (n + 2) (n + 3) n (n + 1) [n, a] [n + 1, b] where
  TIz := Nat.ne_of_lt (by omega)
  TOz := Nat.ne_of_lt (by omega)
  TITO := Nat.ne_of_lt (by omega)
  TIi1 := Nat.ne_of_gt (by omega)
  mem1 := List.mem_cons_self
  zf1 := fun h => by
    have h : n + 4 ∈ [n, a] := h
    simp at h
    omega
  Tf1 := fun h => by
    have h : n + 3 ∈ [n, a] := h
    simp at h
    omega
  TIi2 := Nat.ne_of_gt (by omega)
  mem2 := List.mem_cons_self
  zf2 := fun h => by
    have h : n + 4 ∈ [n + 1, b] := h
    simp at h
    omega
  Tf2 := fun h => by
    have h : n + 3 ∈ [n + 1, b] := h
    simp at h
    omega
  sep1_2 := fun h => by
    have h : n ∈ [n + 1, b] := h
    simp at h
    omega
  sep2_1 := fun h => by
    have h : n + 1 ∈ [n, a] := h
    simp at h
    omega
theorem turn_zipM {P : Program} {w : World} {K : PySem.W.Frag} {elts : List Expr} {kk : Nat} {tpos : Pos} {a b n : Nat} (ha : a < n) (hb : b < n) : Turn P w K (.Tuple elts kk tpos) (ItzM K a b) [n + 4, n + 2, n + 3, n, n + 1] (n + 4) (stM a b (n + 4) (n + 2) (n + 3) n (n + 1)) where
  mem := by simp
  obj := fun i h st c hc => by
    obtain ⟨hz, hTI, ⟨x, y, hTO⟩, ⟨o1, e1, _, d1⟩, ⟨o2, e2, _, d2⟩⟩ := st
    have e' : c = n + 4 ∨ c = n + 2 ∨ c = n + 3 ∨ c = n ∨ c = n + 1 := by simpa using hc
    rcases e' with q | q | q | q | q
    · rw [q]; exact ⟨_, hz, fun v q => nomatch q⟩
    · rw [q]; exact ⟨_, hTI, fun v q => nomatch q⟩
    · rw [q]; exact ⟨_, hTO, fun v q => nomatch q⟩
    · exact ⟨o1, q ▸ e1, fun v q => by rw [d1] at q; cases q⟩
    · exact ⟨o2, q ▸ e2, fun v q => by rw [d2] at q; cases q⟩
  keep := fun i h h' st k => by
    obtain ⟨hz, hTI, ⟨x, y, hTO⟩, h1, h2⟩ := st
    exact ⟨k (n + 4) (by simp) _ hz, k (n + 2) (by simp) _ hTI, ⟨x, y, k (n + 3) (by simp) _ hTO⟩, h1.at fun o q => k n (by simp) o q, h2.at fun o q => k (n + 1) (by simp) o q⟩
  item := by
    rintro X rfl rfl rfl hc i pins s σ H E I hf ⟨hz, hTI, ⟨x0, y0, hTO⟩, h1, h2⟩ ⟨xs, ys, x, y, hqx, hqy, hx, hy⟩
    obtain ⟨its, rv, p, _⟩ := I.list hqx
    obtain ⟨its2, rv2, p2, _⟩ := I.tuple hqy
    obtain ⟨u, hu, ru⟩ := rv.get hx
    obtain ⟨u2, hu2, ru2⟩ := rv2.get hy
    have hh : X.A.in1.handled = none := I.ok.hd hc
    have S := sepM n a b ha hb
    have D1 := Draws.list (prog := X.prog) (w := X.w) hh n a (Nat.ne_of_lt ha) its.toArray
    have D2 := Draws.tuple (prog := X.prog) (w := X.w) hh (n + 1) b (Nat.ne_of_lt (Nat.lt_succ_of_lt hb)) its2.toArray
    have l1 : i < its.toArray.size := by
      have := (List.getElem?_eq_some_iff.mp hu).1
      simpa using this
    have l2 : i < its2.toArray.size := by
      have := (List.getElem?_eq_some_iff.mp hu2).1
      simpa using this
    have hzl : n + 4 < s.heap.objs.size := Heap.lt_size hz
    refine wpAny_pyNext_zipD2_item S D1 D2 hz hTI hTO ⟨h1, p.isList⟩ ⟨h2, p2⟩ l1 l2 fun v1 v2 h' tk q1 q2 z' TO' st1 st2 hT hsz hk => ?_
    have ev1 : v1 = u := Option.some.inj (q1.symm.trans (by simpa using hu))
    have ev2 : v2 = u2 := Option.some.inj (q2.symm.trans (by simpa using hu2))
    subst ev1 ev2
    refine ⟨_, rfl, wpAny_letOwnedTupleGo_zip (s := { s with heap := h', toks := tk }) z' fun h'' z'' sb => ?_⟩
    have hT2 : h''.get? s.heap.objs.size = some { cls := .type "tuple", data := .seq #[v1, v2] } := (sb.2 _ (Nat.ne_of_gt hzl)).trans hT
    have new : ObjOk X.prog X.w (upd H s.heap.objs.size (.tup [x, y])) h'' s.heap.objs.size (.tup [x, y]) := ⟨by show 2 ≤ sizeLine; decide, [v1, v2], .cons ru (.cons ru2 .nil), ⟨_, hT2, rfl, _, rfl⟩⟩
    have I1 : Inv X pins σ (upd H s.heap.objs.size (.tup [x, y])) { s with heap := h'', toks := tk } :=
      I.turnedNew (t' := tk) (ch := [n + 4, n + 2, n + 3, n, n + 1]) (fun c o hb q => (sb.2 c (fun q' => hb (by simp [q']))).trans (hk c o (fun q' => hb (by simp [q'])) (fun q' => hb (by simp [q'])) (fun q' => hb (by simp [q'])) (fun q' => hb (by simp [q'])) q)) hf (Nat.le_refl _) new
    refine ⟨.ref s.heap.objs.size, _, I1, rfl, ⟨_, x, y, rfl, I.hok.fresh (Nat.le_refl _), rfl, fun l hl => by rw [I.list_inj hl hqx]; exact hx, fun l hl => by rw [I.tuple_inj hl hqy]; exact hy⟩, ⟨z'', ?_, ⟨v1, v2, ?_⟩, ?_, ?_⟩, fun c hcm => ?_⟩
    · exact (sb.2 _ S.TIz).trans (hk _ _ S.TIz S.TITO S.TIi1 S.TIi2 hTI)
    · exact (sb.2 _ S.TOz).trans TO'
    · exact st1.1.at fun o q => (sb.2 n (Nat.ne_of_lt (Nat.lt_add_of_pos_right (by decide)))).trans q
    · exact st2.1.at fun o q => (sb.2 (n + 1) (Nat.ne_of_lt (Nat.add_lt_add_left (by decide) n))).trans q
    · have e' : c = n + 4 ∨ c = n + 2 ∨ c = n + 3 ∨ c = n ∨ c = n + 1 := by simpa using hcm
      have hzl' : n + 4 < s.heap.objs.size := hzl
      have hc' : ∀ c : Nat, (c = n + 4 ∨ c = n + 2 ∨ c = n + 3 ∨ c = n ∨ c = n + 1) → c ≠ s.heap.objs.size := fun c h => by omega
      rw [upd_ne (hc' c e')]
      exact (hf c hcm).1
  done := by
    rintro X rfl rfl rfl hc i pins s σ H E I hf ⟨hz, hTI, ⟨x0, y0, hTO⟩, h1, h2⟩ ⟨xs, ys, hqx, hqy, i1, i2, hend⟩
    obtain ⟨its, rv, p, _⟩ := I.list hqx
    obtain ⟨its2, rv2, p2, _⟩ := I.tuple hqy
    have hh : X.A.in1.handled = none := I.ok.hd hc
    have S := sepM n a b ha hb
    have D1 := Draws.list (prog := X.prog) (w := X.w) hh n a (Nat.ne_of_lt ha) its.toArray
    have D2 := Draws.tuple (prog := X.prog) (w := X.w) hh (n + 1) b (Nat.ne_of_lt (Nat.lt_succ_of_lt hb)) its2.toArray
    have l1 : its.toArray.size = xs.length := by rw [List.size_toArray]; exact rv.length.symm
    have l2 : its2.toArray.size = ys.length := by rw [List.size_toArray]; exact rv2.length.symm
    refine wpAny_pyNext_zipD2_end S D1 D2 hz hTI hTO ⟨h1, p.isList⟩ ⟨h2, p2⟩ (by omega) (by omega) (by omega) fun h' tk hk => ⟨rfl, I.turnedL (t' := tk) (ch := [n + 4, n + 2, n + 3, n, n + 1]) (fun c o hb q =>
      hk c o (fun q' => hb (by simp [q'])) (fun q' => hb (by simp [q'])) (fun q' => hb (by simp [q'])) (fun q' => hb (by simp [q'])) q) hf⟩
  self := fun A i s Q E st h => wpAny_pyIter_zip st.1 h
def iZipM (K : PySem.W.Frag) (ta : TA) : TI := fun σ H R => ta σ H fun vs H1 => ∃ a b xs ys, vs = [.ref a, .ref b] ∧ SqL K H1 a xs ∧ SqT K H1 b ys ∧ R (ItzM K a b) H1
theorem pi_zipM {X : Cx} {e e2 : Expr} {ta : TA} {p pos tpos : Pos} {elts : List Expr} {kk : Nat} (hg : Gl X "zip") (hm : X.mg "zip" = none) (ha : PA X [e, e2] ta)
    (hs : starEach [e, e2] X.env = (false, eval e X.env) :: starEach [e2] X.env := by rfl) (hpl : (backTo pos (starEach [e2] X.env)).any (·.1) = false := by rfl) :
    PI X (.Tuple elts kk tpos) (.Call (.Name "zip" p) [e, e2] [] pos) (iZipM X.K ta) := by
  refine ⟨fun pins s σ H R I h => ?_⟩
  refine Call_ (ld_blt I hg hm PyProof.Rows.boot_zip (PyProof.Rows.callWith_type1 (thn (ha.run pos pins s σ H _ I h) fun us s1 ⟨vs, H1, I1, r1, a, b, xs, ys, ex, hqx, hqy, q⟩ => ?_) hs hpl))
  subst ex
  cases r1 with
  | cons r rr =>
    cases rr with
    | cons r' rr =>
      cases rr
      cases r
      cases r'
      obtain ⟨its, rv, p1, _⟩ := I1.list hqx
      obtain ⟨its2, rv2, p2, _⟩ := I1.tuple hqy
      obtain ⟨o2, ho2, _⟩ := id p2
      refine zip_begins2 (begins_list a its.toArray) (begins_tuple b its2.toArray) p1.isList p2 fun h' hz hTI hTO h1 h2 hsz hk => wpAny_pyIter_zip hz ?_
      have I2 : Inv X pins σ H1 { s1 with heap := h' } := I1.kept (t' := s1.toks) hk
      refine ⟨s1.heap.objs.size + 4, [s1.heap.objs.size + 4, s1.heap.objs.size + 2, s1.heap.objs.size + 3, s1.heap.objs.size, s1.heap.objs.size + 1], _, _, H1, rfl, I2, turn_zipM p1.lt (Heap.lt_size ho2), ⟨hz, hTI, ⟨_, _, hTO⟩, ⟨_, h1, rfl, rfl⟩, ⟨_, h2, rfl, rfl⟩⟩, fun c hcm => ?_, q⟩
      have e' : c = s1.heap.objs.size + 4 ∨ c = s1.heap.objs.size + 2 ∨ c = s1.heap.objs.size + 3 ∨ c = s1.heap.objs.size ∨ c = s1.heap.objs.size + 1 := by simpa using hcm
      have hc' : ∀ c m : Nat, (c = m + 4 ∨ c = m + 2 ∨ c = m + 3 ∨ c = m ∨ c = m + 1) → m ≤ c := fun c m h => by omega
      have hle : s1.heap.objs.size ≤ c := hc' c _ e'
      exact I1.fpOk hle (I1.hok.fresh hle)
/-- as a source, of two of one length -/
theorem src_zipM {α β : Type} {K : PySem.W.Frag} {H1 : Hp} {R : Hp → V → α → Prop} {S : Hp → V → β → Prop} {a b : Addr} {xs ys : List V} {as : List α} {bs : List β} (m : MonoR R) (m2 : MonoR S) (h : SqL K H1 a xs) (p : Paired (R H1) xs as) (h2 : SqT K H1 b ys) (p2 : Paired (S H1) ys bs) :
    Src (ItzM K a b) H1 (RP2 R S) (as.zip bs) where
  go := fun i z H2 e hz => by
    obtain ⟨z1, z2⟩ := zip_get hz
    obtain ⟨x, hx, _⟩ := paired_get2 p z1
    obtain ⟨y, hy, _⟩ := paired_get2 p2 z2
    exact ⟨xs, ys, x, y, Evl.ex_l e h, Evl.ex_t e h2, hx, hy⟩
  stop := fun H2 e => ⟨xs, ys, Evl.ex_l e h, Evl.ex_t e h2, by rw [p.length, List.length_zip]; omega, by rw [p2.length, List.length_zip]; omega, by rw [p.length, p2.length, List.length_zip]; omega⟩
  yld := fun i z x H2 H3 e hz y => by
    obtain ⟨z1, z2⟩ := zip_get hz
    obtain ⟨T, u, v, rfl, hT, rfl, y1, y2⟩ := y
    obtain ⟨x', hx, r⟩ := paired_get2 p z1
    obtain ⟨y', hy, r2⟩ := paired_get2 p2 z2
    obtain rfl := Option.some.inj ((y1 xs (Evl.ex_l e h)).symm.trans hx)
    obtain rfl := Option.some.inj ((y2 ys (Evl.ex_t e h2)).symm.trans hy)
    have e3 := Evl.Ex.new (o := .tup [u, v]) hT
    exact ⟨e3, T, u, v, rfl, upd_same, m _ _ _ _ (e.trans e3) r, m2 _ _ _ _ (e.trans e3) r2⟩
end RG

set_option Elab.async false
set_option linter.all false
set_option maxRecDepth 100000
set_option maxHeartbeats 4000000
namespace RG
open PySem PySem.Spec PyProof.Rows L2
variable {P : Program} {w : World} {K : PySem.W.Frag} {mg : Str → Option Value} {base : Heap}
/-! ### limits -/
def OpT (K : PySem.W.Frag) (H : Hp) (v : V) : Option Tr → Prop
  | none => v = .non
  | some t => TrM K H v t ∧ t.ht < 30 ∧ t.trip.length ≤ 1000
theorem OpT.ex {H H' : Hp} {v : V} {o : Option Tr} (e : Ex H H') (h : OpT K H v o) : OpT K H' v o := by
  cases o with
  | none => exact h
  | some t => exact ⟨h.1.ex e, h.2⟩
theorem OpT.val {H : Hp} {v : V} {o : Option Tr} (h : OpT K H v o) : (!decide (v = .non)) = o.isSome := by
  cases o with
  | none =>
    cases (show v = .non from h)
    rfl
  | some t =>
    cases h.1 <;> rfl
inductive Bad
  | unlike
  | behind
def EBad (K : PySem.W.Frag) : Bad → Value
  | .unlike => .ref (He.ga K "Unlike")
  | .behind => .ref (He.ga K "NotBehind")
def badO (n : Nat) : Option Tr → Bool
  | some t => t.lst != n
  | none => false
def lowR (n : Nat) : Option Tr → List Nat
  | some t => t.rch
  | none => (List.range (n - 1)).map (· + 2)
def highR (n : Nat) : Option Tr → List Nat
  | some t => t.rch
  | none => List.replicate (n - 1) n
def rowsF (n : Nat) (lo hi : Option Tr) : List (Nat × Nat) := (lowR n lo).zip (highR n hi)
def limF (n : Nat) (lo hi : Option Tr) : Except Bad (List (Nat × Nat)) :=
  if (badO n lo || badO n hi) = true then .error .unlike else if ((rowsF n lo hi).any fun p => decide (p.2 < p.1)) = true then .error .behind else .ok (rowsF n lo hi)
def LimQ (K : PySem.W.Frag) (H : Hp) (Q : VK) (E : XK) : Except Bad (List (Nat × Nat)) → Prop
  | .error b => ∀ H', Ex H H' → E (EBad K b) none H'
  | .ok l => ∀ v H', Ex H H' → LO RPr H' v l → Q v H'
def spLimits (K : PySem.W.Frag) : Sp := fun vs H Q E => ∃ (n : Nat) (lo hi : Option Tr) (lv hv : V), vs = [.int n, lv, hv] ∧ 1 ≤ n ∧ n ≤ 100 ∧ OpT K H lv lo ∧ OpT K H hv hi ∧ LimQ K H Q E (limF n lo hi)
theorem ok_limits (T : Txt K mg) (D_factors_in : DefOk P w K mg base CX0 "factors_in" p_factors_in 5 (spFactorsIn K)) (D_reaches : DefOk P w K mg base CX0 "reaches" p_reaches 36 (spReaches K)) :
    DefOk P w K mg base (L2.CX P w) "limits" p_limits 37 (spLimits K) := by
  obtain ⟨fd, F⟩ := T.F_limits
  refine ⟨⟨_, fd, T.g_limits, F.kp, F.bindsN (ps := p_limits) (fun _ _ _ _ _ _ us hl => match us, hl with | [_, _, _], _ => rfl), F.ok sc_limits (fun vs H Q E h => ?_) fun cdv A outer s H vs Q E hr h => ?_⟩⟩
  · obtain ⟨n, lo, hi, lv, hv, rfl, _⟩ := h
    rfl
  obtain ⟨n, lo, hi, lv, hv, rfl, hn1, hn, hlo, hhi, q⟩ := h
  refine ⟨_, (pss_cons (ps_for (passes_of rfl) rfl (pi_tup (pe_tup (pa_cons (pv 1) (pa_cons (pv 2) pa_nil)))) (pg_name (i := 3) sc_limits.nd rfl (Or.inl rfl)) (pss_one (ps_if (PW.pt (pw_and (pt_cmpR op_notN (pv 3) pe_non (nomark _)) (pw_and1 (pt_cmpR op_ne (pe_d D_factors_in (hr.mono (by omega)) pass0 (pa_cons (pv 3) pa_nil)) (pv 0) (nomark _))))) (pss_one (ps_raise rfl (takes_of rfl rfl rfl rfl) (mk_ve T.x_Unlike T.g_Unlike))) pss_nil))) (pss_cons (ps_set (i := 4) sc_limits.nd rfl (Or.inl rfl) (pe_ifExp (pt_cmpR op_notN (pv 1) pe_non (nomark _)) (pe_d D_reaches (hr.mono (by omega)) pass0 (pa_cons (pv 1) pa_nil)) (pe_tupRg rfl rfl T.f_tuple (prg_2 rfl T.f_range pe_int (pe_op op_add (pv 0) pe_int))))) (pss_cons (ps_set (i := 5) sc_limits.nd rfl (Or.inl rfl) (pe_ifExp (pt_cmpR op_notN (pv 2) pe_non (nomark _)) (pe_d D_reaches (hr.mono (by omega)) pass0 (pa_cons (pv 2) pa_nil)) (pe_op op_repA (pe_tup (pa_cons (pv 0) pa_nil)) (pe_op op_sub (pv 0) pe_int)))) (pss_cons (ps_setLc (i := 6) (own := [("mine", 7), ("its", 8)]) (g := (gTup K 2 (gCons (gName 7) (gCons (gName 8) gNil)))) rfl sc_limits.nd rfl rfl (sw_true rfl rfl rfl (by decide +kernel)) (RZ.pi_zipA rfl T.f_zip (pa_cons (pv 4) (pa_cons (pv 5) pa_nil))) (blkOk_by (own := [("mine", 7), ("its", 8)]) (N := n_limits) (sc := (defScope s_limits)) (by decide +kernel)) (fun _ _ _ _ _ => (by exact (pg_tup rfl (pgs_cons (pg_name (i := 7) sc_limits.nd rfl (Or.inl rfl)) (pgs_cons (pg_name (i := 8) sc_limits.nd rfl (Or.inl rfl)) pgs_nil))))) (fun _ _ _ _ _ => pts_nil) (fun _ _ _ _ _ => (pe_tup (pa_cons (pv 7) (pa_cons (pv 8) pa_nil))))) (pss_cons (ps_if (pt_val (pe_callB (r := rAny K) (cr_any rfl) rfl T.f_any b_any (pa_cons (pe_lc (own := [("mine", 7), ("its", 8)]) (g := (gTup K 2 (gCons (gName 7) (gCons (gName 8) gNil)))) rfl sc_limits.nd (pi_list (pv 6)) (blkOk_by (own := [("mine", 7), ("its", 8)]) (N := n_limits) (sc := (defScope s_limits)) (by decide +kernel)) (fun _ _ _ _ _ => (by exact (pg_tup rfl (pgs_cons (pg_name (i := 7) sc_limits.nd rfl (Or.inl rfl)) (pgs_cons (pg_name (i := 8) sc_limits.nd rfl (Or.inl rfl)) pgs_nil))))) (fun _ _ _ _ _ => pts_nil) (fun _ _ _ _ _ => (pe_cmpR op_gt (pv 7) (pv 8) (nomark _)))) pa_nil))) (pss_one (ps_raise rfl (takes_of rfl rfl rfl rfl) (mk_ve T.x_NotBehind T.g_NotBehind))) pss_nil) (pss_one (ps_ret (pv 6)))))))), ?_⟩
  have nofail : ∀ H', Ex H H' → ∀ i, (badO n lo = false ∨ i = 0) → (badO n hi = false ∨ i ≤ 1) → True := fun _ _ _ _ _ => trivial
  refine ⟨_, rfl, _, rfl, (by show 2 ≤ sizeLine; decide), fun p hp => ⟨p, rfl, ⟨_, SqT.of upd_same⟩, ?_⟩⟩
  refine for_tup (K := K) (xs := [lv, hv]) (fun i σ H' => Ex H H' ∧ H' p = some (.tup [lv, hv]) ∧ (1 ≤ i → badO n lo = false) ∧ (2 ≤ i → badO n hi = false) ∧ ∃ x, σ = [some (.int n), some lv, some hv, x, none, none, none, none, none])
    ⟨Evl.Ex.new hp, upd_same, fun h => by omega, fun h => by omega, none, rfl⟩ (fun i σ H' _ h => SqT.of h.2.1) ?_ ?_
  · rintro i x σ H1 hi1 ⟨e1, hp1, b1, b2, x0, rfl⟩
    obtain ⟨o, ho, hb⟩ : ∃ o, OpT K H1 x o ∧ (badO n o = true → (badO n lo || badO n hi) = true) ∧ (i = 0 → o = lo) ∧ (i = 1 → o = hi) ∧ i < 2 := by
      match i, hi1 with
      | 0, hi1 =>
        cases hi1
        exact ⟨lo, hlo.ex e1, fun h => by rw [h]; rfl, fun _ => rfl, fun h => by omega, by omega⟩
      | 1, hi1 =>
        cases hi1
        exact ⟨hi, hhi.ex e1, fun h => by rw [h, Bool.or_true], fun h => by omega, fun _ => rfl, by omega⟩
    obtain ⟨hbad, o0, o1, hi2⟩ := hb
    have next : ∀ H2, Ex H1 H2 → badO n o = false → Ex H H2 ∧ H2 p = some (.tup [lv, hv]) ∧ (1 ≤ i + 1 → badO n lo = false) ∧ (2 ≤ i + 1 → badO n hi = false) ∧ ∃ x', [some (V.int n), some lv, some hv, some x, none, none, none, none, none] = [some (V.int n), some lv, some hv, x', none, none, none, none, none] := fun H2 e2 hb => by
      refine ⟨e1.trans e2, e2 _ _ hp1, fun _ => ?_, fun h => ?_, _, rfl⟩
      · by_cases c : i = 0
        · rw [← o0 c]; exact hb
        · exact b1 (by omega)
      · rw [← o1 (by omega)]; exact hb
    refine ⟨_, rfl, rfl, _, rfl, ?_⟩
    rw [ho.val]
    cases o with
    | none => exact ifF rfl (iteF (next _ (exr _) rfl))
    | some t =>
      refine ifT rfl ?_
      refine ⟨_, rfl, x, t, rfl, ho.1, fun H2 e2 => ?_⟩
      refine ⟨_, rfl, rfl, _, rfl, ite2 (fun c => ?_) (fun c => ?_)⟩
      · have c1 : ¬ (V.int (t.lst : Int) = V.int (n : Int)) := of_decide_eq_false (by simpa using c)
        have hb : badO n (some t) = true := by
          show (t.lst != n) = true
          rw [bne_iff_ne]
          intro e
          exact c1 (by rw [e])
        have el : limF n lo hi = .error .unlike := if_pos (hbad hb)
        rw [el] at q
        exact q _ (e1.trans e2)
      · have c1 : V.int (t.lst : Int) = V.int (n : Int) := of_decide_eq_true (by simpa using c)
        injection c1 with c2
        exact next _ e2 (by show (t.lst != n) = false; rw [bne_eq_false_iff_eq]; omega)
  rintro σ H1 ⟨e1, hp1, b1, b2, x0, rfl⟩
  have b1 := b1 (by show 1 ≤ 2; decide)
  have b2 := b2 (by show 2 ≤ 2; decide)
  have bu : ¬ (badO n lo || badO n hi) = true := by rw [b1, b2]; decide
  refine ⟨_, rfl, rfl, _, rfl, ?_⟩
  rw [hlo.val]
  apply cutQ (fun v H2 => Ex H1 H2 ∧ TO RNat H2 v (lowR n lo))
  · intro key
    rcases Option.eq_none_or_eq_some lo with hl | ⟨t, hl⟩
    rotate_left
    · rw [hl] at hlo
      have hlo2 : TrM K H1 lv t := hlo.1.ex e1
      rw [hl]
      refine ifT rfl ⟨_, rfl, lv, t, rfl, hlo2, hlo.2.1, hlo.2.2, fun r H2 e2 l2 => ?_⟩
      exact key r H2 ⟨e2, by rw [hl]; exact l2⟩
    · rw [hl]
      refine ifF (show (none : Option Tr).isSome = false from rfl) ⟨_, rfl, _, _, rfl, rfl, _, _, rfl, rfl, RgOk.of_le (by omega) (by omega) (by omega) (by omega), fun r hr => ?_⟩
      refine key _ _ ⟨Evl.Ex.new hr, r, _, rfl, upd_same, ?_⟩
      rw [hl]
      have er : rgV 2 ((n : Int) + 1) = (lowR n none).map fun j : Nat => V.int j := by
        unfold rgV lowR
        rw [show ((n : Int) + 1 - 2).toNat = n - 1 by omega, List.map_map]
        refine List.map_congr_left fun i _ => ?_
        show V.int (2 + (i : Int)) = V.int ((i + 2 : Nat) : Int)
        congr 1
        omega
      show Paired _ (rgV 2 ((n : Int) + 1)) _
      rw [er]
      exact paired_nats _
  rintro v2 H2 ⟨e2, l2⟩
  have hhi2 := hhi.ex (e1.trans e2)
  refine ⟨_, rfl, rfl, _, rfl, ?_⟩
  rw [hhi.val]
  apply cutQ (fun v H3 => Ex H2 H3 ∧ TO RNat H3 v (highR n hi))
  · intro key
    rcases Option.eq_none_or_eq_some hi with hl | ⟨t, hl⟩
    rotate_left
    · rw [hl] at hhi2
      rw [hl]
      refine ifT rfl ⟨_, rfl, hv, t, rfl, hhi2.1, hhi2.2.1, hhi2.2.2, fun r H3 e3 l3 => ?_⟩
      exact key r H3 ⟨e3, by rw [hl]; exact l3⟩
    · rw [hl]
      refine ifF (show (none : Option Tr).isSome = false from rfl) ⟨_, rfl, (by show 1 ≤ sizeLine; decide), fun r hr => ⟨_, rfl, _, _, rfl, rfl, r, _, [.int n], rfl, rfl, SqT.of upd_same, (fun z => nomatch z), by omega, by omega, (by show 1 ≤ 1000; decide), fun k1 => ?_, fun k1 r2 hr2 => ?_⟩⟩
      · refine key _ _ ⟨Evl.Ex.new hr, r, _, rfl, upd_same, ?_⟩
        rw [hl, show highR n none = List.replicate (n - 1) n from rfl, show n - 1 = 1 by omega]
        exact .cons rfl .nil
      · have e3 := Evl.Ex.new (o := .tup [V.int (n : Int)]) hr
        refine key _ _ ⟨e3.trans (Evl.Ex.new hr2), r2, _, rfl, upd_same, ?_⟩
        rw [hl]
        have er : (List.replicate ((n : Int) - 1).toNat [V.int (n : Int)]).flatten = (highR n none).map fun j : Nat => V.int j := by
          show _ = (List.replicate (n - 1) n).map _
          rw [show ((n : Int) - 1).toNat = n - 1 by omega, List.map_replicate]
          generalize n - 1 = m
          induction m with
          | zero => rfl
          | succ m ih => rw [List.replicate_succ, List.flatten_cons, ih]; rfl
        show Paired _ (List.replicate ((n : Int) - 1).toNat [V.int (n : Int)]).flatten _
        rw [er]
        exact paired_nats _
  rintro v3 H3 ⟨e3, l3⟩
  obtain ⟨p2, us2, rfl, h2, pr2⟩ := l2
  obtain ⟨p3, us3, rfl, h3, pr3⟩ := l3
  have h2' := e3 _ _ h2
  have pr2' := Paired.mapP pr2 fun _ _ z => mono_nat _ _ _ _ e3 z
  have hlr : (lowR n lo).length ≤ 1000 := by
    cases lo with
    | none => show ((List.range (n - 1)).map _).length ≤ 1000; rw [List.length_map, List.length_range]; omega
    | some t => show (t.trip.map _).length ≤ 1000; rw [List.length_map]; exact hlo.2.2
  have hlz : (rowsF n lo hi).length < 100000 := by
    unfold rowsF
    rw [List.length_zip]
    omega
  refine ⟨_, rfl, _, rfl, p2, p3, _, _, rfl, .inr ⟨SqT.of h2', SqT.of h3, fun D hD => ?_⟩⟩
  refine lc_map (γ := Nat × Nat) (fun z => z) (src_zipT mono_nat mono_nat (SqT.of h2') pr2' (SqT.of h3) pr3) monoT_pr hlz (fun i z x H4 hz e4 r4 Ky ky => ?_) gm_tup2 hD fun ys H4 e4 hy py => ?_
  · obtain ⟨q4, x4, y4, rfl, hq4, rfl, rfl⟩ := r4
    refine gtup2 rfl hq4 ⟨rfl, ?_⟩
    refine ⟨_, rfl, _, rfl, (by show 2 ≤ sizeLine; decide), fun p5 hp5 => ky _ _ (Evl.Ex.new hp5) ⟨p5, rfl, upd_same⟩⟩
  rw [List.map_id'] at py
  have e04 := ((e1.trans e2).trans e3).trans e4
  -- any
  refine ⟨_, rfl, D, rfl, ⟨_, SqL.of hy⟩, fun D2 hD2 => ?_⟩
  refine lc_map (γ := Bool) (fun z : Nat × Nat => decide (z.2 < z.1)) (src_list monoT_pr.ex (SqL.of hy) py) monoT_bl hlz (fun i z x H5 hz e5 r5 Ky ky => ?_) gm_tup2 hD2 fun ws H5 e5 hw pw => ?_
  · obtain ⟨q5, rfl, hq5⟩ := r5
    refine gtup2 rfl hq5 ⟨rfl, ?_⟩
    refine ⟨_, rfl, _, rfl, _, _, rfl, rfl, ky _ _ (exr _) ?_⟩
    show V.bl _ = V.bl _
    congr 1
    rw [decide_eq_decide]
    omega
  have ew := paired_bl pw
  refine ⟨D2, _, rfl, by rw [← ew]; exact SqL.of hw, ?_⟩
  have ea : ((rowsF n lo hi).map fun z => decide (z.2 < z.1)).any id = (rowsF n lo hi).any fun z => decide (z.2 < z.1) := by
    rw [List.any_map]
    rfl
  refine ⟨_, rfl, ite2 (fun c => ?_) (fun c => ?_)⟩
  · have el : limF n lo hi = .error .behind := by
      unfold limF
      rw [if_neg bu]
      exact if_pos (ea ▸ c)
    rw [el] at q
    exact q _ (e04.trans e5)
  · have el : limF n lo hi = .ok (rowsF n lo hi) := by
      unfold limF
      rw [if_neg bu]
      exact if_neg (ea ▸ c)
    rw [el] at q
    exact ⟨_, rfl, q _ _ (e04.trans e5) ⟨D, _, rfl, e5 _ _ hy, Paired.mapP py fun _ _ z => monoT_pr.ex _ _ _ _ e5 z⟩⟩
end RG

set_option Elab.async false
set_option linter.all false
set_option maxRecDepth 100000
set_option maxHeartbeats 400000
namespace RG
open PySem PySem.Spec PyProof.Rows L2
variable {P : Program} {w : World} {K : PySem.W.Frag} {mg : Str → Option Value} {base : Heap}
/-! ### pair_prices -/
def key3 (a j b : Nat) : List Key := [.inl (a : Int), .inl (j : Int), .inl (b : Int)]
theorem key3_inj {a j b a' j' b' : Nat} (h : key3 a j b = key3 a' j' b') : a = a' ∧ j = j' ∧ b = b' := by
  unfold key3 at h
  simp at h
  omega
/-- None, or a tuple of so many small ints -/
def OpI (K : PySem.W.Frag) (H : Hp) (len : Nat) (v : V) : Option (List Int) → Prop
  | none => v = .non
  | some xs => ∃ p, v = .ref p ∧ SqT K H p (xs.map V.int) ∧ xs.length = len ∧ ∀ x ∈ xs, -1000000 < x ∧ x < 1000000
theorem OpI.ex {H H' : Hp} {len : Nat} {v : V} {o : Option (List Int)} (e : Ex H H') (h : OpI K H len v o) : OpI K H' len v o := by
  cases o with
  | none => exact h
  | some xs =>
    obtain ⟨p, h1, h2, h3⟩ := h
    exact ⟨p, h1, Evl.ex_t e h2, h3⟩
theorem OpI.val {H : Hp} {len : Nat} {v : V} {o : Option (List Int)} (h : OpI K H len v o) : (!decide (v = .non)) = o.isSome := by
  cases o with
  | none =>
    cases (show v = .non from h)
    rfl
  | some t =>
    obtain ⟨p, rfl, _⟩ := h
    rfl
def sizeC (o : Option (List Int)) (a j b : Nat) : Int := match o with
  | none => 0
  | some s => s.getD (a - 1) 0 * s.getD j 0 * s.getD b 0
def weightC (o : Option (List Int)) (a b : Nat) : Int := match o with
  | none => 0
  | some s => ((s.drop (a - 1)).take (b - (a - 1))).sum
def ppF (s o : Option (List Int)) (ext : Nat → Nat → Int) (a j b : Nat) : Int := ext a b + sizeC s a j b + weightC o a b
/-- the dict of what is extra -/
def ExtAt (H : Hp) (v : V) (ext : Nat → Nat → Int) : Prop := ∃ e kvs, v = .ref e ∧ H e = some (.dT kvs) ∧ ∀ a b : Nat, (valV kvs (key2 a b)).getD (.int 0) = .int (ext a b)
theorem ExtAt.ex {H H' : Hp} {v : V} {ext : Nat → Nat → Int} (e : Ex H H') (h : ExtAt H v ext) : ExtAt H' v ext := by
  obtain ⟨p, kvs, h1, h2, h3⟩ := h
  exact ⟨p, kvs, h1, e _ _ h2, h3⟩
def PairAt (H : Hp) (v : V) (n : Nat) (pp : Nat → Nat → Nat → Int) : Prop := ∃ d kvs, v = .ref d ∧ H d = some (.dT kvs) ∧ ∀ a j b, 1 ≤ a → a ≤ j → j < b → b ≤ n → valV kvs (key3 a j b) = some (.int (pp a j b))
theorem PairAt.ex {H H' : Hp} {v : V} {n : Nat} {pp : Nat → Nat → Nat → Int} (e : Ex H H') (h : PairAt H v n pp) : PairAt H' v n pp := by
  obtain ⟨p, kvs, h1, h2, h3⟩ := h
  exact ⟨p, kvs, h1, e _ _ h2, h3⟩
def spPairs (K : PySem.W.Frag) : Sp := fun vs H Q _ => ∃ (n : Nat) (sv wv ev : V) (so wo : Option (List Int)) (ext : Nat → Nat → Int), vs = [.int n, sv, wv, ev] ∧ n ≤ 40 ∧ OpI K H (n + 1) sv so ∧ OpI K H n wv wo ∧ ExtAt H ev ext ∧
  ∀ v H', Ex H H' → PairAt H' v n (ppF so wo ext) → Q v H'
theorem atD {xs : List Int} {i : Int} {k : Nat} (e : i = k) (h : k < xs.length) : atI (xs.map V.int) i = some (.int (xs.getD k 0)) := by
  refine at_of e ?_
  rw [List.getElem?_map, List.getD_eq_getElem?_getD, List.getElem?_eq_getElem h]
  rfl
theorem small_getD {xs : List Int} (h : ∀ x ∈ xs, -1000000 < x ∧ x < 1000000) (k : Nat) : -1000000 < xs.getD k 0 ∧ xs.getD k 0 < 1000000 := by
  rw [List.getD_eq_getElem?_getD]
  cases e : xs[k]? with
  | none => exact ⟨by decide, by decide⟩
  | some y => exact h y (List.mem_of_getElem? e)
theorem ok_pair_prices (T : Txt K mg) (D_stretches : DefOk P w K mg base CX0 "stretches" p_stretches 1 spStretches) : DefOk P w K mg base CX0 "pair_prices" p_pair_prices 2 (spPairs K) := by
  obtain ⟨fd, F⟩ := T.F_pair_prices
  refine ⟨⟨_, fd, T.g_pair_prices, F.kp, F.bindsN (ps := p_pair_prices) (fun _ _ _ _ _ _ us hl => match us, hl with | [_, _, _, _], _ => rfl), F.ok sc_pair_prices (fun vs H Q E h => ?_) fun cdv A outer s H vs Q E hr h => ?_⟩⟩
  · obtain ⟨n, sv, wv, ev, so, wo, ext, rfl, _⟩ := h
    rfl
  obtain ⟨n, sv, wv, ev, so, wo, ext, rfl, hn, hs, hw, hx, q⟩ := h
  refine ⟨_, PSs.nox (pss_cons (ps_set (i := 4) sc_pair_prices.nd rfl (Or.inl rfl) pe_dnewT) (pss_cons (ps_for PassesOwn.never rfl (pi_list (pe_d D_stretches (hr.mono (by omega)) pass0 (pa_cons (pv 0) pa_nil))) (pg_tup rfl (pgs_cons (pg_name (i := 5) sc_pair_prices.nd rfl (Or.inl rfl)) (pgs_cons (pg_name (i := 6) sc_pair_prices.nd rfl (Or.inl rfl)) pgs_nil))) (pss_one (ps_for PassesOwn.never rfl (pi_range2 rfl T.f_range (pa_cons (pv 5) (pa_cons (pv 6) pa_nil))) (pg_name (i := 7) sc_pair_prices.nd rfl (Or.inl rfl)) (pss_cons (ps_set (i := 8) sc_pair_prices.nd rfl (Or.inl rfl) (pe_dget2 (hu_of hr) (pv 3) (pe_tup (pa_cons (pv 5) (pa_cons (pv 6) pa_nil))) pe_int ⟨rfl, rfl, rfl, rfl⟩)) (pss_cons (ps_if (pt_cmpR op_notN (pv 1) pe_non (nomark _)) (pss_one (ps_aug (i := 8) sc_pair_prices.nd rfl (Or.inl rfl) (pe_op op_mul (pe_op op_mul (pe_ix (r := rIxT K) ix_tup (pv 1) (pe_op op_sub (pv 5) pe_int) (fun _ _ => rfl)) (pe_ix (r := rIxT K) ix_tup (pv 1) (pv 7) (fun _ _ => rfl))) (pe_ix (r := rIxT K) ix_tup (pv 1) (pv 6) (fun _ _ => rfl))) ip_add)) pss_nil) (pss_cons (ps_if (pt_cmpR op_notN (pv 2) pe_non (nomark _)) (pss_one (ps_aug (i := 8) sc_pair_prices.nd rfl (Or.inl rfl) (pe_callB (r := rSumT K) (cr_sumT rfl) rfl T.f_sum b_sum (pa_cons (pe_slice (r := rSlA K) sl_tupA (pv 2) (po_some (pe_op op_sub (pv 5) pe_int)) (po_some (pv 6))) pa_nil)) ip_add)) pss_nil) (pss_one (ps_dput (hu_of hr) (pv 4) (pe_tup (pa_cons (pv 5) (pa_cons (pv 7) (pa_cons (pv 6) pa_nil)))) (pv 8) rfl)))))))) (pss_one (ps_ret (pv 4))))), ?_⟩
  refine fun d hd => ⟨_, rfl, n, rfl, by omega, fun r1 H1 e1 l1 => ?_⟩
  obtain ⟨p, vs, rfl, hp, pr⟩ := l1
  have hd1 := e1 _ _ upd_same
  have e0 : Ex H H1 := (Evl.Ex.new hd).trans e1
  have hll := sl_len n
  have hnn : n * (n - 1) ≤ 40 * 39 := Nat.mul_le_mul hn (by omega)
  refine ⟨p, rfl, ⟨_, SqL.of hp⟩, for_list (xs := vs) (fun i σ H' => Ex H H' ∧ H' p = some (.lst vs) ∧ Paired (RPr H') vs (sl n) ∧ (∃ x y z u, σ = [some (.int n), some sv, some wv, some ev, some (.ref d), x, y, z, u]) ∧ ∃ kvs, H' d = some (.dT kvs) ∧ kvs.length ≤ i * 40 ∧
      ∀ a j b, (a, b) ∈ (sl n).take i → a ≤ j → j < b → valV kvs (key3 a j b) = some (.int (ppF so wo ext a j b)))
    ⟨e0, hp, pr, ⟨none, none, none, none, rfl⟩, [], hd1, Nat.zero_le _, fun a j b h => nomatch h⟩ (fun i σ H' _ h => SqL.of h.2.1) ?_ ?_⟩
  rotate_left
  · rintro σ H4 ⟨e4, _, pr4, ⟨x1, y1, z1, u1, rfl⟩, kvs, hk4, _, hall4⟩
    refine ⟨_, rfl, q _ _ e4 ⟨d, kvs, rfl, hk4, fun a j b ha hj hb hbn => hall4 a j b ?_ hj hb⟩⟩
    rw [pr4.length, List.take_length]
    exact mem_sl.mpr ⟨ha, by omega, hbn⟩
  rintro i x σ H2 hi ⟨e2, hp2, pr2, ⟨x1, y1, z1, u1, rfl⟩, kvs, hk, hkl, hall⟩
  obtain ⟨⟨a, b⟩, hab, q1, rfl, hq1⟩ := paired_get pr2 hi
  obtain ⟨ha, hb, hbn⟩ := mem_sl.mp (List.mem_of_getElem? hab)
  have hil := (List.getElem?_eq_some_iff.mp hab).1
  refine gtup2 rfl hq1 ?_
  refine ⟨_, rfl, _, rfl, (a : Int), (b : Int), rfl, ⟨by omega, by omega, by omega, by omega⟩, ?_⟩
  have et : ((b : Int) - (a : Int)).toNat = b - a := by omega
  rw [et]
  refine for_range (fun m σ H' => Ex H H' ∧ H' p = some (.lst vs) ∧ Paired (RPr H') vs (sl n) ∧ (∃ z u, σ = [some (.int n), some sv, some wv, some ev, some (.ref d), some (.int a), some (.int b), z, u]) ∧ ∃ kvs, H' d = some (.dT kvs) ∧ kvs.length ≤ i * 40 + m ∧
      (∀ a j b, (a, b) ∈ (sl n).take i → a ≤ j → j < b → valV kvs (key3 a j b) = some (.int (ppF so wo ext a j b))) ∧ ∀ j, a ≤ j → j < a + m → valV kvs (key3 a j b) = some (.int (ppF so wo ext a j b)))
    ⟨e2, hp2, pr2, ⟨_, _, rfl⟩, kvs, hk, hkl, hall, fun j h1 h2 => by omega⟩ ?_ ?_
  rotate_left
  · rintro σ H4 ⟨e4, hp4, pr4, ⟨z1, u1, rfl⟩, kvs, hk4, hkl4, hall4, hin4⟩
    refine ⟨e4, hp4, pr4, ⟨_, _, _, _, rfl⟩, kvs, hk4, by omega, fun a' j b' hm hj hb' => ?_⟩
    rw [take_more hab, List.mem_append] at hm
    rcases hm with hm | hm
    · exact hall4 a' j b' hm hj hb'
    · have z : (a', b') = (a, b) := by simpa using hm
      injection z with z1 z2
      subst z1 z2
      exact hin4 j hj (by omega)
  rintro m σ H4 hm ⟨e4, hp4, pr4, ⟨z4, u4, rfl⟩, kvs, hk4, hkl4, hall4, hin4⟩
  have ej : (a : Int) + (m : Int) = ((a + m : Nat) : Int) := by omega
  rw [ej]
  -- price = extra.get((first, last), 0)
  obtain ⟨ex, ekv, rfl, hex, hev⟩ := hx.ex e4
  refine ⟨_, rfl, ex, rfl, .inr ⟨_, .inl hex⟩, _, rfl, _, rfl, (by show 2 ≤ sizeLine; decide), fun p5 hp5 => ?_⟩
  have e5 := Evl.Ex.new (o := .tup [V.int (a : Int), V.int (b : Int)]) hp5
  refine ⟨_, DGet.t (k := key2 a b) (e5 _ _ hex) upd_same, ?_⟩
  rw [hev a b]
  -- if sizes is not None: price += ..
  have hs5 := (hs.ex e4).ex e5
  have hw5 := (hw.ex e4).ex e5
  have e05 := e4.trans e5
  dsimp only [gName]
  refine seqCut (fun σ H6 => Ex (upd H4 p5 (.tup [V.int (a : Int), V.int (b : Int)])) H6 ∧ ∃ z, σ = [some (.int n), some sv, some wv, some (.ref ex), some (.ref d), some (.int a), some (.int b), some (.int (a + m : Nat)), some (.int z)] ∧ z = ext a b + sizeC so a (a + m) b) (fun D' key => ?_) ?_
  · refine ⟨_, rfl, rfl, _, rfl, ?_⟩
    rw [hs.val]
    rcases Option.eq_none_or_eq_some so with hl | ⟨xs, hl⟩
    · rw [hl]
      refine ifF rfl ?_
      exact key _ _ ⟨exr _, _, rfl, by rw [hl]; exact (Int.add_zero _).symm⟩
    · rw [hl] at hs5
      obtain ⟨ps, rfl, hsq, hsl, hsb⟩ := hs5
      rw [hl]
      refine ifT rfl ?_
      have b1 := small_getD hsb (a - 1)
      have b2 := small_getD hsb (a + m)
      refine ⟨_, rfl, _, rfl, _, rfl, _, _, rfl, rfl, ps, _, _, _, rfl, rfl, hsq, atD (k := a - 1) (by omega) (by omega), ?_⟩
      refine ⟨_, rfl, _, rfl, ps, _, _, _, rfl, rfl, hsq, atD (k := a + m) rfl (by omega), ?_⟩
      refine ⟨_, _, rfl, rfl, .inl ⟨by omega, by omega⟩, ?_⟩
      refine ⟨_, rfl, _, rfl, ps, _, _, _, rfl, rfl, hsq, atD (k := b) rfl (by omega), ?_⟩
      refine ⟨_, _, rfl, rfl, .inr ?_, ?_⟩
      · have b3 := small_getD hsb b
        exact ⟨by omega, by omega⟩
      refine ⟨_, _, rfl, rfl, ?_⟩
      exact key _ _ ⟨exr _, _, rfl, by rw [hl]; rfl⟩
  rintro σ H6 ⟨e6, z6, rfl, ez⟩
  have hw6 := hw5.ex e6
  refine seqCut (fun σ H7 => Ex H6 H7 ∧ ∃ z, σ = [some (.int n), some sv, some wv, some (.ref ex), some (.ref d), some (.int a), some (.int b), some (.int (a + m : Nat)), some (.int z)] ∧ z = ppF so wo ext a (a + m) b) (fun D' key => ?_) ?_
  · refine ⟨_, rfl, rfl, _, rfl, ?_⟩
    rw [hw.val]
    rcases Option.eq_none_or_eq_some wo with hl | ⟨xs, hl⟩
    · rw [hl]
      refine ifF rfl ?_
      exact key _ _ ⟨exr _, _, rfl, by rw [hl, ez]; exact (Int.add_zero _).symm⟩
    · rw [hl] at hw6
      obtain ⟨pw, rfl, hwq, hwl, hwb⟩ := hw6
      rw [hl]
      refine ifT rfl ?_
      refine ⟨_, rfl, _, rfl, _, rfl, _, _, rfl, rfl, _, rfl, _, rfl, _, rfl, pw, _, rfl, hwq, ?_⟩
      have s1 : HT.sIx (xs.map V.int).length 0 (some ((a : Int) - 1)) = a - 1 := by
        rw [show (a : Int) - 1 = ((a - 1 : Nat) : Int) by omega, HT.sIx_nat, List.length_map]
        omega
      have s2 : HT.sIx (xs.map V.int).length (xs.map V.int).length (some (b : Int)) = b := by
        rw [HT.sIx_nat, List.length_map]
        omega
      have ew : z6 + ((xs.drop (a - 1)).take (b - (a - 1))).sum = ppF so wo ext a (a + m) b := by rw [ez, hl]; rfl
      refine ⟨fun whole => ?_, fun nw p8 hp8 => ?_⟩
      · rw [s1, s2, List.length_map] at whole
        have et2 : (xs.drop (a - 1)).take (b - (a - 1)) = xs := by
          rw [whole.1, whole.2, List.drop_zero, Nat.sub_zero, List.take_length]
        refine ⟨pw, xs, rfl, hwq, _, _, rfl, rfl, key _ _ ⟨exr _, _, rfl, ?_⟩⟩
        rw [← ew, et2]
      · refine ⟨p8, (xs.drop (a - 1)).take (b - (a - 1)), rfl, SqT.of (upd_same.trans (congrArg (fun l => some (HO.tup l)) ?_)), _, _, rfl, rfl, key _ _ ⟨Evl.Ex.new hp8, _, rfl, ew⟩⟩
        show cutV (xs.map V.int) (some ((a : Int) - 1)) (some (b : Int)) = _
        unfold cutV
        rw [s1, s2, List.map_take, List.map_drop]
  rintro σ H7 ⟨e7, z7, rfl, ez7⟩
  refine ⟨_, rfl, _, rfl, _, rfl, _, rfl, _, rfl, (by show 3 ≤ sizeLine; decide), fun p9 hp9 => ?_⟩
  have e9 := Evl.Ex.new (o := .tup [V.int (a : Int), V.int ((a + m : Nat) : Int), V.int (b : Int)]) hp9
  have e49 := ((e5.trans e6).trans e7).trans e9
  have hd9 := e49 _ _ hk4
  have hsz : i * 40 + m < 100000 := by
    have h1 : i * 40 ≤ 1560 * 40 := Nat.mul_le_mul (by omega) (Nat.le_refl _)
    omega
  refine ⟨d, _, rfl, DPut.t (k := key3 a (a + m) b) hd9 upd_same (sz_lt' (by omega)), ?_⟩
  rw [ez7]
  have keep : ∀ x o, x ≠ d → H4 x = some o → upd _ d (.dT (putK kvs (key3 a (a + m) b) (.int (ppF so wo ext a (a + m) b)))) x = some o := fun x o hx h => by
    rw [upd_ne hx]
    exact e49 _ _ h
  refine ⟨Evl.Ex.mut (e4.trans e49) hd, keep _ _ (fun z => by rw [z, hk4] at hp4; cases hp4) hp4, Paired.mapP pr4 fun v z ⟨q, hv, hq⟩ => ⟨q, hv, keep _ _ (fun z => by rw [z, hk4] at hq; cases hq) hq⟩, ⟨_, _, rfl⟩, _, upd_same, ?_, fun a' j b' hm' hj hb' => ?_, fun j h1 h2 => ?_⟩
  · have := length_putK kvs (key3 a (a + m) b) (.int (ppF so wo ext a (a + m) b))
    omega
  · rw [valV_put]
    by_cases c : key3 a' j b' = key3 a (a + m) b
    · obtain ⟨rfl, rfl, rfl⟩ := key3_inj c
      rw [if_pos rfl]
    · rw [if_neg c]
      exact hall4 a' j b' hm' hj hb'
  · rw [valV_put]
    by_cases c : key3 a j b = key3 a (a + m) b
    · obtain ⟨_, rfl, _⟩ := key3_inj c
      rw [if_pos rfl]
    · rw [if_neg c]
      refine hin4 j h1 ?_
      have : j ≠ a + m := fun e => c (by rw [e])
      omega
end RG

set_option Elab.async false
set_option linter.all false
set_option maxRecDepth 100000
set_option maxHeartbeats 400000
namespace RG
open PySem PySem.Spec PyProof.Rows L2
variable {P : Program} {w : World} {K : PySem.W.Frag} {mg : Str → Option Value} {base : Heap}
/-! ### tidy -/
def spTidy (K : PySem.W.Frag) (m : Nat) : Sp := fun vs H Q _ => ∃ v, vs = [v] ∧ ((1 ≤ m ∧ v = .non ∧ ∀ H', Ex H H' → Q .non H') ∨ (1 ≤ m ∧ ∃ i, v = .int i ∧ ∀ H', Ex H H' → Q (.int i) H') ∨ (2 ≤ m ∧ ∃ (p : Addr) (xs : List Int), v = .ref p ∧ SqT K H p (xs.map V.int) ∧ xs.length < 1000 ∧ ∀ r H', Ex H H' → Q r H'))
theorem tidy_none (T : Txt K mg) {k : Nat} : DefOk P w K mg base CX0 "tidy" p_tidy k (spTidy K 0) := by
  have no : ∀ vs H Q E, ¬ spTidy K 0 vs H Q E := fun vs H Q E ⟨v, _, h⟩ => by
    rcases h with h | h | h
    · exact absurd h.1 (by decide)
    · exact absurd h.1 (by decide)
    · exact absurd h.1 (by decide)
  obtain ⟨fd, F⟩ := T.F_tidy
  exact ⟨⟨_, fd, T.g_tidy, F.kp, F.bindsN (ps := p_tidy) (fun _ _ _ _ _ _ us hl => match us, hl with | [_], _ => rfl), fn_none no⟩⟩
theorem tidy_more (T : Txt K mg) {m : Nat} (D_tidy : DefOk P w K mg base CX0 "tidy" p_tidy m (spTidy K m)) : DefOk P w K mg base CX0 "tidy" p_tidy (m + 1) (spTidy K (m + 1)) := by
  obtain ⟨fd, F⟩ := T.F_tidy
  refine ⟨⟨_, fd, T.g_tidy, F.kp, F.bindsN (ps := p_tidy) (fun _ _ _ _ _ _ us hl => match us, hl with | [_], _ => rfl), F.ok sc_tidy (fun vs H Q E h => ?_) fun cdv A outer s H vs Q E hr h => ?_⟩⟩
  · obtain ⟨v, rfl, _⟩ := h
    rfl
  obtain ⟨v, rfl, h⟩ := h
  refine ⟨_, PSs.nox (pss_cons (ps_if (pt_val (pe_callB (r := rIsiT K) call_isiT rfl T.f_isinstance b_isinstance (pa_cons (pv 0) (pa_cons (pe_tup (pa_cons (pe_bltn (v := .ty "list") rfl T.f_list b_list rfl) (pa_cons (pe_bltn (v := .ty "tuple") rfl T.f_tuple b_tuple rfl) pa_nil))) pa_nil)))) (pss_one (ps_ret (pe_callTy (r := rTupOf K) call_tuple_of rfl T.f_tuple b_tuple (pa_cons (pe_lc (own := [("part", 1)]) (g := (gName 1)) rfl sc_tidy.nd (pi_tup (pv 0)) (blkOk_by (own := [("part", 1)]) (N := n_tidy) (sc := (defScope s_tidy)) (by decide +kernel)) (fun _ _ _ _ _ => (by exact (pg_name (i := 1) sc_tidy.nd rfl (Or.inl rfl)))) (fun _ _ _ _ _ => pts_nil) (fun _ _ _ _ _ => (pe_d D_tidy (hr.mono (by omega)) pass0 (pa_cons (pv 1) pa_nil)))) pa_nil)))) pss_nil) (pss_one (ps_ret (pv 0)))), ?_⟩
  refine ⟨_, rfl, (by show 2 ≤ sizeLine; decide), fun p hp => ?_⟩
  have ep := Evl.Ex.new (o := .tup [V.ty "list", V.ty "tuple"]) hp
  rcases h with ⟨_, rfl, q⟩ | ⟨_, i, rfl, q⟩ | ⟨hm, a, xs, rfl, hs, hl, q⟩
  · exact ⟨_, _, _, _, _, _, rfl, upd_same, .cons (.ty "list") (.cons (.ty "tuple") .nil), dp_ty (dp_ex ep (.non)), kit_any2 (kit_list _) (kit_tuple _), _, rfl, ifF rfl ⟨_, rfl, q _ ep⟩⟩
  · exact ⟨_, _, _, _, _, _, rfl, upd_same, .cons (.ty "list") (.cons (.ty "tuple") .nil), dp_ty (dp_ex ep (.int i)), kit_any2 (kit_list _) (kit_tuple _), _, rfl, ifF rfl ⟨_, rfl, q _ ep⟩⟩
  have hd : Dp K H (.ref a) (.tuple (xs.map PyData.int)) := .tup hs (by
    clear hs hl q
    induction xs with
    | nil => exact .nil
    | cons x xs ih => exact .cons (.int x) ih)
  refine ⟨_, _, _, _, _, _, rfl, upd_same, .cons (.ty "list") (.cons (.ty "tuple") .nil), dp_ty (dp_ex ep hd), kit_any2 (kit_list _) (kit_tuple _), _, rfl, ifT rfl ?_⟩
  refine ⟨_, rfl, a, rfl, ⟨_, Evl.ex_t ep hs⟩, fun D hD => ?_⟩
  have pr : ∀ H', Paired (RInt H') (xs.map V.int) xs := fun H' => by
    clear hs hl q hd
    induction xs with
    | nil => exact .nil
    | cons x xs ih => exact .cons rfl ih
  refine lc_map (γ := Int) (fun z => z) (src_tup mono_int (Evl.ex_t ep hs) (pr _)) monoT_int (by omega) (fun i z x H2 hz e2 r2 Ky ky => ?_) gm_name hD fun ys H2 e2 hy py => ?_
  · obtain rfl : x = .int z := r2
    exact ⟨rfl, _, rfl, _, rfl, .inr (.inl ⟨by omega, z, rfl, fun H' e' => ky _ _ e' rfl⟩)⟩
  · exact ⟨D, _, rfl, .inl ⟨SqL.of hy, fun l hl => q _ _ ((ep.trans e2).trans (Evl.Ex.new hl))⟩⟩
theorem ok_tidy (T : Txt K mg) : ∀ m : Nat, DefOk P w K mg base CX0 "tidy" p_tidy m (spTidy K m)
  | 0 => tidy_none T
  | m + 1 => tidy_more T (ok_tidy T m)
theorem tidy_opt (T : Txt K mg) : DefOk P w K mg base CX0 "tidy" p_tidy 2 (fun vs H Q _ => ∃ (len : Nat) (v : V) (o : Option (List Int)), vs = [v] ∧ len < 1000 ∧ OpI K H len v o ∧ ∀ r H', Ex H H' → Q r H') :=
  (ok_tidy T 2).imp fun vs H Q E ⟨len, v, o, ev, hl, ho, q⟩ => by
    refine ⟨v, ev, ?_⟩
    cases o with
    | none => exact .inl ⟨by decide, ho, fun H' e => q _ _ e⟩
    | some xs =>
      obtain ⟨p, rfl, h1, h2, _⟩ := ho
      exact .inr (.inr ⟨by decide, p, xs, rfl, h1, by omega, q⟩)
/-! ### a host of prices -/
/-- all but the object at x stays -/
def ExB (x : Addr) (H H' : Hp) : Prop := ∀ b o, b ≠ x → H b = some o → H' b = some o
def hostF (n : Nat) (s w d : V) : List (Str × V) := [("own_factors", .int n), ("own_sizes", s), ("own_weights", w), ("own_pairs", d)]
def HostAt (K : PySem.W.Frag) (H : Hp) (v : V) (n : Nat) (pp : Nat → Nat → Nat → Int) : Prop := ∃ x dx s w d, v = .ref x ∧ H x = some (.ins (He.ga K "Prices") dx (hostF n s w d)) ∧ PairAt H d n pp
theorem HostAt.ex {H H' : Hp} {v : V} {n : Nat} {pp : Nat → Nat → Nat → Int} (e : Ex H H') (h : HostAt K H v n pp) : HostAt K H' v n pp := by
  obtain ⟨x, dx, s, w, d, h1, h2, h3⟩ := h
  exact ⟨x, dx, s, w, d, h1, e _ _ h2, h3.ex e⟩
/-- the extra prices -/
def extF (brs : List (Nat × Nat × Int)) (a b : Nat) : Int := (brs.map fun z => if z.1 = a ∧ z.2.1 = b then z.2.2 else 0).sum
def RBr (H : Hp) (v : V) (z : Nat × Nat × Int) : Prop := ∃ q, v = .ref q ∧ H q = some (.tup [.int z.1, .int z.2.1, .int z.2.2])
theorem mono_br : MonoR RBr := fun _ _ _ _ e ⟨q, h1, h2⟩ => ⟨q, h1, e _ _ h2⟩
def BrAt (K : PySem.W.Frag) (H : Hp) (v : V) (n : Nat) (brs : List (Nat × Nat × Int)) : Prop := ∃ p vs, v = .ref p ∧ SqT K H p vs ∧ Paired (RBr H) vs brs ∧ brs.length ≤ 100 ∧ ∀ z ∈ brs, 1 ≤ z.1 ∧ z.1 ≤ n ∧ 1 ≤ z.2.1 ∧ z.2.1 ≤ n
def spInit (K : PySem.W.Frag) : Sp := fun vs H Q _ => ∃ (x dx : Addr) (n : Nat) (sv wv bv : V) (so wo : Option (List Int)) (brs : List (Nat × Nat × Int)), vs = [.ref x, .int n, sv, wv, bv] ∧ n ≤ 40 ∧ H x = some (.ins (He.ga K "Prices") dx []) ∧
  OpI K H (n + 1) sv so ∧ OpI K H n wv wo ∧ BrAt K H bv n brs ∧ ∀ H', ExB x H H' → HostAt K H' (.ref x) n (ppF so wo (extF brs)) → Q .non H'
theorem exb_t {x p C dx : Addr} {fs : List (Str × V)} {xs : List V} {H H' : Hp} (hx : H x = some (.ins C dx fs)) (e : ExB x H H') (h : SqT K H p xs) : SqT K H' p xs := by
  rcases h with (h | ⟨o, h⟩) | h
  · exact .inl (.inl (e _ _ (fun z => by rw [z, hx] at h; cases h) h))
  · exact .inl (.inr ⟨o, e _ _ (fun z => by rw [z, hx] at h; cases h) h⟩)
  · exact .inr h
theorem OpI.exb {x C dx : Addr} {fs : List (Str × V)} {len : Nat} {v : V} {o : Option (List Int)} {H H' : Hp} (hx : H x = some (.ins C dx fs)) (e : ExB x H H') (h : OpI K H len v o) : OpI K H' len v o := by
  cases o with
  | none => exact h
  | some xs =>
    obtain ⟨p, h1, h2, h3⟩ := h
    exact ⟨p, h1, exb_t hx e h2, h3⟩
theorem ExtAt.exb {x C dx : Addr} {fs : List (Str × V)} {v : V} {f : Nat → Nat → Int} {H H' : Hp} (hx : H x = some (.ins C dx fs)) (e : ExB x H H') (h : ExtAt H v f) : ExtAt H' v f := by
  obtain ⟨p, kvs, h1, h2, h3⟩ := h
  exact ⟨p, kvs, h1, e _ _ (fun z => by rw [z, hx] at h2; cases h2) h2, h3⟩
theorem hostF_eq (n : Nat) (s w d : V) : putF "own_pairs" d (putF "own_weights" w (putF "own_sizes" s (putF "own_factors" (.int n) []))) = hostF n s w d := by
  have n1 : ¬ (("own_factors" : Str) = "own_sizes") := by decide +kernel
  have n2 : ¬ (("own_factors" : Str) = "own_weights") := by decide +kernel
  have n3 : ¬ (("own_sizes" : Str) = "own_weights") := by decide +kernel
  have n4 : ¬ (("own_factors" : Str) = "own_pairs") := by decide +kernel
  have n5 : ¬ (("own_sizes" : Str) = "own_pairs") := by decide +kernel
  have n6 : ¬ (("own_weights" : Str) = "own_pairs") := by decide +kernel
  simp only [putF, if_neg n1, if_neg n2, if_neg n3, if_neg n4, if_neg n5, if_neg n6]
  rfl
theorem extF_more {brs : List (Nat × Nat × Int)} {i : Nat} {z : Nat × Nat × Int} (h : brs[i]? = some z) (a b : Nat) : extF (brs.take (i + 1)) a b = extF (brs.take i) a b + (if z.1 = a ∧ z.2.1 = b then z.2.2 else 0) := by
  unfold extF
  rw [take_more h, List.map_append, List.sum_append]
  simp
theorem ok_init (T : Txt K mg) (D_tidy : DefOk P w K mg base CX0 "tidy" p_tidy 2 (fun vs H Q _ => ∃ (len : Nat) (v : V) (o : Option (List Int)), vs = [v] ∧ len < 1000 ∧ OpI K H len v o ∧ ∀ r H', Ex H H' → Q r H'))
    (D_pair_prices : DefOk P w K mg base CX0 "pair_prices" p_pair_prices 2 (spPairs K)) :
    ∃ fd, FunD K "__init__" "Prices.__init__" (defArgs s_P_init) (defBody s_P_init) (defScope s_P_init) (d_P_init.dvs K) (d_P_init.kws K) (He.fAd K ("Prices", some "__init__")) fd ∧
      FnOk P w K mg base CX0 3 (He.fAd K ("Prices", some "__init__")) fd p_P_init (spInit K) := by
  obtain ⟨fd, F⟩ := T.F_P_init
  refine ⟨fd, F, F.ok sc_P_init (fun vs H Q E h => ?_) fun cdv A outer s H vs Q E hr h => ?_⟩
  · obtain ⟨x, dx, n, sv, wv, bv, so, wo, brs, rfl, _⟩ := h
    rfl
  obtain ⟨x, dx, n, sv, wv, bv, so, wo, brs, rfl, hn, hx, hs, hw, hb, q⟩ := h
  refine ⟨_, PSs.nox (pss_cons (ps_if (PW.pt (pw_or (PW.pt (pw_and (pt_cmpR op_notN (pv 2) pe_non (nomark _)) (pw_and1 (pt_cmpR op_ne (pe_callB (r := Evl.rLenS K) call_len_seq rfl T.f_len b_len (pa_cons (pv 2) pa_nil)) (pe_op op_add (pv 1) pe_int) (nomark _))))) (pw_or1 (PW.pt (pw_and (pt_cmpR op_notN (pv 3) pe_non (nomark _)) (pw_and1 (pt_cmpR op_ne (pe_callB (r := Evl.rLenS K) call_len_seq rfl T.f_len b_len (pa_cons (pv 3) pa_nil)) (pv 1) (nomark _)))))))) (pss_one ps_never) pss_nil) (pss_cons (ps_set (i := 5) sc_P_init.nd rfl (Or.inl rfl) pe_dnewT) (pss_cons (ps_for PassesOwn.never rfl (pi_tup (pv 4)) (pg_tup rfl (pgs_cons (pg_name (i := 6) sc_P_init.nd rfl (Or.inl rfl)) (pgs_cons (pg_name (i := 7) sc_P_init.nd rfl (Or.inl rfl)) (pgs_cons (pg_name (i := 8) sc_P_init.nd rfl (Or.inl rfl)) pgs_nil)))) (pss_cons (ps_for PassesOwn.never rfl (pi_tup (pe_tup (pa_cons (pv 6) (pa_cons (pv 7) pa_nil)))) (pg_name (i := 9) sc_P_init.nd rfl (Or.inl rfl)) (pss_one (ps_if (pt_not (pt_chain op_le op_le pe_int (pv 9) (pv 1))) (pss_one ps_never) pss_nil))) (pss_one (ps_dput (hu_of hr) (pv 5) (pe_tup (pa_cons (pv 6) (pa_cons (pv 7) pa_nil))) (pe_op op_add (pe_dget2 (hu_of hr) (pv 5) (pe_tup (pa_cons (pv 6) (pa_cons (pv 7) pa_nil))) pe_int ⟨rfl, rfl, rfl, rfl⟩) (pv 8)) rfl)))) (pss_cons (ps_asg (pe_tup (pa_cons (pv 1) (pa_cons (pe_d D_tidy (hr.mono (by omega)) pass0 (pa_cons (pv 2) pa_nil)) (pa_cons (pe_d D_tidy (hr.mono (by omega)) pass0 (pa_cons (pv 3) pa_nil)) pa_nil)))) (pg_tup rfl (pgs_cons (pg_fld (pv 0) rfl) (pgs_cons (pg_fld (pv 0) rfl) (pgs_cons (pg_fld (pv 0) rfl) pgs_nil))))) (pss_one (ps_fld (pv 0) (pe_d D_pair_prices (hr.mono (by omega)) pass0 (pa_cons (pv 1) (pa_cons (pv 2) (pa_cons (pv 3) (pa_cons (pv 5) pa_nil))))) rfl)))))), ?_⟩
  have len1 : ∀ {xs : List Int} {m : Nat}, xs.length = m → (!decide (V.int (((xs.map V.int).length : Nat) : Int) = V.int (m : Int))) = false := fun {xs m} h => by
    rw [List.length_map, h, decide_eq_true rfl]
    rfl
  refine seqCut (fun σ H' => σ = [some (.ref x), some (.int n), some sv, some wv, some bv, none, none, none, none, none] ∧ H = H') (fun D' key => ?_) ?_
  · have two : ∀ {Q : Bool → Hp → Prop}, Q false H → (tAnd (tTest (tOp (fun x y H Q => y = V.non ∧ Q (V.bl !decide (x = V.non)) H) (tVar 3) (tC V.non))) (tTest (tOp rNe (tCB (Evl.rLenS K) (tCons (tVar 3) tNil)) (tVar 1)))) [some (.ref x), some (.int n), some sv, some wv, some bv, none, none, none, none, none] H Q := fun {Q} q2 => by
      refine ⟨_, rfl, rfl, _, rfl, ?_⟩
      rw [hw.val]
      rcases Option.eq_none_or_eq_some wo with hl | ⟨xs, hl⟩
      · rw [hl]
        exact ifF rfl q2
      · rw [hl] at hw
        obtain ⟨pw, rfl, hwq, hwl, _⟩ := hw
        rw [hl]
        refine ifT rfl ⟨_, rfl, pw, _, rfl, .inr hwq, _, rfl, rfl, _, rfl, ?_⟩
        rw [len1 hwl]
        exact q2
    refine ⟨_, rfl, rfl, _, rfl, ?_⟩
    rw [hs.val]
    rcases Option.eq_none_or_eq_some so with hl | ⟨xs, hl⟩
    · rw [hl]
      exact ifF rfl (ifF rfl (two (ifF rfl (key _ _ ⟨rfl, rfl⟩))))
    · rw [hl] at hs
      obtain ⟨ps, rfl, hsq, hsl, _⟩ := hs
      rw [hl]
      refine ifT rfl ⟨_, rfl, ps, _, rfl, .inr hsq, _, rfl, _, _, rfl, rfl, rfl, _, rfl, ?_⟩
      have e1 := len1 hsl
      rw [show ((n + 1 : Nat) : Int) = (n : Int) + 1 by omega] at e1
      rw [e1]
      exact ifF rfl (two (ifF rfl (key _ _ ⟨rfl, rfl⟩)))
  rintro σ H1 ⟨rfl, rfl⟩
  obtain ⟨pb, bvs, rfl, hbs, hbp, hbl, hbn⟩ := hb
  have hbl2 : bvs.length = brs.length := hbp.length
  refine fun d hd => ⟨_, rfl, pb, rfl, ⟨_, Evl.ex_t (Evl.Ex.new hd) hbs⟩, ?_⟩
  refine for_tup (K := K) (xs := bvs) (fun i σ H' => Ex H H' ∧ (∃ y z u t, σ = [some (.ref x), some (.int n), some sv, some wv, some (.ref pb), some (.ref d), y, z, u, t]) ∧ ∃ kvs, H' d = some (.dT kvs) ∧ kvs.length ≤ i ∧ ∀ a b : Nat, (valV kvs (key2 a b)).getD (.int 0) = .int (extF (brs.take i) a b))
    ⟨Evl.Ex.new hd, ⟨_, _, _, _, rfl⟩, [], upd_same, Nat.le_refl _, fun a b => rfl⟩ (fun i σ H' _ h => Evl.ex_t h.1 hbs) ?_ ?_
  · rintro i v σ H2 hi ⟨e2, ⟨y, z, u, t, rfl⟩, kvs, hk, hkl, hkv⟩
    obtain ⟨⟨a, b, c⟩, hz, q2, rfl, hq2⟩ := paired_get hbp hi
    have hq2 := e2 _ _ hq2
    have hbz := hbn _ (List.mem_of_getElem? hz)
    have hil := (List.getElem?_eq_some_iff.mp hz).1
    refine gtup3 rfl hq2 ?_
    -- for end in (first, last)
    refine ⟨_, rfl, _, rfl, (by show 2 ≤ sizeLine; decide), fun p3 hp3 => ⟨p3, rfl, ⟨_, SqT.of upd_same⟩, ?_⟩⟩
    have e3 := Evl.Ex.new (o := .tup [V.int (a : Int), V.int (b : Int)]) hp3
    refine for_tup (K := K) (xs := [V.int (a : Int), V.int (b : Int)]) (fun i2 σ H' => H' = upd H2 p3 (.tup [V.int (a : Int), V.int (b : Int)]) ∧ ∃ t, σ = [some (.ref x), some (.int n), some sv, some wv, some (.ref pb), some (.ref d), some (.int a), some (.int b), some (.int c), t])
      ⟨rfl, _, rfl⟩ (fun i σ H' _ h => by rw [h.1]; exact SqT.of upd_same) ?_ ?_
    · rintro i2 v2 σ H3 hi2 ⟨rfl, t2, rfl⟩
      obtain ⟨e, rfl, he1, he2⟩ : ∃ e : Nat, v2 = .int e ∧ 1 ≤ e ∧ e ≤ n := by
        match i2, hi2 with
        | 0, hi2 => cases hi2; exact ⟨a, rfl, hbz.1, hbz.2.1⟩
        | 1, hi2 => cases hi2; exact ⟨b, rfl, hbz.2.2.1, hbz.2.2.2⟩
      refine ⟨_, rfl, _, _, rfl, rfl, _, rfl, ?_⟩
      refine ifT (decide_eq_true (by omega)) ⟨_, rfl, _, _, rfl, rfl, _, rfl, ?_⟩
      refine ifF (by rw [decide_eq_true (by omega)]; rfl) ⟨rfl, _, rfl⟩
    rintro σ H3 ⟨rfl, t2, rfl⟩
    refine ⟨_, rfl, d, rfl, .inr ⟨_, .inl (e3 _ _ hk)⟩, _, rfl, _, rfl, (by show 2 ≤ sizeLine; decide), fun p4 hp4 => ?_⟩
    have e4 := e3.trans (Evl.Ex.new (o := .tup [V.int (a : Int), V.int (b : Int)]) hp4)
    refine ⟨_, DGet.t (k := key2 a b) (e4 _ _ hk) upd_same, ?_⟩
    rw [hkv a b]
    refine ⟨_, rfl, _, _, rfl, rfl, _, rfl, _, rfl, _, rfl, (by show 2 ≤ sizeLine; decide), fun p5 hp5 => ?_⟩
    have e5 := e4.trans (Evl.Ex.new (o := .tup [V.int (a : Int), V.int (b : Int)]) hp5)
    refine ⟨d, _, rfl, DPut.t (k := key2 a b) (e5 _ _ hk) upd_same (sz_lt' (by omega)), ?_⟩
    refine ⟨Evl.Ex.mut (e2.trans e5) hd, ⟨_, _, _, _, rfl⟩, _, upd_same, ?_, fun a' b' => ?_⟩
    · exact Nat.le_trans (length_putK _ _ _) (by omega)
    · rw [valV_put, extF_more hz]
      by_cases cc : key2 a' b' = key2 a b
      · obtain ⟨rfl, rfl⟩ := key2_inj cc
        rw [if_pos rfl, if_pos ⟨rfl, rfl⟩]
        rfl
      · rw [if_neg cc, if_neg (fun z => cc (by rw [← z.1, ← z.2])), Int.add_zero]
        exact hkv a' b'
  rintro σ H2 ⟨e2, ⟨y, z, u, t, rfl⟩, kvs, hk, _, hkv⟩
  rw [hbl2, List.take_length] at hkv
  have hext : ExtAt H2 (.ref d) (extF brs) := ⟨d, kvs, rfl, hk, hkv⟩
  refine ⟨_, rfl, _, rfl, n + 1, sv, so, rfl, by omega, hs.ex e2, fun r1 H3 e3 => ?_⟩
  refine ⟨_, rfl, n, wv, wo, rfl, by omega, (hw.ex e2).ex e3, fun r2 H4 e4 => ?_⟩
  refine ⟨(by show 3 ≤ sizeLine; decide), fun p5 hp5 => ?_⟩
  have e25 := (e3.trans e4).trans (Evl.Ex.new (o := .tup [V.int (n : Int), r1, r2]) hp5)
  have hx5 := e25 _ _ (e2 _ _ hx)
  refine ⟨p5, _, rfl, SqT.of upd_same, rfl, _, _, rfl, _, rfl, x, _, dx, _, rfl, hx5, T.cP, T.nt_own_factors, (by show 0 < 1000; decide), ?_⟩
  refine ⟨_, _, rfl, _, rfl, x, _, dx, _, rfl, upd_same, T.cP, T.nt_own_sizes, (by show 1 < 1000; decide), ?_⟩
  refine ⟨_, _, rfl, _, rfl, x, _, dx, _, rfl, upd_same, T.cP, T.nt_own_weights, ?_, ?_⟩
  · show (putF "own_sizes" r1 (putF "own_factors" (.int n) [])).length < 1000
    have n1 : ¬ (("own_factors" : Str) = "own_sizes") := by decide +kernel
    simp only [putF, if_neg n1]
    show 2 < 1000
    decide
  refine ⟨rfl, ?_⟩
  -- self.own_pairs
  generalize hH6 : upd (upd (upd (upd H4 p5 (.tup [.int (n : Int), r1, r2])) x _) x _) x _ = H6
  have hx6 : H6 x = some (.ins (He.ga K "Prices") dx (putF "own_weights" r2 (putF "own_sizes" r1 (putF "own_factors" (.int n) [])))) := by rw [← hH6]; exact upd_same
  have e26 : ExB x H2 H6 := fun b o hb h => by
    rw [← hH6, upd_ne hb, upd_ne hb, upd_ne hb]
    exact e25 _ _ h
  have hx2 := e2 _ _ hx
  refine ⟨_, rfl, _, rfl, _, rfl, _, rfl, n, sv, wv, .ref d, so, wo, extF brs, rfl, hn, (hs.ex e2).exb hx2 e26, (hw.ex e2).exb hx2 e26, hext.exb hx2 e26, fun v H7 e7 hp7 => ?_⟩
  have hx7 := e7 _ _ hx6
  refine ⟨_, rfl, x, _, dx, _, rfl, hx7, T.cP, T.nt_own_pairs, ?_, ?_⟩
  · have n1 : ¬ (("own_factors" : Str) = "own_sizes") := by decide +kernel
    have n2 : ¬ (("own_factors" : Str) = "own_weights") := by decide +kernel
    have n3 : ¬ (("own_sizes" : Str) = "own_weights") := by decide +kernel
    simp only [putF, if_neg n1, if_neg n2, if_neg n3]
    show 3 < 1000
    decide
  refine q _ (fun b o hb h => ?_) ⟨x, dx, r1, r2, v, rfl, ?_, ?_⟩
  · rw [upd_ne hb]
    exact e7 _ _ (e26 _ _ hb (e2 _ _ h))
  · rw [upd_same, hostF_eq]
  · obtain ⟨pd, kv, h1, h2, h3⟩ := hp7
    exact ⟨pd, kv, h1, by rw [upd_ne (fun z => by rw [z, hx7] at h2; cases h2)]; exact h2, h3⟩
end RG

set_option Elab.async false
set_option linter.all false
set_option maxRecDepth 100000
set_option maxHeartbeats 400000
namespace RG
open PySem PySem.Spec PyProof.Rows L2
variable {P : Program} {w : World} {K : PySem.W.Frag} {mg : Str → Option Value} {base : Heap}
/-! ### the host's methods -/
theorem own_of {n : Nat} {s w d : V} : (hostF n s w d).lookup ("own_factors" : Str) = some (.int n) := by
  unfold hostF
  simp [List.lookup]
theorem pairs_of {n : Nat} {s w d : V} : (hostF n s w d).lookup ("own_pairs" : Str) = some d := by
  have n1 : (("own_pairs" : Str) == "own_factors") = false := by decide +kernel
  have n2 : (("own_pairs" : Str) == "own_sizes") = false := by decide +kernel
  have n3 : (("own_pairs" : Str) == "own_weights") = false := by decide +kernel
  unfold hostF
  simp [List.lookup, n1, n2, n3]
theorem nometh {n : Nat} {s w d : V} {m : Str} (h : (m == "own_factors" || m == "own_sizes" || m == "own_weights" || m == "own_pairs") = false) : (hostF n s w d).lookup m = none := by
  simp only [Bool.or_eq_false_iff] at h
  obtain ⟨⟨⟨h1, h2⟩, h3⟩, h4⟩ := h
  unfold hostF
  simp [List.lookup, h1, h2, h3, h4]
def spCheck (K : PySem.W.Frag) : Sp := fun vs H Q _ => ∃ (sv tv : V) (t : Tr) (pp : Nat → Nat → Nat → Int), vs = [sv, tv] ∧ HostAt K H sv t.lst pp ∧ TrM K H tv t ∧ ∀ H', Ex H H' → Q .non H'
theorem ok_check (T : Txt K mg) (D_factors_in : DefOk P w K mg base CX0 "factors_in" p_factors_in 5 (spFactorsIn K)) : MetOk P w K mg base CX0 "check" p_P_check [] 6 (spCheck K) := by
  obtain ⟨fd, F⟩ := T.F_P_check
  refine ⟨⟨_, fd, [], T.m_check, F.bindsN (ps := p_P_check) (fun _ _ _ _ _ _ us hl => match us, hl with | [_, _], _ => rfl), .nil, F.ok sc_P_check (fun vs H Q E h => ?_) fun cdv A outer s H vs Q E hr h => ?_⟩⟩
  · obtain ⟨sv, tv, t, pp, rfl, _⟩ := h
    rfl
  obtain ⟨sv, tv, t, pp, rfl, hh, ht, q⟩ := h
  refine ⟨_, PSs.nox (pss_one (ps_if (pt_cmpR op_ne (pe_d D_factors_in (hr.mono (by omega)) pass0 (pa_cons (pv 1) pa_nil)) (pe_fldK (K := K) (pv 0)) (nomark _)) (pss_one ps_never) pss_nil)), ?_⟩
  refine ⟨_, rfl, tv, t, rfl, ht, fun H1 e1 => ?_⟩
  obtain ⟨x, dx, s, w, d, rfl, hx, hp⟩ := hh.ex e1
  refine ⟨_, rfl, x, _, dx, _, _, rfl, hx, T.cP, T.nt_own_factors, own_of, rfl, _, rfl, ?_⟩
  refine ifF (by rw [decide_eq_true rfl]; rfl) (q _ e1)
def spOf (K : PySem.W.Frag) : Sp := fun vs H Q _ => ∃ (n : Nat) (sv tv : V) (t : Tr) (pp : Nat → Nat → Nat → Int), vs = [sv, tv] ∧ HostAt K H sv n pp ∧ t.lst = n ∧ TrM K H tv t ∧ t.ht < 30 ∧ t.trip.length ≤ 1000 ∧ (∀ z ∈ t.trip, 1 ≤ z.1 ∧ z.1 ≤ z.2.1 ∧ z.2.1 < z.2.2 ∧ z.2.2 ≤ n) ∧ ∀ H', Ex H H' → Q (.int (price pp t)) H'
theorem ok_of (T : Txt K mg) (M_check1 : MetOk P w K mg base CX0 "check" p_P_check [] 6 (spCheck K)) (D_spans : DefOk P w K mg base CX0 "spans" p_spans 35 (spSpans K 30)) : MetOk P w K mg base CX0 "of" p_P_of [] 36 (spOf K) := by
  obtain ⟨fd, F⟩ := T.F_P_of
  refine ⟨⟨_, fd, [], T.m_of, F.bindsN (ps := p_P_of) (fun _ _ _ _ _ _ us hl => match us, hl with | [_, _], _ => rfl), .nil, F.ok sc_P_of (fun vs H Q E h => ?_) fun cdv A outer s H vs Q E hr h => ?_⟩⟩
  · obtain ⟨n, sv, tv, t, pp, rfl, _⟩ := h
    rfl
  obtain ⟨n, sv, tv, t, pp, rfl, hh, hl, ht, hht, htl, hz, q⟩ := h
  refine ⟨_, PSs.nox (pss_cons (ps_expr (pe_md (K := K) (pv 0) T.cP M_check1 (hr.mono (by omega)) pass0 (pa_cons (pv 1) pa_nil))) (pss_one (ps_ret (pe_callB (r := rSum K) (cr_sum rfl) rfl T.f_sum b_sum (pa_cons (pe_lc (own := [("triple", 2)]) (g := (gName 2)) rfl sc_P_of.nd (pi_list (pe_d D_spans (hr.mono (by omega)) pass0 (pa_cons (pv 1) pa_nil))) (blkOk_by (own := [("triple", 2)]) (N := n_P_of) (sc := (defScope s_P_of)) (by decide +kernel)) (fun _ _ _ _ _ => (by exact (pg_name (i := 2) sc_P_of.nd rfl (Or.inl rfl)))) (fun _ _ _ _ _ => pts_nil) (fun _ _ _ _ _ => (pe_dget (hu_of hr) (pe_fldK (K := K) (pv 0)) (pv 2) (fun _ _ => rfl)))) pa_nil))))), ?_⟩
  obtain ⟨x, dx, s, w, d, rfl, hx, hp⟩ := id hh
  refine ⟨_, rfl, x, dx, _, rfl, hx, nometh (by decide +kernel), _, rfl, _, tv, t, pp, rfl, by rw [hl]; exact hh, ht, fun H1 e1 => ?_⟩
  refine ⟨_, rfl, tv, t, rfl, ht.ex e1, hht, htl, fun r H2 e2 l2 => ?_⟩
  obtain ⟨p, vs, rfl, hv, pr⟩ := l2
  refine ⟨p, rfl, ⟨_, SqL.of hv⟩, fun D hD => ?_⟩
  refine lc_map (γ := Int) (fun z => pp z.1 z.2.1 z.2.2) (src_list mono_trip (SqL.of hv) pr) monoT_int (by omega) (fun i z v H3 hz3 e3 r3 Ky ky => ?_) gm_name hD fun ys H3 e3 hy py => ?_
  · obtain ⟨q3, rfl, hq3⟩ := r3
    obtain ⟨x2, dx2, s2, w2, d2, hxx, hx3, pd, kv, rfl, hpd, hkv⟩ := hh.ex ((e1.trans e2).trans e3)
    obtain rfl := V.ref.inj hxx
    obtain ⟨z1, z2, z3, z4⟩ := hz z (List.mem_of_getElem? hz3)
    refine ⟨rfl, _, rfl, x, _, dx2, _, _, rfl, hx3, T.cP, T.nt_own_pairs, pairs_of, _, rfl, ?_⟩
    refine ⟨pd, _, rfl, by rw [← hkv z.1 z.2.1 z.2.2 z1 z2 z3 z4]; exact DGet.t (k := key3 z.1 z.2.1 z.2.2) hpd hq3, ?_⟩
    exact ky _ _ (exr _) rfl
  · have ey := paired_int py
    refine ⟨D, _, rfl, by rw [← ey]; exact SqL.of hy, ?_⟩
    exact q _ ((e1.trans e2).trans e3)
/-! ### tops -/
def TopsQ (K : PySem.W.Frag) (n : Nat) (H : Hp) (Q : VK) (E : XK) : Except Bad (List (Nat × Nat)) → Prop
  | .error b => ∀ H', Ex H H' → E (EBad K b) none H'
  | .ok l => l.length + 1 = n ∧ ∀ v H', Ex H H' → TopsAt H' v n (tpL l) → Q v H'
def spTops (K : PySem.W.Frag) : Sp := fun vs H Q E => ∃ (n : Nat) (lo hi : Option Tr) (sv lv hv : V) (pp : Nat → Nat → Nat → Int), vs = [sv, lv, hv] ∧ 1 ≤ n ∧ n ≤ 40 ∧ HostAt K H sv n pp ∧ OpT K H lv lo ∧ OpT K H hv hi ∧ TopsQ K n H Q E (limF n lo hi)
theorem ok_tops (T : Txt K mg) (D_tops_between : DefOk P w K mg base CX0 "tops_between" p_tops_between 2 spTopsBetween) (D_limits : DefOk P w K mg base (L2.CX P w) "limits" p_limits 37 (spLimits K)) : MetOk P w K mg base (L2.CX P w) "tops" p_P_tops [] 38 (spTops K) := by
  obtain ⟨fd, F⟩ := T.F_P_tops
  refine ⟨⟨_, fd, [], T.m_tops, F.bindsN (ps := p_P_tops) (fun _ _ _ _ _ _ us hl => match us, hl with | [_, _, _], _ => rfl), .nil, F.ok sc_P_tops (fun vs H Q E h => ?_) fun cdv A outer s H vs Q E hr h => ?_⟩⟩
  · obtain ⟨n, lo, hi, sv, lv, hv, pp, rfl, _⟩ := h
    rfl
  obtain ⟨n, lo, hi, sv, lv, hv, pp, rfl, hn1, hn, hh, hlo, hhi, q⟩ := h
  refine ⟨_, (pss_one (ps_ret (pe_d D_tops_between (hr.mono (by omega)) pass0 (pa_cons (pe_fldK (K := K) (pv 0)) (pa_cons (pe_d D_limits (hr.mono (by omega)) (passes_call (takes_of rfl rfl rfl rfl) (fun _ _ _ _ h => h)) (pa_cons (pe_fldK (K := K) (pv 0)) (pa_cons (pv 1) (pa_cons (pv 2) pa_nil)))) pa_nil))))), ?_⟩
  obtain ⟨x, dx, s, w, d, rfl, hx, hp⟩ := id hh
  refine ⟨_, rfl, x, _, dx, _, _, rfl, hx, T.cP, T.nt_own_factors, own_of, _, rfl, x, _, dx, _, _, rfl, hx, T.cP, T.nt_own_factors, own_of, _, rfl, _, rfl, n, lo, hi, lv, hv, rfl, hn1, by omega, hlo, hhi, ?_⟩
  cases hf : limF n lo hi with
  | error b =>
    rw [hf] at q
    exact q
  | ok l =>
    rw [hf] at q
    intro v H1 e1 l1
    exact ⟨n, v, l, rfl, by omega, l1, q.1, fun r H2 e2 t2 => q.2 r H2 (e1.trans e2) t2⟩
end RG

set_option Elab.async false
set_option linter.all false
set_option maxRecDepth 100000
set_option maxHeartbeats 400000
namespace RG
open PySem PySem.Spec PyProof.Rows L2
variable {P : Program} {w : World} {K : PySem.W.Frag} {mg : Str → Option Value} {base : Heap}
/-! ### dicts as sources -/
theorem src_keys {H1 : Hp} {d : Addr} {o : Obj} {as : List (Nat × Int)} (h : H1 d = some (.frz o (.dK (as.map fun z => ((.inl (z.1 : Int) : Key), V.int z.2))))) : Src (Itk d o (as.map fun z => ((.inl (z.1 : Int) : Key), V.int z.2))) H1 (fun _ v z => v = .int (z.1 : Nat)) as where
  go := fun i a H2 e hz => ⟨e _ _ h, by rw [List.length_map]; exact (List.getElem?_eq_some_iff.mp hz).1⟩
  stop := fun H2 e => ⟨e _ _ h, by rw [List.length_map]; exact Nat.le_refl _⟩
  yld := fun i a x H2 H3 e hz y => by
    obtain ⟨rfl, k, v, hk, rfl⟩ := y
    rw [List.getElem?_map, hz] at hk
    cases hk
    exact ⟨exr _, rfl⟩
theorem src_vals {H1 : Hp} {d : Addr} {o : Obj} {as : List (Nat × Int)} (h : H1 d = some (.frz o (.dK (as.map fun z => ((.inl (z.1 : Int) : Key), V.int z.2))))) : Src (Itd d o (as.map fun z => ((.inl (z.1 : Int) : Key), V.int z.2))) H1 (fun _ v z => v = .int z.2) as where
  go := fun i a H2 e hz => ⟨e _ _ h, by rw [List.length_map]; exact (List.getElem?_eq_some_iff.mp hz).1⟩
  stop := fun H2 e => ⟨e _ _ h, by rw [List.length_map]; exact Nat.le_refl _⟩
  yld := fun i a x H2 H3 e hz y => by
    obtain ⟨rfl, k, hk⟩ := y
    rw [List.getElem?_map, hz] at hk
    cases hk
    exact ⟨exr _, rfl⟩
/-- {z: 0 for z in pairs} -/
theorem dc_zero {J : It} {H1 : Hp} {as : List (Nat × Nat)} {j : Nat} {vs : List Nat} {σ : L2.St} {D : Addr} {Qd : Hp → Prop} (Z : Src J H1 RPr as) (hz : as.length < 100000) (hj : j < (wipe σ vs).length) (hw : ∀ x, wipe ((wipe σ vs).set j (some x)) vs = wipe σ vs)
    (hD : H1 D = none) (k : ∀ kvs H2, Ex H1 H2 → H2 D = some (.dT kvs) → kvs.length ≤ as.length → (∀ z ∈ as, valV kvs (key2 z.1 z.2) = some (.int 0)) → Qd H2) :
    ∃ W : Nat → Nat → Hp → Prop, (∃ m, W 0 m (upd H1 D (.dT []))) ∧ ∀ i m H, W i m H →
      (J.stop i H ∧ Qd H) ∨ (J.go i H ∧ ∃ Nx : Hp → Prop, (∀ H', Nx H' → ∃ m', m' < m ∧ W (i + 1) m' H') ∧ ∀ x H', J.yld i H x H' → gName j x (wipe σ vs) H' fun σ2 H2 => wipe σ2 vs = wipe σ vs ∧ tYes σ2 H2 fun c H3 =>
        if c = true then tVar j σ2 H3 fun y H4 => tC (.int 0) σ2 H4 fun z H5 => ∃ b kvs k, y = .ref b ∧ H5 b = some (.tup (k.map kV)) ∧ H5 D = some (.dT kvs) ∧ kvs.length < sizeLine ∧ Nx (upd H5 D (.dT (putK kvs k z))) else Nx H3) := by
  let P : Nat → Hp → Prop := fun i H => Ex H1 H ∧ ∃ kvs, H D = some (.dT kvs) ∧ kvs.length ≤ i ∧ ∀ z ∈ as.take i, valV kvs (key2 z.1 z.2) = some (.int 0)
  refine ⟨fun i m H => m = as.length - i ∧ i ≤ as.length ∧ P i H, ⟨as.length, by simp, Nat.zero_le _, Evl.Ex.new hD, [], upd_same, Nat.le_refl _, fun z h => nomatch h⟩, ?_⟩
  rintro i m H ⟨rfl, hi, e, kvs, hk, hl, hall⟩
  by_cases hlt : i < as.length
  · have hz' : as[i]? = some as[i] := List.getElem?_eq_getElem hlt
    refine .inr ⟨Z.go i _ H e hz', P (i + 1), fun H' p => ⟨as.length - (i + 1), by omega, rfl, hlt, p⟩, fun x H' y => ?_⟩
    obtain ⟨e2, q, rfl, hq⟩ := Z.yld i _ x H H' e hz' y
    refine ⟨hw _, yes_go ?_⟩
    refine ⟨_, List.getElem?_set_self hj, q, kvs, key2 (as[i]).1 (as[i]).2, rfl, hq, e2 _ _ hk, sz_lt' (by omega), ?_⟩
    refine ⟨Evl.Ex.mut (e.trans e2) hD, _, upd_same, Nat.le_trans (length_putK _ _ _) (by omega), fun z hz => ?_⟩
    rw [valV_put]
    by_cases c : key2 z.1 z.2 = key2 (as[i]).1 (as[i]).2
    · rw [if_pos c]
    · rw [if_neg c]
      rw [take_more hz', List.mem_append] at hz
      rcases hz with hz | hz
      · exact hall z hz
      · rw [List.mem_singleton.mp hz] at c
        exact absurd rfl c
  · have ei : i = as.length := by omega
    subst ei
    refine .inl ⟨Z.stop H e, k kvs H e hk hl fun z hz => hall z (by rw [List.take_length]; exact hz)⟩
def BestAt (H : Hp) (v : V) (n : Nat) (f : Nat → Nat → Option Int) : Prop := ∃ p kvs, v = .ref p ∧ H p = some (.dT kvs) ∧ ∀ a b, 1 ≤ a → a ≤ b → b ≤ n → valV kvs (key2 a b) = some (optV (f a b))
theorem BestAt.ex {H H' : Hp} {v : V} {n : Nat} {f : Nat → Nat → Option Int} (e : Ex H H') (h : BestAt H v n f) : BestAt H' v n f := by
  obtain ⟨p, kvs, h1, h2, h3⟩ := h
  exact ⟨p, kvs, h1, e _ _ h2, h3⟩
def TpNd (tp : Nat → Nat → List Nat) : Prop := ∀ a b, (tp a b).Nodup
theorem tpL_nd (lims : List (Nat × Nat)) : TpNd (tpL lims) := fun a b => by
  refine List.Pairwise.filter _ ?_
  refine List.Pairwise.map _ (fun x y h e => h ?_) List.nodup_range
  have : a + x = a + y := e
  omega
theorem tpB_nd {pp : Nat → Nat → Nat → Int} {tp : Nat → Nat → List Nat} {s : Int} (nd : TpNd tp) : TpNd (tpB pp tp s) := fun a b => List.Pairwise.filter _ (nd a b)
def sumsT (pp : Nat → Nat → Nat → Int) (tp : Nat → Nat → List Nat) (s : Int) (a b m : Nat) : List (Nat × Int) := ((tp a b).take m).filterMap fun j => (sumJ (bestV pp tp s) pp a b j).map fun z => (j, z)
def kvI (as : List (Nat × Int)) : List (Key × V) := as.map fun z => ((.inl (z.1 : Int) : Key), V.int z.2)
theorem valV_kvI_none {as : List (Nat × Int)} {j : Nat} (h : ∀ z ∈ as, z.1 ≠ j) : valV (kvI as) (.inl (j : Int)) = none := by
  unfold valV kvI
  rw [Option.map_eq_none_iff, List.find?_eq_none]
  intro x hx c
  obtain ⟨z, hz, rfl⟩ := List.mem_map.mp hx
  have e := of_decide_eq_true c
  injection e with e
  exact h z hz (by omega)
theorem valV_kvI {as : List (Nat × Int)} {z : Nat × Int} (hz : z ∈ as) (hn : (as.map (·.1)).Nodup) : valV (kvI as) (.inl (z.1 : Int)) = some (.int z.2) := by
  induction as with
  | nil => cases hz
  | cons y as ih =>
    rw [List.map_cons, List.nodup_cons] at hn
    by_cases c : y.1 = z.1
    · rcases List.mem_cons.mp hz with rfl | hz
      · exact valV_pos rfl
      · exact absurd (List.mem_map.mpr ⟨z, hz, c.symm⟩) hn.1
    · rcases List.mem_cons.mp hz with rfl | hz
      · exact absurd rfl c
      · have e : valV (kvI (y :: as)) (.inl (z.1 : Int)) = valV (kvI as) (.inl (z.1 : Int)) := by
          unfold valV kvI
          rw [List.map_cons, List.find?_cons_of_neg]
          intro cc
          have e := of_decide_eq_true cc
          injection e with e
          exact c (by omega)
        rw [e]
        exact ih hz hn.2
theorem sums_tpB (S : Nat → Option Int) (B : Option Int) : ∀ l : List Nat, (((l.filterMap fun j => (S j).map fun z => (j, z)).filter fun z => decide (B = some z.2)).map fun z => z.1) = l.filter fun j => match S j with
    | some m => decide (B = some m)
    | none => false
  | [] => rfl
  | j :: l => by
    rw [List.filterMap_cons, List.filter_cons]
    cases h : S j with
    | none =>
      show _ = if false = true then _ else _
      rw [if_neg (by decide)]
      exact sums_tpB S B l
    | some m =>
      show (((j, m) :: _).filter _).map _ = if decide (B = some m) = true then _ else _
      rw [List.filter_cons]
      by_cases c : B = some m
      · rw [if_pos (decide_eq_true c), if_pos (decide_eq_true c), List.map_cons, sums_tpB S B l]
      · rw [if_neg (by rw [decide_eq_false c]; decide), if_neg (by rw [decide_eq_false c]; decide), sums_tpB S B l]
theorem sumsL_nd {pp : Nat → Nat → Nat → Int} {tp : Nat → Nat → List Nat} {s : Int} {a b : Nat} (nd : (tp a b).Nodup) : ((sumsL pp tp s a b).map (·.1)).Nodup := by
  refine List.Pairwise.sublist ?_ nd
  unfold sumsL
  generalize tp a b = l
  induction l with
  | nil => exact .slnil
  | cons j l ih =>
    rw [List.filterMap_cons]
    cases h : sumJ (bestV pp tp s) pp a b j with
    | none => exact .cons _ ih
    | some m => exact .cons₂ _ ih
def spBest (K : PySem.W.Frag) : Sp := fun vs H Q _ => ∃ (n : Nat) (sv tv : V) (side : Int) (pp : Nat → Nat → Nat → Int) (tp : Nat → Nat → List Nat), vs = [sv, tv, .int side] ∧ 1 ≤ n ∧ n ≤ 40 ∧ HostAt K H sv n pp ∧ TopsAt H tv n tp ∧ TpOk tp ∧ TpSm tp ∧ TpNd tp ∧ Side side ∧
  ∀ p fv jv H', Ex H H' → H' p = some (.tup [fv, jv]) → BestAt H' fv n (bestV pp tp side) → TopsAt H' jv n (tpB pp tp side) → Q (.ref p) H'
theorem ok_best (T : Txt K mg) (D_stretches : DefOk P w K mg base CX0 "stretches" p_stretches 1 spStretches) (D_singles : DefOk P w K mg base CX0 "singles" p_singles 1 spSingles) : MetOk P w K mg base CX0 "best" p_P_best [] 2 (spBest K) := by
  obtain ⟨fd, F⟩ := T.F_P_best
  refine ⟨⟨_, fd, [], T.m_best, F.bindsN (ps := p_P_best) (fun _ _ _ _ _ _ us hl => match us, hl with | [_, _, _], _ => rfl), .nil, F.ok sc_P_best (fun vs H Q E h => ?_) fun cdv A outer s H vs Q E hr h => ?_⟩⟩
  · obtain ⟨n, sv, tv, side, pp, tp, rfl, _⟩ := h
    rfl
  obtain ⟨n, sv, tv, side, pp, tp, rfl, hn1, hn, hh, ht, ok, sm, nd, hside, q⟩ := h
  refine ⟨_, PSs.nox (pss_cons (ps_asg (pe_tup (pa_cons (pe_dcT (own := [("span", 11)]) (g := (gName 11)) (hu_of hr) rfl sc_P_best.nd (pi_list (pe_d D_singles (hr.mono (by omega)) pass0 (pa_cons (pe_fldK (K := K) (pv 0)) pa_nil))) (blkOk_by (own := [("span", 11)]) (N := n_P_best) (sc := (defScope s_P_best)) (by decide +kernel)) (fun _ _ _ _ _ => (by exact (pg_name (i := 11) sc_P_best.nd rfl (Or.inl rfl)))) (fun _ _ _ _ _ => pts_nil) (fun _ _ _ _ _ => (pv 11)) (fun _ _ _ _ _ => pe_int)) (pa_cons pe_dnewT pa_nil))) (pg_tup rfl (pgs_cons (pg_name (i := 3) sc_P_best.nd rfl (Or.inr rfl)) (pgs_cons (pg_name (i := 4) sc_P_best.nd rfl (Or.inl rfl)) pgs_nil)))) (pss_cons (ps_for PassesOwn.never rfl (pi_list (pe_d D_stretches (hr.mono (by omega)) pass0 (pa_cons (pe_fldK (K := K) (pv 0)) pa_nil))) (pg_tup rfl (pgs_cons (pg_name (i := 5) sc_P_best.nd rfl (Or.inr rfl)) (pgs_cons (pg_name (i := 6) sc_P_best.nd rfl (Or.inr rfl)) pgs_nil))) (pss_cons (ps_set (i := 7) sc_P_best.nd rfl (Or.inr rfl) pe_dnewK) (pss_cons (ps_for PassesOwn.never rfl (pi_list (pe_dget (hu_of hr) (pv 1) (pe_tup (pa_cons (pv 5) (pa_cons (pv 6) pa_nil))) (fun _ _ => rfl))) (pg_name (i := 8) sc_P_best.nd rfl (Or.inl rfl)) (pss_cons (ps_par (i := 9) (j := 10) rfl sc_P_best.nd rfl rfl (by decide) rfl rfl (pa_cons (pe_dget (hu_of hr) (pv 3) (pe_tup (pa_cons (pv 5) (pa_cons (pv 8) pa_nil))) (fun _ _ => rfl)) (pa_cons (pe_dget (hu_of hr) (pv 3) (pe_tup (pa_cons (pe_op op_add (pv 8) pe_int) (pa_cons (pv 6) pa_nil))) (fun _ _ => rfl)) pa_nil)) (by rfl)) (pss_one (ps_if (PW.pt (pw_and (pt_cmpR op_notN (pv 9) pe_non (nomark _)) (pw_and1 (pt_cmpR op_notN (pv 10) pe_non (nomark _))))) (pss_one (ps_dput (hu_of hr) (pv 7) (pv 8) (pe_op op_add (pe_op op_add (pv 9) (pv 10)) (pe_dget (hu_of hr) (pe_fldK (K := K) (pv 0)) (pe_tup (pa_cons (pv 5) (pa_cons (pv 8) (pa_cons (pv 6) pa_nil)))) (fun _ _ => rfl))) rfl)) pss_nil)))) (pss_cons (ps_dput (hu_of hr) (pv 3) (pe_tup (pa_cons (pv 5) (pa_cons (pv 6) pa_nil))) (pe_ifExp (pt_cmpR op_gt (pe_callB call_lenD rfl T.f_len b_len (pa_cons (pv 7) pa_nil)) pe_int (nomark _)) (pe_op op_mul (pv 2) (pe_callB (r := rMin K) (cr_min rfl) rfl T.f_min b_min (pa_cons (pe_lock (pe_lc (own := [("own", 12)]) (g := (gName 12)) rfl sc_P_best.nd (pi_values (pv 7)) (blkOk_by (own := [("own", 12)]) (N := n_P_best) (sc := (defScope s_P_best)) (by decide +kernel)) (fun _ _ _ _ _ => (by exact (pg_name (i := 12) sc_P_best.nd rfl (Or.inl rfl)))) (fun _ _ _ _ _ => pts_nil) (fun _ _ _ _ _ => (pe_op op_mul (pv 2) (pv 12))))) pa_nil))) pe_non) rfl) (pss_one (ps_dput (hu_of hr) (pv 4) (pe_tup (pa_cons (pv 5) (pa_cons (pv 6) pa_nil))) (pe_lock (pe_lc (own := [("join", 8)]) (g := (gName 8)) rfl sc_P_best.nd (pi_keys (pv 7)) (blkOk_by (own := [("join", 8)]) (N := n_P_best) (sc := (defScope s_P_best)) (by decide +kernel)) (fun _ _ _ _ _ => (by exact (pg_name (i := 8) sc_P_best.nd rfl (Or.inl rfl)))) (fun _ _ _ _ _ => (pts_one (pt_cmpR op_eq (pe_dget (hu_of hr) (pv 7) (pv 8) (fun _ _ => rfl)) (pe_dget (hu_of hr) (pv 3) (pe_tup (pa_cons (pv 5) (pa_cons (pv 6) pa_nil))) (fun _ _ => rfl)) (nomark _)))) (fun _ _ _ _ _ => (pv 8)))) rfl)))))) (pss_one (ps_ret (pe_tup (pa_cons (pv 3) (pa_cons (pv 4) pa_nil))))))), ?_⟩
  obtain ⟨x, dx, sz, sw, sp, rfl, hx, hp⟩ := id hh
  refine ⟨_, rfl, x, _, dx, _, _, rfl, hx, T.cP, T.nt_own_factors, own_of, n, rfl, by omega, fun r1 H1 e1 l1 => ?_⟩
  obtain ⟨p1, vs1, rfl, hp1, pr1⟩ := l1
  refine ⟨p1, rfl, ⟨_, SqL.of hp1⟩, fun fd0 hfd => ?_⟩
  refine dc_zero (src_list monoT_pr.ex (SqL.of hp1) pr1) (by rw [List.length_map, List.length_range]; omega) (by show 11 < 13; decide) (fun _ => rfl) hfd fun kvs0 H2 e2 hk0 hl0 hz0 => ?_
  refine fun jd hjd => ⟨(by show 2 ≤ sizeLine; decide), fun p3 hp3 => ⟨p3, _, rfl, SqT.of upd_same, rfl, _, _, rfl, _, _, rfl, rfl, ?_⟩⟩
  have e3 := (Evl.Ex.new (o := .dT []) hjd).trans (Evl.Ex.new (o := .tup [V.ref fd0, V.ref jd]) hp3)
  have e02 := e1.trans e2
  have e03 := e02.trans e3
  have hll := sl_len n
  have hnn : n * (n - 1) ≤ 40 * 39 := Nat.mul_le_mul hn (by omega)
  have hfj : fd0 ≠ jd := fun z => by rw [← z, hk0] at hjd; cases hjd
  have hk3 := e3 _ _ hk0
  have hj3 : (upd (upd H2 jd (.dT [])) p3 (.tup [V.ref fd0, V.ref jd])) jd = some (.dT []) := Evl.Ex.new (o := .tup [V.ref fd0, V.ref jd]) hp3 _ _ upd_same
  obtain ⟨x3, dx3, sz3, sw3, sp3, hxx, hx3, _⟩ := hh.ex e03
  obtain rfl := V.ref.inj hxx
  refine ⟨_, rfl, x, _, dx3, _, _, rfl, hx3, T.cP, T.nt_own_factors, own_of, n, rfl, by omega, fun r4 H4 e4 l4 => ?_⟩
  obtain ⟨p4, vs4, rfl, hp4, pr4⟩ := l4
  refine ⟨p4, rfl, ⟨_, SqL.of hp4⟩, for_list (xs := vs4) (fun i σ H' => Ex H H' ∧ H' p4 = some (.lst vs4) ∧ Paired (RPr H') vs4 (sl n) ∧ (∃ y1 y2 y3 y4 y5 y6, σ = [some (.ref x), some tv, some (.int side), some (.ref fd0), some (.ref jd), y1, y2, y3, y4, y5, y6, none, none]) ∧
      (∃ kvs, H' fd0 = some (.dT kvs) ∧ kvs.length ≤ n + i ∧ (∀ a, 1 ≤ a → a ≤ n → valV kvs (key2 a a) = some (.int 0)) ∧ ∀ a b, (a, b) ∈ (sl n).take i → valV kvs (key2 a b) = some (optV (bestV pp tp side a b))) ∧
      ∃ kvs, H' jd = some (.dT kvs) ∧ kvs.length ≤ i ∧ ∀ a b, (a, b) ∈ (sl n).take i → ∃ l, valV kvs (key2 a b) = some (.ref l) ∧ H' l = some (.lst ((tpB pp tp side a b).map fun j : Nat => V.int j)))
    ⟨e03.trans e4, hp4, pr4, ⟨none, none, none, none, none, none, rfl⟩, ⟨kvs0, e4 _ _ hk3, by rw [List.length_map, List.length_range] at hl0; omega, fun a h1 h2 => hz0 (a, a) (List.mem_map.mpr ⟨a - 1, List.mem_range.mpr (by omega), by congr 1 <;> omega⟩), fun a b h => nomatch h⟩,
      ⟨[], e4 _ _ hj3, Nat.zero_le _, fun a b h => nomatch h⟩⟩ (fun i σ H' _ h => SqL.of h.2.1) ?_ ?_⟩
  rotate_left
  · rintro σ H5 ⟨e5, _, pr5, ⟨y1, y2, y3, y4, y5, y6, rfl⟩, ⟨kf, hkf, _, hsi, hall⟩, kj, hkj, _, hallj⟩
    rw [pr5.length, List.take_length] at hall hallj
    refine ⟨_, rfl, _, rfl, (by show 2 ≤ sizeLine; decide), fun p6 hp6 => ?_⟩
    have e6 := Evl.Ex.new (o := .tup [V.ref fd0, V.ref jd]) hp6
    refine q p6 (.ref fd0) (.ref jd) _ (e5.trans e6) upd_same ⟨fd0, kf, rfl, e6 _ _ hkf, fun a b ha hb hbn => ?_⟩ ⟨jd, kj, rfl, e6 _ _ hkj, fun a b ha hb hbn => ?_⟩
    · by_cases c : a = b
      · subst c
        have eb : bestV pp tp side a a = some 0 := (bestV_some hside).mpr (by
          rw [GD_self]
          exact ⟨⟨_, List.mem_singleton_self _, rfl⟩, fun t ht => by rw [List.mem_singleton.mp ht]; exact Int.le_refl _⟩)
        rw [hsi a ha hbn, eb]
        rfl
      · exact hall a b (mem_sl.mpr ⟨ha, by omega, hbn⟩)
    · obtain ⟨l, h1, h2⟩ := hallj a b (mem_sl.mpr ⟨ha, hb, hbn⟩)
      exact ⟨l, h1, e6 _ _ h2⟩
  rintro i v5 σ H5 hi ⟨e5, hp5, pr5, ⟨y1, y2, y3, y4, y5, y6, rfl⟩, ⟨kf, hkf, hkfl, hsi, hall⟩, kj, hkj, hkjl, hallj⟩
  obtain ⟨⟨a, b⟩, hab, q1, rfl, hq1⟩ := paired_get pr5 hi
  obtain ⟨ha, hb, hbn⟩ := mem_sl.mp (List.mem_of_getElem? hab)
  have hil := (List.getElem?_eq_some_iff.mp hab).1
  have look : ∀ a' b', 1 ≤ a' → a' ≤ b' → b' ≤ n → b' - a' < b - a → valV kf (key2 a' b') = some (optV (bestV pp tp side a' b')) := fun a' b' h1 h2 h3 h4 => by
    by_cases c : a' = b'
    · subst c
      have eb : bestV pp tp side a' a' = some 0 := (bestV_some hside).mpr (by
        rw [GD_self]
        exact ⟨⟨_, List.mem_singleton_self _, rfl⟩, fun t ht => by rw [List.mem_singleton.mp ht]; exact Int.le_refl _⟩)
      rw [hsi a' h1 h3, eb]
      rfl
    · exact hall a' b' (sl_before hab h1 (by omega) h3 h4)
  refine gtup2 rfl hq1 ?_
  refine fun sd hsd => ?_
  have e6 := Evl.Ex.new (o := .dK []) hsd
  obtain ⟨pt, kt, rfl, hpt, hkt⟩ := id ht
  obtain ⟨l, hl1, hl2⟩ := hkt a b ha hb hbn
  refine ⟨_, rfl, _, rfl, _, rfl, (by show 2 ≤ sizeLine; decide), fun p7 hp7 => ?_⟩
  have e7 := e6.trans (Evl.Ex.new (o := .tup [V.int (a : Int), V.int (b : Int)]) hp7)
  have e57 := e5.trans e7
  refine ⟨pt, _, rfl, by rw [← hl1]; exact DGet.t (k := key2 a b) (e57 _ _ hpt) upd_same, l, rfl, ⟨_, SqL.of (e57 _ _ hl2)⟩, ?_⟩
  have hsd7 : (upd (upd H5 sd (.dK [])) p7 (.tup [V.int (a : Int), V.int (b : Int)])) sd = some (.dK []) := Evl.Ex.new (o := .tup [V.int (a : Int), V.int (b : Int)]) hp7 _ _ upd_same
  refine for_list (K := K) (xs := (tp a b).map fun j : Nat => V.int j) (fun m σ H' => Ex H5 H' ∧ (∃ y4 y5 y6, σ = [some (.ref x), some (.ref pt), some (.int side), some (.ref fd0), some (.ref jd), some (.int a), some (.int b), some (.ref sd), y4, y5, y6, none, none]) ∧ H' sd = some (.dK (kvI (sumsT pp tp side a b m))))
    ⟨e7, ⟨_, _, _, rfl⟩, hsd7⟩ (fun i σ H' _ h => SqL.of (h.1 _ _ (e5 _ _ hl2))) ?_ ?_
  · rintro m v8 σ H8 hm ⟨e8, ⟨y4, y5, y6, rfl⟩, hs8⟩
    rw [List.getElem?_map] at hm
    cases hj : (tp a b)[m]? with
    | none => rw [hj] at hm; cases hm
    | some j =>
      rw [hj] at hm
      obtain rfl := Option.some.inj hm
      obtain ⟨hj1, hj2⟩ := ok a b j (List.mem_of_getElem? hj)
      have hml := (List.getElem?_eq_some_iff.mp hj).1
      have hsm := sm a b
      have hf8 := e8 _ _ hkf
      refine ⟨_, rfl, _, rfl, _, rfl, (by show 2 ≤ sizeLine; decide), fun p9 hp9 => ?_⟩
      have e9 := Evl.Ex.new (o := .tup [V.int (a : Int), V.int (j : Int)]) hp9
      refine ⟨fd0, _, rfl, by rw [← look a j ha hj1 (by omega) (by omega)]; exact DGet.t (k := key2 a j) (e9 _ _ hf8) upd_same, ?_⟩
      refine ⟨_, rfl, _, rfl, _, _, rfl, rfl, _, rfl, (by show 2 ≤ sizeLine; decide), fun p10 hp10 => ?_⟩
      have e10 := e9.trans (Evl.Ex.new (o := .tup [V.int ((j : Int) + 1), V.int (b : Int)]) hp10)
      refine ⟨fd0, _, rfl, by rw [← look (j + 1) b (by omega) (by omega) hbn (by omega)]; exact DGet.t (k := key2 (j + 1) b) (e10 _ _ hf8) upd_same, _, _, rfl, ?_⟩
      have hs10 := e10 _ _ hs8
      have nochange : sumJ (bestV pp tp side) pp a b j = none → sumsT pp tp side a b (m + 1) = sumsT pp tp side a b m := fun h => by
        unfold sumsT
        rw [take_more hj, List.filterMap_append]
        have : [j].filterMap (fun j => (sumJ (bestV pp tp side) pp a b j).map fun z => (j, z)) = [] := by
          rw [List.filterMap_cons, h]
          rfl
        rw [this, List.append_nil]
      refine ⟨_, rfl, rfl, _, rfl, ?_⟩
      cases b1 : bestV pp tp side a j with
      | none =>
        refine ifF rfl (ifF rfl ⟨e8.trans e10, ⟨_, _, _, rfl⟩, ?_⟩)
        rw [nochange (by unfold sumJ; rw [b1])]
        exact hs10
      | some z1 =>
        refine ifT rfl ⟨_, rfl, rfl, _, rfl, ?_⟩
        cases b2 : bestV pp tp side (j + 1) b with
        | none =>
          refine ifF rfl ⟨e8.trans e10, ⟨_, _, _, rfl⟩, ?_⟩
          rw [nochange (by unfold sumJ; rw [b1, b2])]
          exact hs10
        | some z2 =>
          refine ifT rfl ?_
          obtain ⟨x4, dx4, sz4, sw4, sp4, hxx, hx4, pd, kp, rfl, hpd, hkp⟩ := hh.ex ((e5.trans e8).trans e10)
          obtain rfl := V.ref.inj hxx
          refine ⟨_, rfl, _, rfl, _, _, rfl, rfl, ?_⟩
          refine ⟨_, rfl, x, _, dx4, _, _, rfl, hx4, T.cP, T.nt_own_pairs, pairs_of, _, rfl, _, rfl, _, rfl, (by show 3 ≤ sizeLine; decide), fun p11 hp11 => ?_⟩
          have e11 := Evl.Ex.new (o := .tup [V.int (a : Int), V.int (j : Int), V.int (b : Int)]) hp11
          refine ⟨pd, _, rfl, by rw [← hkp a j b ha hj1 hj2 hbn]; exact DGet.t (k := key3 a j b) (e11 _ _ hpd) upd_same, ?_⟩
          have hs11 := e11 _ _ hs10
          have hnew : valV (kvI (sumsT pp tp side a b m)) (.inl (j : Int)) = none := valV_kvI_none fun z hz e => by
            unfold sumsT at hz
            obtain ⟨j', hj', hz'⟩ := List.mem_filterMap.mp hz
            obtain ⟨zz, hzz, e2⟩ := Option.map_eq_some_iff.mp hz'
            have ej : j' = j := by rw [← e, ← e2]
            rw [ej] at hj'
            obtain ⟨i', hi', he'⟩ := List.mem_iff_getElem.mp hj'
            rw [List.length_take] at hi'
            rw [List.getElem_take] at he'
            have hjm : (tp a b)[m] = j := by
              rw [List.getElem?_eq_getElem hml] at hj
              exact Option.some.inj hj
            exact List.pairwise_iff_getElem.mp (nd a b) i' m (by omega) hml (by omega) (by rw [he', hjm])
          have hstep : kvI (sumsT pp tp side a b (m + 1)) = kvI (sumsT pp tp side a b m) ++ [((.inl (j : Int) : Key), V.int (z1 + z2 + pp a j b))] := by
            unfold sumsT
            rw [take_more hj, List.filterMap_append]
            have : [j].filterMap (fun j => (sumJ (bestV pp tp side) pp a b j).map fun z => (j, z)) = [(j, z1 + z2 + pp a j b)] := by
              have e : sumJ (bestV pp tp side) pp a b j = some (z1 + z2 + pp a j b) := by unfold sumJ; rw [b1, b2]
              rw [List.filterMap_cons, e]
              rfl
            rw [this]
            unfold kvI
            rw [List.map_append]
            rfl
          have hlen : (kvI (sumsT pp tp side a b m)).length < 100000 := by
            unfold kvI sumsT
            rw [List.length_map]
            refine Nat.lt_of_le_of_lt (List.length_filterMap_le _ _) ?_
            rw [List.length_take]
            omega
          refine ⟨_, _, rfl, rfl, _, rfl, _, rfl, sd, _, rfl, DPut.k (k := (.inl (j : Int) : Key)) hs11 (sz_lt' hlen), ?_⟩
          refine ⟨?_, ⟨_, _, _, rfl⟩, ?_⟩
          · exact Evl.Ex.mut ((e8.trans e10).trans e11) hsd
          · rw [upd_same, hstep, putK_new _ hnew]
  rintro σ H8 ⟨e8, ⟨y4, y5, y6, rfl⟩, hs8⟩
  rw [List.length_map] at hs8
  have hsm := sm a b
  have esum : sumsT pp tp side a b (tp a b).length = sumsL pp tp side a b := by unfold sumsT sumsL; rw [List.take_length]
  rw [esum] at hs8
  have hsl : (sumsL pp tp side a b).length < 100000 := by
    unfold sumsL
    exact Nat.lt_of_le_of_lt (List.length_filterMap_le _ _) (by omega)
  have hkl : (kvI (sumsL pp tp side a b)).length = (sumsL pp tp side a b).length := by unfold kvI; rw [List.length_map]
  have hf8 := e8 _ _ hkf
  have hj8 := e8 _ _ hkj
  have hsf : sd ≠ fd0 := fun z => by rw [z, hkf] at hsd; cases hsd
  have hsj : sd ≠ jd := fun z => by rw [z, hkj] at hsd; cases hsd
  -- found[first, last] = ..
  dsimp only
  refine seqCut (fun σ H9 => (∃ y4 y5 y6, σ = [some (.ref x), some (.ref pt), some (.int side), some (.ref fd0), some (.ref jd), some (.int a), some (.int b), some (.ref sd), y4, y5, y6, none, none]) ∧ ∃ Hm, Ex H8 Hm ∧ H9 = upd Hm fd0 (.dT (putK kf (key2 a b) (optV (bestV pp tp side a b))))) (fun D' key => ?_) ?_
  · dsimp only [sDPut]
    refine teCut (fun v Hm => Ex H8 Hm ∧ v = optV (bestV pp tp side a b)) (fun Q k2 => ?_) ?_
    · refine ⟨_, rfl, sd, _, rfl, hs8, _, _, rfl, rfl, _, rfl, ?_⟩
      have sm1 : ∀ j : Int, CMul side j := fun j => .inl (by rcases hside with e | e <;> (rw [e]; exact ⟨by decide, by decide⟩))
      have hbest := best_rec (pp := pp) hside ok hb
      by_cases c : sumsL pp tp side a b = []
      · rw [c] at hbest
        refine ifF (by rw [hkl, c]; rfl) ?_
        exact k2 _ _ ⟨exr _, by rw [hbest]; rfl⟩
      · refine ifT (decide_eq_true (by rw [hkl]; have := List.length_pos_iff.mpr c; omega)) ?_
        refine ⟨_, rfl, sd, _, hs8, trivial, fun od => ?_⟩
        refine ⟨_, rfl, sd, od, _, rfl, upd_same, fun D hD => ?_⟩
        refine lc_map (γ := Int) (fun z : Nat × Int => side * z.2) (src_vals upd_same) monoT_int hsl (fun i z v H9 hz e9 r9 Ky ky => ?_) gm_name hD fun ys H9 e9 hy py => ?_
        · obtain rfl : v = .int z.2 := r9
          exact ⟨rfl, _, rfl, _, rfl, _, _, rfl, rfl, sm1 _, ky _ _ (exr _) rfl⟩
        · have ey := paired_int py
          have h9 := e9 _ _ upd_same
          have eback : Ex H8 (upd H9 sd (.dK (kvI (sumsL pp tp side a b)))) := fun z o h => by
            by_cases cz : z = sd
            · rw [cz] at h ⊢
              rw [upd_same, ← hs8, h]
            · rw [upd_ne cz]
              exact e9 _ _ (by rw [upd_ne cz]; exact h)
          have hDs : D ≠ sd := fun z => by rw [z, upd_same] at hD; cases hD
          refine ⟨h9, D, _, rfl, by rw [← ey]; exact SqL.of (by rw [upd_ne hDs]; exact hy), by rw [List.length_map]; exact List.length_pos_iff.mpr c, fun m hm hmin => ?_⟩
          refine ⟨_, _, rfl, rfl, sm1 _, k2 _ _ ⟨eback, ?_⟩⟩
          rw [hbest, lmin_some.mpr ⟨hm, hmin⟩]
          rfl
    rintro v Hm ⟨e9, rfl⟩
    refine ⟨_, rfl, _, rfl, _, rfl, (by show 2 ≤ sizeLine; decide), fun p12 hp12 => ?_⟩
    have e12 := e9.trans (Evl.Ex.new (o := .tup [V.int (a : Int), V.int (b : Int)]) hp12)
    exact ⟨fd0, _, rfl, DPut.t (k := key2 a b) (e12 _ _ hf8) upd_same (sz_lt' (by omega)), key _ _ ⟨⟨_, _, _, rfl⟩, _, e12, rfl⟩⟩
  rintro σ H9 ⟨⟨y4, y5, y6, rfl⟩, Hm, e9, rfl⟩
  -- joins[first, last] = ..
  have ks : ∀ z o, z ≠ fd0 → H8 z = some o → upd Hm fd0 (.dT (putK kf (key2 a b) (optV (bestV pp tp side a b)))) z = some o := fun z o hz h => by
    rw [upd_ne hz]
    exact e9 _ _ h
  have hs9 := ks _ _ hsf hs8
  have hj9 := ks _ _ (fun z => hfj z.symm) hj8
  refine ⟨sd, _, hs9, trivial, fun od => ?_⟩
  refine ⟨_, rfl, sd, od, rfl, .inl ⟨_, upd_same, fun D hD => ?_⟩⟩
  refine lc_src (γ := Nat) (fun z : Nat × Int => decide (bestV pp tp side a b = some z.2)) (fun z : Nat × Int => z.1) (src_keys upd_same) monoT_nat hsl (fun i10 z v H10 hz e10 hv Ky Kn ky kn => ?_) hD fun ys H10 e10 hy py => ?_
  · obtain rfl : v = .int (z.1 : Nat) := hv
    have hzm := List.mem_of_getElem? hz
    have hbz : ∃ m, bestV pp tp side a b = some m := by
      rw [best_rec hside ok hb]
      cases hl : lmin ((sumsL pp tp side a b).map fun z => side * z.2) with
      | none =>
        have z2 := List.map_eq_nil_iff.mp (lmin_none.mp hl)
        rw [z2] at hzm
        cases hzm
      | some m => exact ⟨_, rfl⟩
    obtain ⟨mb, hmb⟩ := hbz
    have hfd10 : (upd (upd Hm fd0 (.dT (putK kf (key2 a b) (optV (bestV pp tp side a b))))) sd (.frz od (.dK (kvI (sumsL pp tp side a b))))) fd0 = some (.dT (putK kf (key2 a b) (optV (bestV pp tp side a b)))) := by
      rw [upd_ne (fun z => hsf z.symm), upd_same]
    refine ⟨rfl, _, rfl, _, rfl, sd, _, rfl, .inl ⟨_, (.inl (z.1 : Int) : Key), .inr ⟨od, e10 _ _ upd_same⟩, rfl, (valV_kvI hzm (sumsL_nd (nd a b))).symm⟩, ?_⟩
    refine ⟨_, rfl, _, rfl, _, rfl, (by show 2 ≤ sizeLine; decide), fun p13 hp13 => ?_⟩
    have e13 := Evl.Ex.new (o := .tup [V.int (a : Int), V.int (b : Int)]) hp13
    refine ⟨fd0, _, rfl, DGet.t (k := key2 a b) (e13 _ _ (e10 _ _ hfd10)) upd_same |> fun d => by rw [valV_put, if_pos rfl] at d; exact d, ?_⟩
    rw [hmb]
    refine ⟨rfl, _, rfl, ite2 (fun c => ?_) (fun c => ?_)⟩
    · have c1 : V.int z.2 = V.int mb := of_decide_eq_true c
      injection c1 with c2
      exact ⟨_, rfl, ky (by rw [hmb, c2]; exact decide_eq_true rfl) _ _ e13 rfl⟩
    · have c1 : ¬ V.int z.2 = V.int mb := of_decide_eq_false (Bool.eq_false_iff.mpr c)
      exact kn (by rw [hmb]; exact decide_eq_false (fun e => c1 (by injection e with e; rw [e]))) _ e13
  have hl10 := e10 _ _ upd_same
  have eB : ((sumsL pp tp side a b).filter fun z => decide (bestV pp tp side a b = some z.2)).map (fun z => z.1) = tpB pp tp side a b := sums_tpB (sumJ (bestV pp tp side) pp a b) _ _
  rw [eB] at py
  have ey := paired_nat py
  refine ⟨hl10, ?_⟩
  have ks2 : ∀ z o, z ≠ fd0 → H8 z = some o → upd H10 sd (.dK (kvI (sumsL pp tp side a b))) z = some o := fun z o hz h => by
    by_cases cz : z = sd
    · rw [cz] at h ⊢
      rw [upd_same, ← hs8, h]
    · rw [upd_ne cz]
      exact e10 _ _ (by rw [upd_ne cz]; exact ks z o hz h)
  have hf11 : upd H10 sd (.dK (kvI (sumsL pp tp side a b))) fd0 = some (.dT (putK kf (key2 a b) (optV (bestV pp tp side a b)))) := by
    rw [upd_ne (fun z => hsf z.symm)]
    exact e10 _ _ (by rw [upd_ne (fun z => hsf z.symm), upd_same])
  have hDs : D ≠ sd := fun z => by rw [z, upd_same] at hD; cases hD
  have hD11 : upd H10 sd (.dK (kvI (sumsL pp tp side a b))) D = some (.lst ((tpB pp tp side a b).map fun j : Nat => V.int j)) := by
    rw [upd_ne hDs, hy, ey]
  have hj11 := ks2 _ _ (fun z => hfj z.symm) hj8
  refine ⟨_, rfl, _, rfl, _, rfl, (by show 2 ≤ sizeLine; decide), fun p14 hp14 => ?_⟩
  have e14 := Evl.Ex.new (o := .tup [V.int (a : Int), V.int (b : Int)]) hp14
  have hj14 := e14 _ _ hj11
  refine ⟨jd, _, rfl, DPut.t (k := key2 a b) hj14 upd_same (sz_lt' (by omega)), ?_⟩
  have ks3 : ∀ z o, z ≠ fd0 → z ≠ jd → H5 z = some o → upd (upd (upd H10 sd (.dK (kvI (sumsL pp tp side a b)))) p14 (.tup [V.int (a : Int), V.int (b : Int)])) jd (.dT (putK kj (key2 a b) (.ref D))) z = some o := fun z o hz hz2 h => by
    rw [upd_ne hz2]
    exact e14 _ _ (ks2 z o hz (e8 _ _ h))
  have oldf : ∀ z o, H z = some o → z ≠ fd0 := fun z o h c => by
    rw [c] at h
    have := e1 _ _ h
    rw [hfd] at this
    cases this
  have oldj : ∀ z o, H z = some o → z ≠ jd := fun z o h c => by
    rw [c] at h
    have := e02 _ _ h
    rw [hjd] at this
    cases this
  have tupf : ∀ z xs, H5 z = some (.tup xs) → z ≠ fd0 ∧ z ≠ jd := fun z xs h => ⟨fun c => (by rw [c, hkf] at h; cases h), fun c => (by rw [c, hkj] at h; cases h)⟩
  have lstf : ∀ z xs, H5 z = some (.lst xs) → z ≠ fd0 ∧ z ≠ jd := fun z xs h => ⟨fun c => (by rw [c, hkf] at h; cases h), fun c => (by rw [c, hkj] at h; cases h)⟩
  refine ⟨fun z o h => ks3 z o (oldf z o h) (oldj z o h) (e5 _ _ h), ks3 _ _ (lstf _ _ hp5).1 (lstf _ _ hp5).2 hp5, Paired.mapP pr5 fun v z ⟨q, hv, hq⟩ => ⟨q, hv, ks3 _ _ (tupf _ _ hq).1 (tupf _ _ hq).2 hq⟩, ⟨_, _, _, _, _, _, rfl⟩, ⟨_, by rw [upd_ne hfj]; exact e14 _ _ hf11, ?_, fun a' h1 h2 => ?_, fun a' b' hm => ?_⟩, _, upd_same, ?_, fun a' b' hm => ?_⟩
  · exact Nat.le_trans (length_putK _ _ _) (by omega)
  · rw [valV_put, if_neg (fun c => by obtain ⟨z1, z2⟩ := key2_inj c; omega)]
    exact hsi a' h1 h2
  · rw [take_more hab, List.mem_append] at hm
    rw [valV_put]
    by_cases c : key2 a' b' = key2 a b
    · obtain ⟨rfl, rfl⟩ := key2_inj c
      rw [if_pos rfl]
    · rw [if_neg c]
      rcases hm with hm | hm
      · exact hall a' b' hm
      · have z : (a', b') = (a, b) := by simpa using hm
        injection z with z1 z2
        exact absurd (by rw [z1, z2]) c
  · exact Nat.le_trans (length_putK _ _ _) (by omega)
  · rw [take_more hab, List.mem_append] at hm
    rw [valV_put]
    by_cases c : key2 a' b' = key2 a b
    · obtain ⟨rfl, rfl⟩ := key2_inj c
      have hDj : D ≠ jd := fun z => by
        rw [z, hj11] at hD11
        cases hD11
      exact ⟨D, if_pos rfl, by rw [upd_ne hDj]; exact e14 _ _ hD11⟩
    · rw [if_neg c]
      rcases hm with hm | hm
      · obtain ⟨l', h1, h2⟩ := hallj a' b' hm
        exact ⟨l', h1, ks3 _ _ (lstf _ _ h2).1 (lstf _ _ h2).2 h2⟩
      · have z : (a', b') = (a, b) := by simpa using hm
        injection z with z1 z2
        exact absurd (by rw [z1, z2]) c
end RG

set_option Elab.async false
set_option linter.all false
set_option maxRecDepth 100000
set_option maxHeartbeats 400000
namespace RG
open PySem PySem.Spec PyProof.Rows L2
variable {P : Program} {w : World} {K : PySem.W.Frag} {mg : Str → Option Value} {base : Heap}
/-! ### least, greatest -/
/-- limits that are kept, by as many rows as there are joins -/
def LimOk (n : Nat) (lo hi : Option Tr) (l : List (Nat × Nat)) : Prop := limF n lo hi = .ok l ∧ l.length + 1 = n
def spEnd (K : PySem.W.Frag) (side : Int) : Sp := fun vs H Q _ => ∃ (n : Nat) (lo hi : Option Tr) (l : List (Nat × Nat)) (sv lv hv : V) (pp : Nat → Nat → Nat → Int), vs = [sv, lv, hv] ∧ 1 ≤ n ∧ n ≤ 40 ∧ HostAt K H sv n pp ∧ OpT K H lv lo ∧ OpT K H hv hi ∧ LimOk n lo hi l ∧
  ∀ H', Ex H H' → Q (optV (bestV pp (tpL l) side 1 n)) H'
theorem ok_least (T : Txt K mg) (M_tops2 : MetOk P w K mg base (L2.CX P w) "tops" p_P_tops [] 38 (spTops K)) (M_best2 : MetOk P w K mg base CX0 "best" p_P_best [] 2 (spBest K)) :
    ∃ fd, FunD K "least" "Prices.least" (defArgs s_P_least) (defBody s_P_least) (defScope s_P_least) (d_P_least.dvs K) (d_P_least.kws K) (He.fAd K ("Prices", some "least")) fd ∧ FnOk P w K mg base CX0 39 (He.fAd K ("Prices", some "least")) fd p_P_least (spEnd K 1) := by
  obtain ⟨fd, F⟩ := T.F_P_least
  refine ⟨fd, F, F.ok sc_P_least (fun vs H Q E h => ?_) fun cdv A outer s H vs Q E hr h => ?_⟩
  · obtain ⟨n, lo, hi, l, sv, lv, hv, pp, rfl, _⟩ := h
    rfl
  obtain ⟨n, lo, hi, l, sv, lv, hv, pp, rfl, hn1, hn, hh, hlo, hhi, hl, q⟩ := h
  refine ⟨_, PSs.nox (pss_one (ps_ret (pe_dget (hu_of hr) (pe_ix (r := rIxT K) ix_tup (pe_md (K := K) (pv 0) T.cP M_best2 (hr.mono (by omega)) pass0 (pa_cons (pe_md (K := K) (pv 0) T.cP M_tops2 (hr.mono (by omega)) passL (pa_cons (pv 1) (pa_cons (pv 2) pa_nil))) (pa_cons pe_int pa_nil))) pe_int (fun _ _ => rfl)) (pe_tup (pa_cons pe_int (pa_cons (pe_fldK (K := K) (pv 0)) pa_nil))) (fun _ _ => rfl)))), ?_⟩
  obtain ⟨x, dx, s, w, d, rfl, hx, hp⟩ := id hh
  refine ⟨_, rfl, x, dx, _, rfl, hx, nometh (by decide +kernel), _, rfl, x, dx, _, rfl, hx, nometh (by decide +kernel), _, rfl, _, rfl, n, lo, hi, _, lv, hv, pp, rfl, hn1, hn, hh, hlo, hhi, ?_⟩
  rw [hl.1]
  refine ⟨hl.2, fun tv H1 e1 ht => ⟨n, _, tv, 1, pp, tpL l, rfl, hn1, hn, hh.ex e1, ht, tpL_ok l, tpL_sm l, tpL_nd l, .inl rfl, fun p fv jv H2 e2 hp2 hb2 hj2 => ?_⟩⟩
  obtain ⟨pf, kf, rfl, hpf, hkf⟩ := hb2
  refine ⟨p, _, 0, _, rfl, rfl, SqT.of hp2, rfl, ?_⟩
  obtain ⟨x3, dx3, s3, w3, d3, hxx, hx3, _⟩ := hh.ex (e1.trans e2)
  obtain rfl := V.ref.inj hxx
  refine ⟨_, rfl, x, _, dx3, _, _, rfl, hx3, T.cP, T.nt_own_factors, own_of, (by show 2 ≤ sizeLine; decide), fun p4 hp4 => ?_⟩
  have e4 := Evl.Ex.new (o := .tup [V.int 1, V.int (n : Int)]) hp4
  exact ⟨pf, _, rfl, by rw [← hkf 1 n (Nat.le_refl _) hn1 (Nat.le_refl _)]; exact DGet.t (k := key2 1 n) (e4 _ _ hpf) upd_same, q _ ((e1.trans e2).trans e4)⟩
theorem ok_greatest (T : Txt K mg) (M_tops2 : MetOk P w K mg base (L2.CX P w) "tops" p_P_tops [] 38 (spTops K)) (M_best2 : MetOk P w K mg base CX0 "best" p_P_best [] 2 (spBest K)) :
    ∃ fd, FunD K "greatest" "Prices.greatest" (defArgs s_P_greatest) (defBody s_P_greatest) (defScope s_P_greatest) (d_P_greatest.dvs K) (d_P_greatest.kws K) (He.fAd K ("Prices", some "greatest")) fd ∧ FnOk P w K mg base CX0 39 (He.fAd K ("Prices", some "greatest")) fd p_P_greatest (spEnd K (-1)) := by
  obtain ⟨fd, F⟩ := T.F_P_greatest
  refine ⟨fd, F, F.ok sc_P_greatest (fun vs H Q E h => ?_) fun cdv A outer s H vs Q E hr h => ?_⟩
  · obtain ⟨n, lo, hi, l, sv, lv, hv, pp, rfl, _⟩ := h
    rfl
  obtain ⟨n, lo, hi, l, sv, lv, hv, pp, rfl, hn1, hn, hh, hlo, hhi, hl, q⟩ := h
  refine ⟨_, PSs.nox (pss_one (ps_ret (pe_dget (hu_of hr) (pe_ix (r := rIxT K) ix_tup (pe_md (K := K) (pv 0) T.cP M_best2 (hr.mono (by omega)) pass0 (pa_cons (pe_md (K := K) (pv 0) T.cP M_tops2 (hr.mono (by omega)) passL (pa_cons (pv 1) (pa_cons (pv 2) pa_nil))) (pa_cons (pe_un un_neg pe_int) pa_nil))) pe_int (fun _ _ => rfl)) (pe_tup (pa_cons pe_int (pa_cons (pe_fldK (K := K) (pv 0)) pa_nil))) (fun _ _ => rfl)))), ?_⟩
  obtain ⟨x, dx, s, w, d, rfl, hx, hp⟩ := id hh
  refine ⟨_, rfl, x, dx, _, rfl, hx, nometh (by decide +kernel), _, rfl, x, dx, _, rfl, hx, nometh (by decide +kernel), _, rfl, _, rfl, n, lo, hi, _, lv, hv, pp, rfl, hn1, hn, hh, hlo, hhi, ?_⟩
  rw [hl.1]
  refine ⟨hl.2, fun tv H1 e1 ht => ⟨_, rfl, n, _, tv, -1, pp, tpL l, rfl, hn1, hn, hh.ex e1, ht, tpL_ok l, tpL_sm l, tpL_nd l, .inr rfl, fun p fv jv H2 e2 hp2 hb2 hj2 => ?_⟩⟩
  obtain ⟨pf, kf, rfl, hpf, hkf⟩ := hb2
  refine ⟨p, _, 0, _, rfl, rfl, SqT.of hp2, rfl, ?_⟩
  obtain ⟨x3, dx3, s3, w3, d3, hxx, hx3, _⟩ := hh.ex (e1.trans e2)
  obtain rfl := V.ref.inj hxx
  refine ⟨_, rfl, x, _, dx3, _, _, rfl, hx3, T.cP, T.nt_own_factors, own_of, (by show 2 ≤ sizeLine; decide), fun p4 hp4 => ?_⟩
  have e4 := Evl.Ex.new (o := .tup [V.int 1, V.int (n : Int)]) hp4
  exact ⟨pf, _, rfl, by rw [← hkf 1 n (Nat.le_refl _) hn1 (Nat.le_refl _)]; exact DGet.t (k := key2 1 n) (e4 _ _ hpf) upd_same, q _ ((e1.trans e2).trans e4)⟩
/-! ### the cheapest's joins -/
def CheapQ (K : PySem.W.Frag) (n : Nat) (pp : Nat → Nat → Nat → Int) (H : Hp) (Q : VK) (E : XK) : Except Bad (List (Nat × Nat)) → Prop
  | .error b => ∀ H', Ex H H' → E (EBad K b) none H'
  | .ok l => l.length + 1 = n ∧ ∀ v H', Ex H H' → TopsAt H' v n (tpB pp (tpL l) 1) → Q v H'
def spCheapTops (K : PySem.W.Frag) : Sp := fun vs H Q E => ∃ (n : Nat) (lo hi : Option Tr) (sv lv hv : V) (pp : Nat → Nat → Nat → Int), vs = [sv, lv, hv] ∧ 1 ≤ n ∧ n ≤ 40 ∧ HostAt K H sv n pp ∧ OpT K H lv lo ∧ OpT K H hv hi ∧ CheapQ K n pp H Q E (limF n lo hi)
theorem ok_cheapest_tops (T : Txt K mg) (M_tops2 : MetOk P w K mg base (L2.CX P w) "tops" p_P_tops [] 38 (spTops K)) (M_best2 : MetOk P w K mg base CX0 "best" p_P_best [] 2 (spBest K)) :
    MetOk P w K mg base (L2.CX P w) "cheapest_tops" p_P_cheapest_tops [] 39 (spCheapTops K) := by
  obtain ⟨fd, F⟩ := T.F_P_cheapest_tops
  refine ⟨⟨_, fd, [], T.m_cheapest_tops, F.bindsN (ps := p_P_cheapest_tops) (fun _ _ _ _ _ _ us hl => match us, hl with | [_, _, _], _ => rfl), .nil, F.ok sc_P_cheapest_tops (fun vs H Q E h => ?_) fun cdv A outer s H vs Q E hr h => ?_⟩⟩
  · obtain ⟨n, lo, hi, sv, lv, hv, pp, rfl, _⟩ := h
    rfl
  obtain ⟨n, lo, hi, sv, lv, hv, pp, rfl, hn1, hn, hh, hlo, hhi, q⟩ := h
  refine ⟨_, (pss_one (ps_ret (pe_ix (r := rIxT K) ix_tup (pe_md (K := K) (pv 0) T.cP M_best2 (hr.mono (by omega)) pass0 (pa_cons (pe_md (K := K) (pv 0) T.cP M_tops2 (hr.mono (by omega)) (passes_call (takes_of rfl rfl rfl rfl) (fun _ _ _ _ h => h)) (pa_cons (pv 1) (pa_cons (pv 2) pa_nil))) (pa_cons pe_int pa_nil))) pe_int (fun _ _ => rfl)))), ?_⟩
  obtain ⟨x, dx, s, w, d, rfl, hx, hp⟩ := id hh
  refine ⟨_, rfl, x, dx, _, rfl, hx, nometh (by decide +kernel), _, rfl, x, dx, _, rfl, hx, nometh (by decide +kernel), _, rfl, _, rfl, n, lo, hi, _, lv, hv, pp, rfl, hn1, hn, hh, hlo, hhi, ?_⟩
  cases hl : limF n lo hi with
  | error b =>
    rw [hl] at q
    exact q
  | ok l =>
    rw [hl] at q
    refine ⟨q.1, fun tv H1 e1 ht => ⟨n, _, tv, 1, pp, tpL l, rfl, hn1, hn, hh.ex e1, ht, tpL_ok l, tpL_sm l, tpL_nd l, .inl rfl, fun p fv jv H2 e2 hp2 hb2 hj2 => ?_⟩⟩
    exact ⟨p, _, 1, _, rfl, rfl, SqT.of hp2, rfl, q.2 _ _ (e1.trans e2) hj2⟩
theorem bd6 {tp : Nat → Nat → List Nat} {n : Nat} (ok : TpOk tp) (sm : TpSm tp) (hn : n ≤ 6) : Bd tp n := fun a b ha hab hbn => Nat.le_trans (GD_le ok sm 5 a b hab (by omega)) (by decide +kernel)
def spHowMany (K : PySem.W.Frag) : Sp := fun vs H Q _ => ∃ (n : Nat) (lo hi : Option Tr) (l : List (Nat × Nat)) (sv lv hv : V) (pp : Nat → Nat → Nat → Int), vs = [sv, lv, hv] ∧ 1 ≤ n ∧ n ≤ 6 ∧ HostAt K H sv n pp ∧ OpT K H lv lo ∧ OpT K H hv hi ∧ LimOk n lo hi l ∧
  ∀ H', Ex H H' → Q (.int (lenG (tpB pp (tpL l) 1) 1 n)) H'
theorem ok_how_many (T : Txt K mg) (M_cheapest_tops2 : MetOk P w K mg base (L2.CX P w) "cheapest_tops" p_P_cheapest_tops [] 39 (spCheapTops K)) (D_counted : DefOk P w K mg base CX0 "counted" p_counted 2 spCounted) :
    ∃ fd, FunD K "how_many" "Prices.how_many" (defArgs s_P_how_many) (defBody s_P_how_many) (defScope s_P_how_many) (d_P_how_many.dvs K) (d_P_how_many.kws K) (He.fAd K ("Prices", some "how_many")) fd ∧ FnOk P w K mg base CX0 40 (He.fAd K ("Prices", some "how_many")) fd p_P_how_many (spHowMany K) := by
  obtain ⟨fd, F⟩ := T.F_P_how_many
  refine ⟨fd, F, F.ok sc_P_how_many (fun vs H Q E h => ?_) fun cdv A outer s H vs Q E hr h => ?_⟩
  · obtain ⟨n, lo, hi, l, sv, lv, hv, pp, rfl, _⟩ := h
    rfl
  obtain ⟨n, lo, hi, l, sv, lv, hv, pp, rfl, hn1, hn, hh, hlo, hhi, hl, q⟩ := h
  refine ⟨_, PSs.nox (pss_one (ps_ret (pe_dget (hu_of hr) (pe_d D_counted (hr.mono (by omega)) pass0 (pa_cons (pe_fldK (K := K) (pv 0)) (pa_cons (pe_md (K := K) (pv 0) T.cP M_cheapest_tops2 (hr.mono (by omega)) passL (pa_cons (pv 1) (pa_cons (pv 2) pa_nil))) pa_nil))) (pe_tup (pa_cons pe_int (pa_cons (pe_fldK (K := K) (pv 0)) pa_nil))) (fun _ _ => rfl)))), ?_⟩
  obtain ⟨x, dx, s, w, d, rfl, hx, hp⟩ := id hh
  refine ⟨_, rfl, x, _, dx, _, _, rfl, hx, T.cP, T.nt_own_factors, own_of, _, rfl, x, dx, _, rfl, hx, nometh (by decide +kernel), _, rfl, _, rfl, n, lo, hi, _, lv, hv, pp, rfl, hn1, by omega, hh, hlo, hhi, ?_⟩
  rw [hl.1]
  have ok := tpB_ok (pp := pp) (s := 1) (tpL_ok l)
  have sm := tpB_sm (pp := pp) (s := 1) (tpL_sm l)
  refine ⟨hl.2, fun tv H1 e1 ht => ⟨n, tv, _, rfl, by omega, ht, ok, sm, bd6 ok sm hn, fun v H2 e2 hm => ?_⟩⟩
  obtain ⟨pm, km, rfl, hpm, hkm⟩ := hm
  obtain ⟨x3, dx3, s3, w3, d3, hxx, hx3, _⟩ := hh.ex (e1.trans e2)
  obtain rfl := V.ref.inj hxx
  refine ⟨_, rfl, x, _, dx3, _, _, rfl, hx3, T.cP, T.nt_own_factors, own_of, (by show 2 ≤ sizeLine; decide), fun p4 hp4 => ?_⟩
  have e4 := Evl.Ex.new (o := .tup [V.int 1, V.int (n : Int)]) hp4
  exact ⟨pm, _, rfl, by rw [← hkm 1 n (Nat.le_refl _) hn1 (Nat.le_refl _)]; exact DGet.t (k := key2 1 n) (e4 _ _ hpm) upd_same, q _ ((e1.trans e2).trans e4)⟩
end RG

set_option Elab.async false
set_option linter.all false
set_option maxRecDepth 100000
set_option maxHeartbeats 400000
namespace RG
open PySem PySem.Spec PyProof.Rows L2
variable {P : Program} {w : World} {K : PySem.W.Frag} {mg : Str → Option Value} {base : Heap}
/-! ### cheapest -/
/-- NoNumber(e): the exception's dict holds the number -/
def tMkNN (C : Addr) (ta : TA) : L2.St → Hp → XK → Prop := fun σ H Q => ta σ H fun vs H1 => ∃ v, vs = [v] ∧ ∀ d, H1 d = none → Q (.ref C) (some d) (upd H1 d (.xd [(("number" : Str), v)]))
def NnMk (K : PySem.W.Frag) (mg : Str → Option Value) : Prop := ∀ (X : Cx) (a : Expr) (ta : TA) (p pos : Pos), X.K = K → X.mg = mg → Room 1 X.A → Gl X "NoNumber" → PA X [a] ta → starEach [a] X.env = (false, eval a X.env) :: starEach [] X.env → (backTo pos (starEach [] X.env)).any (·.1) = false →
  PMk X (.Call (.Name "NoNumber" p) [a] [] pos) (tMkNN (He.ga K "NoNumber") ta)
def NumQ (K : PySem.W.Frag) (n : Nat) (pp : Nat → Nat → Nat → Int) (k : Int) (H : Hp) (Q : VK) (E : XK) : Except Bad (List (Nat × Nat)) → Prop
  | .error b => ∀ H', Ex H H' → E (EBad K b) none H'
  | .ok l => l.length + 1 = n ∧ (∀ t, 0 ≤ k → (GD (tpB pp (tpL l) 1) 1 n)[k.toNat]? = some t → ∀ v H', Ex H H' → Dp K H' v t.tp → Q v H') ∧
    ((k < 0 ∨ lenG (tpB pp (tpL l) 1) 1 n ≤ k) → ∀ d H', Ex H H' → H' d = none → E (.ref (He.ga K "NoNumber")) (some d) (upd H' d (.xd [(("number" : Str), .int k)])))
def spCheapest (K : PySem.W.Frag) : Sp := fun vs H Q E => ∃ (n : Nat) (k : Int) (lo hi : Option Tr) (sv lv hv : V) (pp : Nat → Nat → Nat → Int), vs = [sv, .int k, lv, hv] ∧ 1 ≤ n ∧ n ≤ 6 ∧ HostAt K H sv n pp ∧ OpT K H lv lo ∧ OpT K H hv hi ∧ NumQ K n pp k H Q E (limF n lo hi)
theorem ok_cheapest (T : Txt K mg) (nn : NnMk K mg) (M_cheapest_tops2 : MetOk P w K mg base (L2.CX P w) "cheapest_tops" p_P_cheapest_tops [] 39 (spCheapTops K)) (D_counted : DefOk P w K mg base CX0 "counted" p_counted 2 spCounted)
    (D_nth_of : DefOk P w K mg base CX0 "nth_of" p_nth_of 6 (spNth K 6)) :
    ∃ fd, FunD K "cheapest" "Prices.cheapest" (defArgs s_P_cheapest) (defBody s_P_cheapest) (defScope s_P_cheapest) (d_P_cheapest.dvs K) (d_P_cheapest.kws K) (He.fAd K ("Prices", some "cheapest")) fd ∧ FnOk P w K mg base (L2.CX P w) 40 (He.fAd K ("Prices", some "cheapest")) fd p_P_cheapest (spCheapest K) := by
  obtain ⟨fd, F⟩ := T.F_P_cheapest
  refine ⟨fd, F, F.ok sc_P_cheapest (fun vs H Q E h => ?_) fun cdv A outer s H vs Q E hr h => ?_⟩
  · obtain ⟨n, k, lo, hi, sv, lv, hv, pp, rfl, _⟩ := h
    rfl
  obtain ⟨n, k, lo, hi, sv, lv, hv, pp, rfl, hn1, hn, hh, hlo, hhi, q⟩ := h
  refine ⟨_, (pss_cons (ps_set (i := 4) sc_P_cheapest.nd rfl (Or.inl rfl) (pe_md (K := K) (pv 0) T.cP M_cheapest_tops2 (hr.mono (by omega)) (passes_call (takes_of rfl rfl rfl rfl) (fun _ _ _ _ h => h)) (pa_cons (pv 2) (pa_cons (pv 3) pa_nil)))) (pss_cons (ps_par (i := 5) (j := 6) rfl sc_P_cheapest.nd rfl rfl (by decide) rfl rfl (pa_cons (pe_d D_counted (hr.mono (by omega)) pass0 (pa_cons (pe_fldK (K := K) (pv 0)) (pa_cons (pv 4) pa_nil))) (pa_cons (pe_tup (pa_cons pe_int (pa_cons (pe_fldK (K := K) (pv 0)) pa_nil))) pa_nil)) (by rfl)) (pss_cons (ps_if (pt_not (pt_chain op_le op_lt pe_int (pv 1) (pe_dget (hu_of hr) (pv 5) (pv 6) (fun _ _ => rfl)))) (pss_one (ps_raise rfl (takes_of rfl rfl rfl rfl) (nn _ _ _ _ _ rfl rfl (hr.mono (by omega)) rfl (pa_cons (pv 1) pa_nil) rfl rfl))) pss_nil) (pss_one (ps_ret (pe_d D_nth_of (hr.mono (by omega)) pass0 (pa_cons (pv 4) (pa_cons (pv 5) (pa_cons (pv 6) (pa_cons (pv 1) pa_nil)))))))))), ?_⟩
  obtain ⟨x, dx, s, w, d, rfl, hx, hp⟩ := id hh
  refine ⟨_, rfl, x, dx, _, rfl, hx, nometh (by decide +kernel), _, rfl, _, rfl, n, lo, hi, _, lv, hv, pp, rfl, hn1, by omega, hh, hlo, hhi, ?_⟩
  cases hl : limF n lo hi with
  | error b =>
    rw [hl] at q
    exact q
  | ok l =>
    rw [hl] at q
    obtain ⟨hll, q1, q2⟩ := q
    refine ⟨hll, fun tv H1 e1 ht => ?_⟩
    have ok := tpB_ok (pp := pp) (s := 1) (tpL_ok l)
    have sm := tpB_sm (pp := pp) (s := 1) (tpL_sm l)
    have bd := bd6 ok sm hn
    obtain ⟨x1, dx1, s1, w1, d1, hxx, hx1, _⟩ := hh.ex e1
    obtain rfl := V.ref.inj hxx
    refine ⟨_, rfl, x, _, dx1, _, _, rfl, hx1, T.cP, T.nt_own_factors, own_of, _, rfl, n, tv, _, rfl, by omega, ht, ok, sm, bd, fun mv H2 e2 hm => ?_⟩
    obtain ⟨x3, dx3, s3, w3, d3, hxx, hx3, _⟩ := hh.ex (e1.trans e2)
    obtain rfl := V.ref.inj hxx
    refine ⟨_, rfl, x, _, dx3, _, _, rfl, hx3, T.cP, T.nt_own_factors, own_of, (by show 2 ≤ sizeLine; decide), fun p4 hp4 => ?_⟩
    have e4 := Evl.Ex.new (o := .tup [V.int 1, V.int (n : Int)]) hp4
    have e04 := (e1.trans e2).trans e4
    obtain ⟨pm, km, rfl, hpm, hkm⟩ := id (hm.ex e4)
    refine ⟨_, _, rfl, ?_⟩
    have hlook : valV km (key2 1 n) = some (.int (lenG (tpB pp (tpL l) 1) 1 n)) := hkm 1 n (Nat.le_refl _) hn1 (Nat.le_refl _)
    have hp4' : (upd H2 p4 (.tup [V.int 1, V.int (n : Int)])) p4 = some (.tup ((key2 1 n).map kV)) := upd_same
    have bad : ¬ (0 ≤ k ∧ k < lenG (tpB pp (tpL l) 1) 1 n) → ∀ d, (upd H2 p4 (.tup [V.int 1, V.int (n : Int)])) d = none → E (.ref (He.ga K "NoNumber")) (some d) (upd (upd H2 p4 (.tup [V.int 1, V.int (n : Int)])) d (.xd [(("number" : Str), .int k)])) := fun h d hd => q2 (by omega) d _ e04 hd
    refine ⟨_, rfl, _, _, rfl, rfl, _, rfl, ite2 (fun c => ?_) (fun c => ?_)⟩
    · have c1 : 0 ≤ k := of_decide_eq_true c
      refine ⟨_, rfl, _, rfl, pm, _, rfl, by rw [← hlook]; exact DGet.t hpm hp4', _, _, rfl, rfl, _, rfl, ?_⟩
      refine ite2 (fun c2 => ?_) (fun c2 => ?_)
      · have c3 : ¬ k < lenG (tpB pp (tpL l) 1) 1 n := of_decide_eq_false (by simpa using c2)
        exact ⟨_, rfl, _, rfl, fun d hd => bad (fun z => c3 z.2) d hd⟩
      · have c3 : k < lenG (tpB pp (tpL l) 1) 1 n := of_decide_eq_true (by simpa using c2)
        have hkl : k.toNat < (GD (tpB pp (tpL l) 1) 1 n).length := by
          unfold lenG at c3
          omega
        have hkt := List.getElem?_eq_getElem hkl
        refine ⟨_, rfl, _, rfl, _, rfl, _, rfl, n, 1, n, k.toNat, tv, .ref pm, p4, tpB pp (tpL l) 1, _, ?_, by omega, (ht.ex e2).ex e4, hm.ex e4, ok, bd, hp4', Nat.le_refl _, hn1, Nat.le_refl _, by omega, hkt, fun v H5 e5 r5 => q1 _ c1 hkt v H5 (e04.trans e5) r5⟩
        show [tv, V.ref pm, V.ref p4, V.int k] = [tv, V.ref pm, V.ref p4, V.int ((k.toNat : Nat) : Int)]
        rw [Int.toNat_of_nonneg c1]
    · have c1 : ¬ 0 ≤ k := of_decide_eq_false (Bool.eq_false_iff.mpr c)
      refine ⟨_, rfl, ifT rfl ?_⟩
      exact ⟨_, rfl, _, rfl, fun d hd => bad (fun z => c1 z.1) d hd⟩
/-! ### mean -/
def spMean (K : PySem.W.Frag) : Sp := fun vs H Q _ => ∃ (n : Nat) (lo hi : Option Tr) (l : List (Nat × Nat)) (sv lv hv : V) (pp : Nat → Nat → Nat → Int), vs = [sv, lv, hv] ∧ 1 ≤ n ∧ n ≤ 6 ∧ HostAt K H sv n pp ∧ OpT K H lv lo ∧ OpT K H hv hi ∧ LimOk n lo hi l ∧
  0 < (GD (tpL l) 1 n).length ∧ ∀ p H', Ex H H' → H' p = some (.tup [.int (frac (sumG pp (tpL l) 1 n) (GD (tpL l) 1 n).length).1, .int (frac (sumG pp (tpL l) 1 n) (GD (tpL l) 1 n).length).2]) → Q (.ref p) H'
theorem ok_mean (T : Txt K mg) (M_tops2 : MetOk P w K mg base (L2.CX P w) "tops" p_P_tops [] 38 (spTops K)) (D_counted : DefOk P w K mg base CX0 "counted" p_counted 2 spCounted)
    (D_stretches : DefOk P w K mg base CX0 "stretches" p_stretches 1 spStretches) (D_singles : DefOk P w K mg base CX0 "singles" p_singles 1 spSingles) (D_fraction : DefOk P w K mg base CX0 "fraction" p_fraction 1 spFrac) :
    ∃ fd, FunD K "mean" "Prices.mean" (defArgs s_P_mean) (defBody s_P_mean) (defScope s_P_mean) (d_P_mean.dvs K) (d_P_mean.kws K) (He.fAd K ("Prices", some "mean")) fd ∧ FnOk P w K mg base CX0 40 (He.fAd K ("Prices", some "mean")) fd p_P_mean (spMean K) := by
  obtain ⟨fd, F⟩ := T.F_P_mean
  refine ⟨fd, F, F.ok sc_P_mean (fun vs H Q E h => ?_) fun cdv A outer s H vs Q E hr h => ?_⟩
  · obtain ⟨n, lo, hi, l, sv, lv, hv, pp, rfl, _⟩ := h
    rfl
  obtain ⟨n, lo, hi, l, sv, lv, hv, pp, rfl, hn1, hn, hh, hlo, hhi, hl, hpos, q⟩ := h
  refine ⟨_, PSs.nox (pss_cons (ps_set (i := 3) sc_P_mean.nd rfl (Or.inl rfl) (pe_md (K := K) (pv 0) T.cP M_tops2 (hr.mono (by omega)) passL (pa_cons (pv 1) (pa_cons (pv 2) pa_nil)))) (pss_cons (ps_par (i := 4) (j := 5) rfl sc_P_mean.nd rfl rfl (by decide) rfl rfl (pa_cons (pe_d D_counted (hr.mono (by omega)) pass0 (pa_cons (pe_fldK (K := K) (pv 0)) (pa_cons (pv 3) pa_nil))) (pa_cons (pe_dcT (own := [("span", 12)]) (g := (gName 12)) (hu_of hr) rfl sc_P_mean.nd (pi_list (pe_d D_singles (hr.mono (by omega)) pass0 (pa_cons (pe_fldK (K := K) (pv 0)) pa_nil))) (blkOk_by (own := [("span", 12)]) (N := n_P_mean) (sc := (defScope s_P_mean)) (by decide +kernel)) (fun _ _ _ _ _ => (by exact (pg_name (i := 12) sc_P_mean.nd rfl (Or.inl rfl)))) (fun _ _ _ _ _ => pts_nil) (fun _ _ _ _ _ => (pv 12)) (fun _ _ _ _ _ => pe_int)) pa_nil)) (by rfl)) (pss_cons (ps_for PassesOwn.never rfl (pi_list (pe_d D_stretches (hr.mono (by omega)) pass0 (pa_cons (pe_fldK (K := K) (pv 0)) pa_nil))) (pg_tup rfl (pgs_cons (pg_name (i := 6) sc_P_mean.nd rfl (Or.inl rfl)) (pgs_cons (pg_name (i := 7) sc_P_mean.nd rfl (Or.inl rfl)) pgs_nil))) (pss_cons (ps_set (i := 8) sc_P_mean.nd rfl (Or.inl rfl) pe_int) (pss_cons (ps_for PassesOwn.never rfl (pi_list (pe_dget (hu_of hr) (pv 3) (pe_tup (pa_cons (pv 6) (pa_cons (pv 7) pa_nil))) (fun _ _ => rfl))) (pg_name (i := 9) sc_P_mean.nd rfl (Or.inl rfl)) (pss_cons (ps_par (i := 10) (j := 11) rfl sc_P_mean.nd rfl rfl (by decide) rfl rfl (pa_cons (pe_dget (hu_of hr) (pv 4) (pe_tup (pa_cons (pv 6) (pa_cons (pv 9) pa_nil))) (fun _ _ => rfl)) (pa_cons (pe_dget (hu_of hr) (pv 4) (pe_tup (pa_cons (pe_op op_add (pv 9) pe_int) (pa_cons (pv 7) pa_nil))) (fun _ _ => rfl)) pa_nil)) (by rfl)) (pss_cons (ps_aug (i := 8) sc_P_mean.nd rfl (Or.inl rfl) (pe_op op_add (pe_op op_mul (pe_dget (hu_of hr) (pv 5) (pe_tup (pa_cons (pv 6) (pa_cons (pv 9) pa_nil))) (fun _ _ => rfl)) (pv 11)) (pe_op op_mul (pv 10) (pe_dget (hu_of hr) (pv 5) (pe_tup (pa_cons (pe_op op_add (pv 9) pe_int) (pa_cons (pv 7) pa_nil))) (fun _ _ => rfl)))) ip_add) (pss_one (ps_aug (i := 8) sc_P_mean.nd rfl (Or.inl rfl) (pe_op op_mul (pe_op op_mul (pv 10) (pv 11)) (pe_dget (hu_of hr) (pe_fldK (K := K) (pv 0)) (pe_tup (pa_cons (pv 6) (pa_cons (pv 9) (pa_cons (pv 7) pa_nil)))) (fun _ _ => rfl))) ip_add))))) (pss_one (ps_dput (hu_of hr) (pv 5) (pe_tup (pa_cons (pv 6) (pa_cons (pv 7) pa_nil))) (pv 8) rfl))))) (pss_one (ps_ret (pe_d D_fraction (hr.mono (by omega)) pass0 (pa_cons (pe_dget (hu_of hr) (pv 5) (pe_tup (pa_cons pe_int (pa_cons (pe_fldK (K := K) (pv 0)) pa_nil))) (fun _ _ => rfl)) (pa_cons (pe_dget (hu_of hr) (pv 4) (pe_tup (pa_cons pe_int (pa_cons (pe_fldK (K := K) (pv 0)) pa_nil))) (fun _ _ => rfl)) pa_nil)))))))), ?_⟩
  obtain ⟨x, dx, s, w, d, rfl, hx, hp⟩ := id hh
  refine ⟨_, rfl, x, dx, _, rfl, hx, nometh (by decide +kernel), _, rfl, _, rfl, n, lo, hi, _, lv, hv, pp, rfl, hn1, by omega, hh, hlo, hhi, ?_⟩
  rw [hl.1]
  refine ⟨hl.2, fun tv H1 e1 ht => ?_⟩
  have ok := tpL_ok l
  have sm := tpL_sm l
  have bd := bd6 ok sm hn
  generalize tpL l = tp at *
  obtain ⟨x1, dx1, s1, w1, d1, hxx, hx1, _⟩ := hh.ex e1
  obtain rfl := V.ref.inj hxx
  refine ⟨_, rfl, x, _, dx1, _, _, rfl, hx1, T.cP, T.nt_own_factors, own_of, _, rfl, n, tv, _, rfl, by omega, ht, ok, sm, bd, fun mv H2 e2 hm => ?_⟩
  obtain ⟨x2, dx2, s2, w2, d2, hxx, hx2, _⟩ := hh.ex (e1.trans e2)
  obtain rfl := V.ref.inj hxx
  refine ⟨_, rfl, x, _, dx2, _, _, rfl, hx2, T.cP, T.nt_own_factors, own_of, n, rfl, by omega, fun r3 H3 e3 l3 => ?_⟩
  obtain ⟨p3, vs3, rfl, hp3, pr3⟩ := l3
  refine ⟨p3, rfl, ⟨_, SqL.of hp3⟩, fun sd hsd => ?_⟩
  refine dc_zero (src_list monoT_pr.ex (SqL.of hp3) pr3) (by rw [List.length_map, List.length_range]; omega) (by show 12 < 13; decide) (fun _ => rfl) hsd fun kvs0 H4 e4 hk0 hl0 hz0 => ?_
  have e04 := ((e1.trans e2).trans e3).trans e4
  refine ⟨_, _, rfl, ?_⟩
  obtain ⟨x5, dx5, s5, w5, d5, hxx, hx5, _⟩ := hh.ex e04
  obtain rfl := V.ref.inj hxx
  have hll := sl_len n
  have hnn : n * (n - 1) ≤ 6 * 5 := Nat.mul_le_mul hn (by omega)
  have old : ∀ z o, H3 z = some o → z ≠ sd := fun z o h c => by
    rw [c, hsd] at h
    cases h
  refine ⟨_, rfl, x, _, dx5, _, _, rfl, hx5, T.cP, T.nt_own_factors, own_of, n, rfl, by omega, fun r6 H6 e6 l6 => ?_⟩
  obtain ⟨p6, vs6, rfl, hp6, pr6⟩ := l6
  obtain ⟨pm, km, rfl, hpm, hkm⟩ := id (hm.ex e3)
  obtain ⟨pt, kt, rfl, hpt, hkt⟩ := id ((ht.ex e2).ex e3)
  have e03 := (e1.trans e2).trans e3
  have up3 : ∀ {H' : Hp}, ExB sd H6 H' → Ex H3 H' := fun {H'} k z o h => k z o (old z o h) (e6 _ _ (e4 _ _ h))
  have hsd6 := e6 _ _ hk0
  refine ⟨p6, rfl, ⟨_, SqL.of hp6⟩, for_list (xs := vs6) (fun i σ H' => ExB sd H6 H' ∧ H' p6 = some (.lst vs6) ∧ Paired (RPr H') vs6 (sl n) ∧ (∃ y1 y2 y3 y4 y5 y6, σ = [some (.ref x), some lv, some hv, some (.ref pt), some (.ref pm), some (.ref sd), y1, y2, y3, y4, y5, y6, none]) ∧
      ∃ kvs, H' sd = some (.dT kvs) ∧ kvs.length ≤ n + i ∧ (∀ a, 1 ≤ a → a ≤ n → valV kvs (key2 a a) = some (.int 0)) ∧ ∀ a b, (a, b) ∈ (sl n).take i → valV kvs (key2 a b) = some (.int (sumG pp tp a b)))
    ⟨fun z o _ h => h, hp6, pr6, ⟨none, none, none, none, none, none, rfl⟩, kvs0, hsd6, by rw [List.length_map, List.length_range] at hl0; omega, fun a h1 h2 => hz0 (a, a) (List.mem_map.mpr ⟨a - 1, List.mem_range.mpr (by omega), by congr 1 <;> omega⟩), fun a b h => nomatch h⟩ (fun i σ H' _ h => SqL.of h.2.1) ?_ ?_⟩
  rotate_left
  · rintro σ H7 ⟨k7, _, pr7, ⟨y1, y2, y3, y4, y5, y6, rfl⟩, ks, hks, _, hsi, hall⟩
    rw [pr7.length, List.take_length] at hall
    have e7 := up3 k7
    have self0 : sumG pp tp 1 1 = 0 := by unfold sumG; rw [GD_self]; rfl
    have hlook : valV ks (key2 1 n) = some (.int (sumG pp tp 1 n)) := by
      by_cases c : 1 = n
      · rw [← c, hsi 1 (Nat.le_refl _) hn1, self0]
      · exact hall 1 n (mem_sl.mpr ⟨Nat.le_refl _, by omega, Nat.le_refl _⟩)
    obtain ⟨x8, dx8, s8, w8, d8, hxx, hx8, _⟩ := hh.ex (e03.trans e7)
    obtain rfl := V.ref.inj hxx
    refine ⟨_, rfl, _, rfl, x, _, dx8, _, _, rfl, hx8, T.cP, T.nt_own_factors, own_of, (by show 2 ≤ sizeLine; decide), fun p9 hp9 => ?_⟩
    have e9 := Evl.Ex.new (o := .tup [V.int 1, V.int (n : Int)]) hp9
    refine ⟨sd, _, rfl, by rw [← hlook]; exact DGet.t (k := key2 1 n) (e9 _ _ hks) upd_same, ?_⟩
    refine ⟨_, rfl, _, rfl, x, _, dx8, _, _, rfl, e9 _ _ hx8, T.cP, T.nt_own_factors, own_of, (by show 2 ≤ sizeLine; decide), fun p10 hp10 => ?_⟩
    have e10 := e9.trans (Evl.Ex.new (o := .tup [V.int 1, V.int (n : Int)]) hp10)
    refine ⟨pm, _, rfl, by rw [← hkm 1 n (Nat.le_refl _) hn1 (Nat.le_refl _)]; exact DGet.t (k := key2 1 n) (e10 _ _ (e7 _ _ hpm)) upd_same, ?_⟩
    have hbd := bd 1 n (Nat.le_refl _) hn1 (Nat.le_refl _)
    exact ⟨_, _, rfl, hpos, by omega, fun p11 H11 e11 hp11 => q p11 H11 (((e03.trans e7).trans e10).trans e11) hp11⟩
  rintro i v7 σ H7 hi ⟨k7, hp7, pr7, ⟨y1, y2, y3, y4, y5, y6, rfl⟩, ks, hks, hksl, hsi, hall⟩
  obtain ⟨⟨a, b⟩, hab, q1, rfl, hq1⟩ := paired_get pr7 hi
  obtain ⟨ha, hb, hbn⟩ := mem_sl.mp (List.mem_of_getElem? hab)
  have hil := (List.getElem?_eq_some_iff.mp hab).1
  have e7 := up3 k7
  have look : ∀ a' b', 1 ≤ a' → a' ≤ b' → b' ≤ n → b' - a' < b - a → valV ks (key2 a' b') = some (.int (sumG pp tp a' b')) := fun a' b' h1 h2 h3 h4 => by
    by_cases c : a' = b'
    · subst c
      rw [hsi a' h1 h3]
      unfold sumG
      rw [GD_self]
      rfl
    · exact hall a' b' (sl_before hab h1 (by omega) h3 h4)
  refine gtup2 rfl hq1 ?_
  obtain ⟨l1, hl1, hl2⟩ := hkt a b ha hb hbn
  refine ⟨_, rfl, _, rfl, _, rfl, (by show 2 ≤ sizeLine; decide), fun p8 hp8 => ?_⟩
  have e8 := Evl.Ex.new (o := .tup [V.int (a : Int), V.int (b : Int)]) hp8
  refine ⟨pt, _, rfl, by rw [← hl1]; exact DGet.t (k := key2 a b) (e8 _ _ (e7 _ _ hpt)) upd_same, l1, rfl, ⟨_, SqL.of (e8 _ _ (e7 _ _ hl2))⟩, ?_⟩
  refine for_list (K := K) (xs := (tp a b).map fun j : Nat => V.int j) (fun m σ H' => Ex H7 H' ∧ ∃ y4 y5 y6, σ = [some (.ref x), some lv, some hv, some (.ref pt), some (.ref pm), some (.ref sd), some (.int a), some (.int b), some (.int (((tp a b).take m).map (sumJJ pp tp a b)).sum), y4, y5, y6, none])
    ⟨e8, _, _, _, rfl⟩ (fun i σ H' _ h => SqL.of (h.1 _ _ (e7 _ _ hl2))) ?_ ?_
  · rintro m v9 σ H9 hm9 ⟨e9, y4, y5, y6, rfl⟩
    rw [List.getElem?_map] at hm9
    cases hj : (tp a b)[m]? with
    | none => rw [hj] at hm9; cases hm9
    | some j =>
      rw [hj] at hm9
      obtain rfl := Option.some.inj hm9
      obtain ⟨hj1, hj2⟩ := ok a b j (List.mem_of_getElem? hj)
      have e79 := e7.trans e9
      have hm9' := e79 _ _ hpm
      have hs9 := e9 _ _ hks
      have b1 := bd a j ha hj1 (by omega)
      have b2 := bd (j + 1) b (by omega) (by omega) hbn
      refine ⟨_, rfl, _, rfl, _, rfl, (by show 2 ≤ sizeLine; decide), fun p10 hp10 => ?_⟩
      have e10 := Evl.Ex.new (o := .tup [V.int (a : Int), V.int (j : Int)]) hp10
      refine ⟨pm, _, rfl, by rw [← hkm a j ha hj1 (by omega)]; exact DGet.t (k := key2 a j) (e10 _ _ hm9') upd_same, ?_⟩
      refine ⟨_, rfl, _, rfl, _, _, rfl, rfl, _, rfl, (by show 2 ≤ sizeLine; decide), fun p11 hp11 => ?_⟩
      have e11 := e10.trans (Evl.Ex.new (o := .tup [V.int ((j : Int) + 1), V.int (b : Int)]) hp11)
      refine ⟨pm, _, rfl, by rw [← hkm (j + 1) b (by omega) (by omega) hbn]; exact DGet.t (k := key2 (j + 1) b) (e11 _ _ hm9') upd_same, _, _, rfl, ?_⟩
      -- found += sums[first, join] * its + mine * sums[join + 1, last]
      refine ⟨_, rfl, _, rfl, _, rfl, _, rfl, (by show 2 ≤ sizeLine; decide), fun p12 hp12 => ?_⟩
      have e12 := e11.trans (Evl.Ex.new (o := .tup [V.int (a : Int), V.int (j : Int)]) hp12)
      refine ⟨sd, _, rfl, by rw [← look a j ha hj1 (by omega) (by omega)]; exact DGet.t (k := key2 a j) (e12 _ _ hs9) upd_same, ?_⟩
      refine ⟨_, rfl, _, _, rfl, rfl, .inr (by unfold lenG; exact ⟨by omega, by omega⟩), ?_⟩
      refine ⟨_, rfl, _, rfl, _, rfl, _, _, rfl, rfl, _, rfl, (by show 2 ≤ sizeLine; decide), fun p13 hp13 => ?_⟩
      have e13 := e12.trans (Evl.Ex.new (o := .tup [V.int ((j : Int) + 1), V.int (b : Int)]) hp13)
      refine ⟨sd, _, rfl, by rw [← look (j + 1) b (by omega) (by omega) hbn (by omega)]; exact DGet.t (k := key2 (j + 1) b) (e13 _ _ hs9) upd_same, ?_⟩
      refine ⟨_, _, rfl, rfl, .inl (by unfold lenG; exact ⟨by omega, by omega⟩), _, _, rfl, rfl, _, _, rfl, rfl, ?_⟩
      -- found += mine * its * self.own_pairs[first, join, last]
      obtain ⟨x14, dx14, s14, w14, d14, hxx, hx14, pd, kp, rfl, hpd, hkp⟩ := hh.ex ((e03.trans e79).trans e13)
      obtain rfl := V.ref.inj hxx
      have hprod : lenG tp a j * lenG tp (j + 1) b = (((GD tp a j).length * (GD tp (j + 1) b).length : Nat) : Int) := by unfold lenG; rw [Int.natCast_mul]
      have hpb : (GD tp a j).length * (GD tp (j + 1) b).length ≤ 10000000 * 10000000 := Nat.mul_le_mul b1 b2
      refine ⟨_, rfl, _, rfl, _, rfl, _, _, rfl, rfl, .inl (by unfold lenG; exact ⟨by omega, by omega⟩), ?_⟩
      refine ⟨_, rfl, x, _, dx14, _, _, rfl, hx14, T.cP, T.nt_own_pairs, pairs_of, _, rfl, _, rfl, _, rfl, (by show 3 ≤ sizeLine; decide), fun p15 hp15 => ?_⟩
      have e15 := Evl.Ex.new (o := .tup [V.int (a : Int), V.int (j : Int), V.int (b : Int)]) hp15
      refine ⟨pd, _, rfl, by rw [← hkp a j b ha hj1 hj2 hbn]; exact DGet.t (k := key3 a j b) (e15 _ _ hpd) upd_same, ?_⟩
      refine ⟨_, _, rfl, rfl, .inl (by rw [hprod]; exact ⟨by omega, by omega⟩), _, _, rfl, rfl, ?_⟩
      refine ⟨(e9.trans e13).trans e15, some (.int j), some (.int (lenG tp a j)), some (.int (lenG tp (j + 1) b)), ?_⟩
      rw [take_more hj, List.map_append, List.sum_append]
      have es : ∀ X : Int, X + (sumG pp tp a j * lenG tp (j + 1) b + lenG tp a j * sumG pp tp (j + 1) b) + lenG tp a j * lenG tp (j + 1) b * pp a j b = X + ([j].map (sumJJ pp tp a b)).sum := fun X => by
        rw [List.map_cons, List.map_nil, List.sum_cons, List.sum_nil, Int.add_zero, Int.add_assoc]
        rfl
      rw [← es]
      rfl
  rintro σ H9 ⟨e9, y4, y5, y6, rfl⟩
  rw [List.length_map, List.take_length, ← sum_rec ok hb]
  refine ⟨_, rfl, _, rfl, _, rfl, _, rfl, (by show 2 ≤ sizeLine; decide), fun p16 hp16 => ?_⟩
  have e16 := e9.trans (Evl.Ex.new (o := .tup [V.int (a : Int), V.int (b : Int)]) hp16)
  have hs16 := e16 _ _ hks
  refine ⟨sd, _, rfl, DPut.t (k := key2 a b) hs16 upd_same (sz_lt' (by omega)), ?_⟩
  have keep : ∀ z o, z ≠ sd → H7 z = some o → upd (upd H9 p16 (.tup [V.int (a : Int), V.int (b : Int)])) sd (.dT (putK ks (key2 a b) (.int (sumG pp tp a b)))) z = some o := fun z o hz h => by
    rw [upd_ne hz]
    exact e16 _ _ h
  refine ⟨fun z o hz h => keep z o hz (k7 z o hz h), keep _ _ (fun z => by rw [z, hks] at hp7; cases hp7) hp7, Paired.mapP pr7 fun v z ⟨q, hv, hq⟩ => ⟨q, hv, keep _ _ (fun z => by rw [z, hks] at hq; cases hq) hq⟩, ⟨_, _, _, _, _, _, rfl⟩, _, upd_same, ?_, fun a' h1 h2 => ?_, fun a' b' hm => ?_⟩
  · exact Nat.le_trans (length_putK _ _ _) (by omega)
  · rw [valV_put, if_neg (fun c => by obtain ⟨z1, z2⟩ := key2_inj c; omega)]
    exact hsi a' h1 h2
  · rw [take_more hab, List.mem_append] at hm
    rw [valV_put]
    by_cases c : key2 a' b' = key2 a b
    · obtain ⟨rfl, rfl⟩ := key2_inj c
      rw [if_pos rfl]
    · rw [if_neg c]
      rcases hm with hm | hm
      · exact hall a' b' hm
      · have z : (a', b') = (a, b) := by simpa using hm
        injection z with z1 z2
        exact absurd (by rw [z1, z2]) c
end RG

set_option Elab.async false
set_option linter.all false
set_option maxRecDepth 100000
set_option maxHeartbeats 400000
namespace RG
open PySem PySem.Spec PyProof.Rows L2
variable {P : Program} {w : World} {K : PySem.W.Frag} {mg : Str → Option Value} {base : Heap}
/-! ### is_cheapest -/
def insideF (l : List (Nat × Nat)) (t : Tr) : Bool := (l.zip t.rch).all fun z => decide (z.1.1 ≤ z.2) && decide (z.2 ≤ z.1.2)
/-- the answer r about the thing d -/
def IsCh (n : Nat) (l : List (Nat × Nat)) (pp : Nat → Nat → Nat → Int) (d : PyData) (r : Bool) : Prop :=
  (isGr d = false ∧ r = false) ∨ ∃ t m, d = t.tp ∧ isGr d = true ∧ Span t 1 m ∧ m ≤ 20 ∧ (m ≠ n → r = false) ∧ (m = n → r = (insideF l t && decide (bestV pp (tpL l) 1 1 n = some (price pp t))))
def spIsCheap (K : PySem.W.Frag) : Sp := fun vs H Q _ => ∃ (n : Nat) (lo hi : Option Tr) (l : List (Nat × Nat)) (sv xv lv hv : V) (d : PyData) (pp : Nat → Nat → Nat → Int) (r : Bool), vs = [sv, xv, lv, hv] ∧ 1 ≤ n ∧ n ≤ 6 ∧ HostAt K H sv n pp ∧ OpT K H lv lo ∧ OpT K H hv hi ∧ LimOk n lo hi l ∧
  Dp K H xv d ∧ d.depth < 30 ∧ (∃ x, bestV pp (tpL l) 1 1 n = some x) ∧ IsCh n l pp d r ∧ ∀ H', Ex H H' → Q (.bl r) H'
theorem ok_is_cheapest (T : Txt K mg) (M_least2 : MetOk P w K mg base CX0 "least" p_P_least [] 39 (spEnd K 1)) (D_limits : DefOk P w K mg base (L2.CX P w) "limits" p_limits 37 (spLimits K)) (D_is_grouping : DefOk P w K mg base CX0 "is_grouping" p_is_grouping 33 (spIsGr K))
    (D_factors_in : DefOk P w K mg base CX0 "factors_in" p_factors_in 5 (spFactorsIn K)) (D_reaches : DefOk P w K mg base CX0 "reaches" p_reaches 36 (spReaches K)) (M_of1 : MetOk P w K mg base CX0 "of" p_P_of [] 36 (spOf K)) :
    ∃ fd, FunD K "is_cheapest" "Prices.is_cheapest" (defArgs s_P_is_cheapest) (defBody s_P_is_cheapest) (defScope s_P_is_cheapest) (d_P_is_cheapest.dvs K) (d_P_is_cheapest.kws K) (He.fAd K ("Prices", some "is_cheapest")) fd ∧
      FnOk P w K mg base CX0 40 (He.fAd K ("Prices", some "is_cheapest")) fd p_P_is_cheapest (spIsCheap K) := by
  obtain ⟨fd, F⟩ := T.F_P_is_cheapest
  refine ⟨fd, F, F.ok sc_P_is_cheapest (fun vs H Q E h => ?_) fun cdv A outer s H vs Q E hr h => ?_⟩
  · obtain ⟨n, lo, hi, l, sv, xv, lv, hv, d, pp, r, rfl, _⟩ := h
    rfl
  obtain ⟨n, lo, hi, l, sv, xv, lv, hv, d, pp, r, rfl, hn1, hn, hh, hlo, hhi, hl, hd, hdd, hbest, hr0, q⟩ := h
  refine ⟨_, PSs.nox (pss_cons (ps_par (i := 4) (j := 5) rfl sc_P_is_cheapest.nd rfl rfl (by decide) rfl rfl (pa_cons (pe_md (K := K) (pv 0) T.cP M_least2 (hr.mono (by omega)) pass0 (pa_cons (pv 2) (pa_cons (pv 3) pa_nil))) (pa_cons (pe_d D_limits (hr.mono (by omega)) passL (pa_cons (pe_fldK (K := K) (pv 0)) (pa_cons (pv 2) (pa_cons (pv 3) pa_nil)))) pa_nil)) (by rfl)) (pss_cons (ps_if (PW.pt (pw_or (pt_not (pt_val (pe_d D_is_grouping (hr.mono (by omega)) pass0 (pa_cons (pv 1) pa_nil)))) (pw_or1 (pt_cmpR op_ne (pe_d D_factors_in (hr.mono (by omega)) pass0 (pa_cons (pv 1) pa_nil)) (pe_fldK (K := K) (pv 0)) (nomark _))))) (pss_one (ps_ret pe_bl)) pss_nil) (pss_cons (ps_setLc (i := 6) (own := [("row", 7), ("reach", 8)]) (g := (gTup K 2 (gCons (gName 7) (gCons (gName 8) gNil)))) rfl sc_P_is_cheapest.nd rfl rfl (sw_true rfl rfl rfl (by decide +kernel)) (pi_zipM rfl T.f_zip (pa_cons (pv 5) (pa_cons (pe_d D_reaches (hr.mono (by omega)) pass0 (pa_cons (pv 1) pa_nil)) pa_nil))) (blkOk_by (own := [("row", 7), ("reach", 8)]) (N := n_P_is_cheapest) (sc := (defScope s_P_is_cheapest)) (by decide +kernel)) (fun _ _ _ _ _ => (by exact (pg_tup rfl (pgs_cons (pg_name (i := 7) sc_P_is_cheapest.nd rfl (Or.inl rfl)) (pgs_cons (pg_name (i := 8) sc_P_is_cheapest.nd rfl (Or.inl rfl)) pgs_nil))))) (fun _ _ _ _ _ => pts_nil) (fun _ _ _ _ _ => (pe_chain op_le op_le (pe_ix (r := rIxT K) ix_tup (pv 7) pe_int (fun _ _ => rfl)) (pv 8) (pe_ix (r := rIxT K) ix_tup (pv 7) pe_int (fun _ _ => rfl))))) (pss_one (ps_ret (pe_and (pe_callB (r := rAll K) (cr_all rfl) rfl T.f_all b_all (pa_cons (pv 6) pa_nil)) (pe_one (pe_cmpR op_eq (pe_md (K := K) (pv 0) T.cP M_of1 (hr.mono (by omega)) pass0 (pa_cons (pv 1) pa_nil)) (pv 4) (nomark _))))))))), ?_⟩
  obtain ⟨x, dx, s, w, dd, rfl, hx, hp⟩ := id hh
  obtain ⟨bx, hbx⟩ := hbest
  refine ⟨_, rfl, x, dx, _, rfl, hx, nometh (by decide +kernel), _, rfl, _, rfl, n, lo, hi, l, _, lv, hv, pp, rfl, hn1, by omega, hh, hlo, hhi, hl, fun H1 e1 => ?_⟩
  rw [hbx]
  obtain ⟨x1, dx1, s1, w1, d1, hxx, hx1, _⟩ := hh.ex e1
  obtain rfl := V.ref.inj hxx
  refine ⟨_, rfl, x, _, dx1, _, _, rfl, hx1, T.cP, T.nt_own_factors, own_of, _, rfl, _, rfl, n, lo, hi, lv, hv, rfl, hn1, by omega, hlo.ex e1, hhi.ex e1, ?_⟩
  rw [hl.1]
  intro rv H2 e2 lr
  refine ⟨_, _, rfl, ?_⟩
  have e02 := e1.trans e2
  refine ⟨_, rfl, xv, d, rfl, dp_ex e02 hd, hdd, fun H3 e3 => ⟨_, rfl, ?_⟩⟩
  have e03 := e02.trans e3
  rcases hr0 with ⟨hg, rfl⟩ | ⟨t, m, rfl, hg, hsp, hm20, hne, heq⟩
  · rw [hg]
    exact ifT rfl (ifT rfl (q _ e03))
  rw [hg]
  have ht : TrM K H3 xv t := trm_tp (dp_ex e03 hd)
  have hlst := span_lst hsp
  refine ifF rfl ⟨_, rfl, xv, t, rfl, ht, fun H4 e4 => ?_⟩
  have e04 := e03.trans e4
  obtain ⟨x4, dx4, s4, w4, d4, hxx, hx4, _⟩ := hh.ex e04
  obtain rfl := V.ref.inj hxx
  refine ⟨_, rfl, x, _, dx4, _, _, rfl, hx4, T.cP, T.nt_own_factors, own_of, rfl, _, rfl, ite2 (fun c => ?_) (fun c => ?_)⟩
  · have c1 : ¬ (V.int (t.lst : Int) = V.int (n : Int)) := of_decide_eq_false (by simpa using c)
    have c2 : m ≠ n := fun e => c1 (by rw [hlst, e])
    rw [hne c2] at q
    exact q _ e04
  have c1 : V.int (t.lst : Int) = V.int (n : Int) := of_decide_eq_true (by simpa using c)
  have c2 : m = n := by
    injection c1 with c1
    omega
  subst c2
  have hr1 := heq rfl
  have hht := span_ht hsp
  have htl := span_len hsp
  refine ⟨_, rfl, _, rfl, xv, t, rfl, ht.ex e4, by omega, by omega, fun rr H5 e5 lt => ?_⟩
  obtain ⟨pr, prs, rfl, hpr, prp⟩ := (lr.ex monoT_pr.ex ((e3.trans e4).trans e5))
  obtain ⟨pq, pqs, rfl, hpq, pqp⟩ := lt
  have hlz : (l.zip t.rch).length < 100000 := by
    have := hl.2
    rw [List.length_zip]
    omega
  refine ⟨pr, pq, _, _, rfl, SqL.of hpr, SqT.of hpq, fun D hD => ?_⟩
  refine lc_map (γ := Bool) (fun z : (Nat × Nat) × Nat => decide (z.1.1 ≤ z.2) && decide (z.2 ≤ z.1.2)) (src_zipM monoT_pr.ex mono_nat (SqL.of hpr) prp (SqT.of hpq) pqp) monoT_bl hlz (fun i z v H6 hz e6 r6 Ky ky => ?_) gm_tup2 hD fun ys H6 e6 hy py => ?_
  · obtain ⟨q6, x6, y6, rfl, hq6, ⟨q7, rfl, hq7⟩, rfl⟩ := r6
    refine gtup2 rfl hq6 ⟨rfl, ?_⟩
    refine ⟨_, rfl, q7, _, 0, _, rfl, rfl, SqT.of hq7, rfl, _, rfl, _, _, rfl, rfl, _, rfl, ?_⟩
    refine ite2 (fun c => ?_) (fun c => ?_)
    · refine ⟨_, rfl, q7, _, 1, _, rfl, rfl, SqT.of hq7, rfl, _, _, rfl, rfl, ky _ _ (exr _) ?_⟩
      have c5 : ((z.1.1 : Nat) : Int) ≤ (z.2 : Nat) := of_decide_eq_true c
      show V.bl _ = V.bl _
      congr 1
      rw [decide_eq_true (show z.1.1 ≤ z.2 by omega), Bool.true_and, decide_eq_decide]
      omega
    · have c5 : ¬ ((z.1.1 : Nat) : Int) ≤ (z.2 : Nat) := of_decide_eq_false (Bool.eq_false_iff.mpr c)
      refine ky _ _ (exr _) ?_
      show V.bl _ = V.bl _
      congr 1
      rw [decide_eq_false (show ¬ z.1.1 ≤ z.2 by omega), Bool.false_and]
  have ey := paired_bl py
  have e06 := (e04.trans e5).trans e6
  have hall : (((l.zip t.rch).map fun z : (Nat × Nat) × Nat => decide (z.1.1 ≤ z.2) && decide (z.2 ≤ z.1.2)).all id) = insideF l t := by
    rw [List.all_map]
    rfl
  refine ⟨_, rfl, D, _, rfl, by rw [← ey]; exact SqL.of hy, _, rfl, ?_⟩
  rw [hall]
  refine ite2 (fun c => ?_) (fun c => ?_)
  · obtain ⟨x7, dx7, s7, w7, d7, hxx, hx7, _⟩ := hh.ex e06
    obtain rfl := V.ref.inj hxx
    refine ⟨_, rfl, x, dx7, _, rfl, hx7, nometh (by decide +kernel), _, rfl, m, _, xv, t, pp, rfl, hh.ex e06, hlst, ht.ex ((e4.trans e5).trans e6), by omega, by omega, span_trip hsp, fun H8 e8 => ?_⟩
    refine ⟨_, rfl, rfl, ?_⟩
    rw [hr1, c, Bool.true_and, hbx] at q
    have eb : decide (V.int (price pp t) = optV (some bx)) = decide (some bx = some (price pp t)) := by
      rw [decide_eq_decide]
      constructor
      · intro h
        injection h with h
        rw [h]
      · intro h
        injection h with h
        rw [h]
        rfl
    rw [eb]
    exact q _ (e06.trans e8)
  · rw [hr1, Bool.eq_false_iff.mpr c, Bool.false_and] at q
    exact q _ e06
end RG

set_option Elab.async false
set_option linter.all false
set_option maxRecDepth 100000
set_option maxHeartbeats 400000
namespace RG
open PySem PySem.Spec PyProof.Rows L2
variable {P : Program} {w : World} {K : PySem.W.Frag} {mg : Str → Option Value} {base : Heap}
/-! ### the box -/
theorem ExB.refl {x : Addr} {H : Hp} : ExB x H H := fun _ _ _ h => h
theorem ExB.trans {x : Addr} {H H1 H2 : Hp} (a : ExB x H H1) (b : ExB x H1 H2) : ExB x H H2 := fun z o n h => b z o n (a z o n h)
theorem ExB.of {x : Addr} {H H' : Hp} (e : Ex H H') : ExB x H H' := fun z o _ h => e z o h
theorem ExB.mut {x : Addr} {H H' : Hp} {o : HO} (e : ExB x H H') : ExB x H (upd H' x o) := fun z u n h => by
  rw [upd_ne n]
  exact e z u n h
def BoxAt (H : Hp) (b : Addr) (m : Nat) : Prop := ∃ c0 c1 c2 : Int, H b = some (.lst [.int c0, .int c1, .int c2]) ∧ 0 ≤ c2 ∧ c2 + m ≤ 100000
theorem BoxAt.le {H : Hp} {b : Addr} {m m' : Nat} (h : BoxAt H b m) (l : m' ≤ m) : BoxAt H b m' := by
  obtain ⟨c0, c1, c2, h1, h2, h3⟩ := h
  exact ⟨c0, c1, c2, h1, h2, by omega⟩
theorem BoxAt.ex {H H' : Hp} {b : Addr} {m : Nat} (e : Ex H H') (h : BoxAt H b m) : BoxAt H' b m := by
  obtain ⟨c0, c1, c2, h1, h2⟩ := h
  exact ⟨c0, c1, c2, e _ _ h1, h2⟩
theorem cmul_b (i : Int) (c : Bool) : CMul i (if c = true then 1 else 0) := .inr (by cases c <;> exact ⟨by decide, by decide⟩)
def spBox (K : PySem.W.Frag) : Sp := fun vs H Q _ => ∃ (p : Addr) (ns : List Int) (k : Nat), vs = [.ref p, .int k] ∧ SqL K H p (ns.map V.int) ∧ ∀ b H', H b = none → Ex H H' → BoxAt H' b 100000 → Q (.ref b) H'
theorem ok_box (T : Txt K mg) : DefOk P w K mg base CX0 "_law_box" p_L_box 1 (spBox K) := by
  obtain ⟨fd, F⟩ := T.F_L_box
  refine ⟨⟨_, fd, T.g_L_box, F.kp, F.bindsN (ps := p_L_box) (fun _ _ _ _ _ _ us hl => match us, hl with | [_, _], _ => rfl), F.ok sc_L_box (fun vs H Q E h => ?_) fun cdv A outer s H vs Q E hr h => ?_⟩⟩
  · obtain ⟨p, ns, k, rfl, _⟩ := h
    rfl
  obtain ⟨p, ns, k, rfl, hp, q⟩ := h
  refine ⟨_, PSs.nox (pss_cons (ps_set (i := 2) sc_L_box.nd rfl (Or.inl rfl) (pe_ifExp (pt_cmpR op_lt (pv 1) (pe_callB (r := Evl.rLenS K) call_len_seq rfl T.f_len b_len (pa_cons (pv 0) pa_nil)) (nomark _)) (pe_ix (r := rIxL K) ix_list (pv 0) (pv 1) (fun _ _ => rfl)) pe_int)) (pss_one (ps_ret (pe_lst (pa_cons (pe_op op_mul (pe_callB call_abs rfl T.f_abs b_abs (pa_cons (pv 2) pa_nil)) (pe_callTy call_int1 rfl T.f_int b_int (pa_cons (pe_cmpR op_ge (pe_callB call_abs rfl T.f_abs b_abs (pa_cons (pv 2) pa_nil)) (pe_op op_pow pe_int pe_int) (nomark _)) pa_nil))) (pa_cons (pe_op op_add (pe_op op_add (pe_op op_mod (pe_callTy call_int1 rfl T.f_int b_int (pa_cons (pv 2) pa_nil)) pe_int) (pe_op op_mul pe_int (pv 1))) pe_int) (pa_cons pe_int pa_nil))))))), ?_⟩
  dsimp only [tSeq, tAsg]
  refine teCut (fun v H' => H = H' ∧ ∃ c, v = .int c) (fun Q' k2 => ?_) ?_
  · refine ⟨_, rfl, _, rfl, p, _, rfl, .inl hp, _, _, rfl, rfl, _, rfl, ite2 (fun c => ?_) (fun c => ?_)⟩
    · have c1 : (k : Int) < (((ns.map V.int).length : Nat) : Int) := of_decide_eq_true c
      rw [List.length_map] at c1
      have hk : k < ns.length := by omega
      refine ⟨_, rfl, _, rfl, p, _, k, _, rfl, rfl, hp, at_of rfl (by rw [List.getElem?_map, List.getElem?_eq_getElem hk]; rfl), k2 _ _ ⟨rfl, _, rfl⟩⟩
    · exact k2 _ _ ⟨rfl, _, rfl⟩
  rintro v H' ⟨rfl, c, rfl⟩
  refine ⟨_, rfl, _, rfl, _, rfl, _, rfl, _, _, rfl, rfl, ⟨by decide, by decide, by decide⟩, _, _, rfl, rfl, .inr ⟨_, rfl, _, _, rfl, rfl, ?_, ?_⟩⟩
  · exact cmul_b _ _
  refine ⟨_, rfl, .inl ⟨_, rfl, _, _, rfl, rfl, (by show (0 : Int) < 2305843009213693951; decide), ?_⟩⟩
  refine ⟨_, rfl, _, _, rfl, rfl, .inl ⟨by decide, by decide⟩, _, _, rfl, rfl, _, _, rfl, rfl, (by show 3 ≤ sizeLine; decide), fun b hb => ?_⟩
  exact q b _ hb (Evl.Ex.new hb) ⟨_, _, _, upd_same, Int.le_refl _, by decide⟩
def spTake : Sp := fun vs H Q _ => ∃ (b : Addr) (k m : Nat), vs = [.ref b, .int k] ∧ 0 < k ∧ k ≤ 100000 ∧ BoxAt H b (m + 1) ∧ ∀ (r : Nat) H', r < k → ExB b H H' → BoxAt H' b m → Q (.int r) H'
theorem ok_take (T : Txt K mg) : DefOk P w K mg base CX0 "_law_take" p_L_take 1 spTake := by
  obtain ⟨fd, F⟩ := T.F_L_take
  refine ⟨⟨_, fd, T.g_L_take, F.kp, F.bindsN (ps := p_L_take) (fun _ _ _ _ _ _ us hl => match us, hl with | [_, _], _ => rfl), F.ok sc_L_take (fun vs H Q E h => ?_) fun cdv A outer s H vs Q E hr h => ?_⟩⟩
  · obtain ⟨b, k, m, rfl, _⟩ := h
    rfl
  obtain ⟨b, k, m, rfl, hk, hk2, ⟨c0, c1, c2, hb, hc, hm⟩, q⟩ := h
  refine ⟨_, PSs.nox (pss_cons (ps_if (pt_cmpR op_gt (pe_ix (r := rIxL K) ix_list (pv 0) pe_int (fun _ _ => rfl)) pe_int (nomark _)) (pss_cons (ps_set (i := 2) sc_L_take.nd rfl (Or.inl rfl) (pe_op op_mod (pe_callTy call_int1 rfl T.f_int b_int (pa_cons (pe_ix (r := rIxL K) ix_list (pv 0) pe_int (fun _ _ => rfl)) pa_nil)) (pv 1))) (pss_cons (ps_asg (pe_op op_fdiv (pe_ix (r := rIxL K) ix_list (pv 0) pe_int (fun _ _ => rfl)) (pv 1)) (pg_sub (pv 0) pe_int set_list)) (pss_one (ps_ret (pv 2))))) pss_nil) (pss_cons (ps_asg (pe_op op_add (pe_ix (r := rIxL K) ix_list (pv 0) pe_int (fun _ _ => rfl)) pe_int) (pg_sub (pv 0) pe_int set_list)) (pss_cons (ps_set (i := 3) sc_L_take.nd rfl (Or.inl rfl) (pe_op op_mod (pe_callTy call_int1 rfl T.f_int b_int (pa_cons (pe_op op_mul (pe_op op_add (pe_ix (r := rIxL K) ix_list (pv 0) pe_int (fun _ _ => rfl)) (pe_op op_mul pe_int (pe_ix (r := rIxL K) ix_list (pv 0) pe_int (fun _ _ => rfl)))) (pe_op op_add pe_int (pe_ix (r := rIxL K) ix_list (pv 0) pe_int (fun _ _ => rfl)))) pa_nil)) pe_int)) (pss_cons (ps_set (i := 4) sc_L_take.nd rfl (Or.inl rfl) (pe_op op_add (pe_op op_mod (pe_callTy call_int1 rfl T.f_int b_int (pa_cons (pv 3) pa_nil)) pe_int) pe_int)) (pss_cons (ps_set (i := 5) sc_L_take.nd rfl (Or.inl rfl) (pe_op op_mod (pe_callTy call_int1 rfl T.f_int b_int (pa_cons (pe_op op_mul (pe_op op_add (pe_op op_add (pv 3) (pe_ix (r := rIxL K) ix_list (pv 0) pe_int (fun _ _ => rfl))) (pe_op op_fdiv (pe_ix (r := rIxL K) ix_list (pv 0) pe_int (fun _ _ => rfl)) pe_int)) (pv 4)) pa_nil)) pe_int)) (pss_one (ps_ret (pe_op op_mod (pe_callTy call_int1 rfl T.f_int b_int (pa_cons (pe_op op_fdiv (pe_op op_mod (pe_callTy call_int1 rfl T.f_int b_int (pa_cons (pe_op op_add (pe_op op_mul (pv 5) pe_int) (pv 3)) pa_nil)) pe_int) pe_int) pa_nil)) (pv 1))))))))), ?_⟩
  have sq : SqL K H b [.int c0, .int c1, .int c2] := SqL.of hb
  refine ⟨_, rfl, b, _, 0, _, rfl, rfl, sq, rfl, _, _, rfl, rfl, _, rfl, ite2 (fun c => ?_) (fun c => ?_)⟩
  · refine ⟨_, rfl, b, _, 0, _, rfl, rfl, sq, rfl, .inl ⟨_, rfl, _, rfl, _, _, rfl, rfl, (by omega), ?_⟩⟩
    refine ⟨_, rfl, b, _, 0, _, rfl, rfl, sq, rfl, _, rfl, _, _, rfl, rfl, ⟨by omega, by omega⟩, ?_⟩
    refine ⟨_, rfl, b, _, 0, 0, rfl, rfl, hb, rfl, ?_⟩
    refine ⟨_, rfl, ?_⟩
    have e : c0 % (k : Int) = ((c0 % (k : Int)).toNat : Int) := by
      have := Int.emod_nonneg c0 (show (k : Int) ≠ 0 by omega)
      omega
    show Q (V.int (c0 % (k : Int))) _
    rw [e]
    refine q _ _ ?_ (ExB.mut .refl) ⟨_, c1, c2, upd_same, hc, by omega⟩
    have := Int.emod_lt_of_pos c0 (show (0 : Int) < k by omega)
    omega
  · refine ⟨_, rfl, b, _, 2, _, rfl, rfl, sq, rfl, _, _, rfl, rfl, ?_⟩
    refine ⟨_, rfl, b, _, 2, 2, rfl, rfl, hb, rfl, ?_⟩
    have hb2 : (upd H b (.lst ([V.int c0, V.int c1, V.int c2].set 2 (V.int (c2 + 1))))) b = some (.lst [V.int c0, V.int c1, V.int (c2 + 1)]) := upd_same
    have sq2 : SqL K (upd H b (.lst ([V.int c0, V.int c1, V.int c2].set 2 (V.int (c2 + 1))))) b [V.int c0, V.int c1, V.int (c2 + 1)] := SqL.of hb2
    have last : ∀ z : Int, Q (V.int (z % (k : Int))) (upd H b (.lst ([V.int c0, V.int c1, V.int c2].set 2 (V.int (c2 + 1))))) := fun z => by
      have e : z % (k : Int) = ((z % (k : Int)).toNat : Int) := by
        have := Int.emod_nonneg z (show (k : Int) ≠ 0 by omega)
        omega
      rw [e]
      refine q _ _ ?_ (ExB.mut .refl) ⟨_, _, _, hb2, by omega, by omega⟩
      have := Int.emod_lt_of_pos z (show (0 : Int) < k by omega)
      omega
    -- once
    refine ⟨_, rfl, b, _, 1, _, rfl, rfl, sq2, rfl, ?_⟩
    refine ⟨_, rfl, b, _, 2, _, rfl, rfl, sq2, rfl, _, _, rfl, rfl, .inl ⟨by decide, by decide⟩, _, _, rfl, rfl, ?_⟩
    refine ⟨_, rfl, b, _, 2, _, rfl, rfl, sq2, rfl, _, _, rfl, rfl, _, _, rfl, rfl, .inr ⟨by omega, by omega⟩, .inl ⟨_, rfl, _, _, rfl, rfl, (by show (0 : Int) < 2147483647; decide), ?_⟩⟩
    -- odd
    refine ⟨_, rfl, .inl ⟨_, rfl, _, _, rfl, rfl, (by show (0 : Int) < 40009; decide), _, _, rfl, rfl, ?_⟩⟩
    -- twice
    generalize hon : (c1 + 48271 * (c2 + 1)) * (39373 + (c2 + 1)) % 2147483647 = once
    refine ⟨_, rfl, _, rfl, b, _, 2, _, rfl, rfl, sq2, rfl, _, _, rfl, rfl, _, rfl, b, _, 1, _, rfl, rfl, sq2, rfl, _, _, rfl, rfl, ⟨by decide, by decide⟩, _, _, rfl, rfl, ?_⟩
    have ho := Int.emod_nonneg once (show (40009 : Int) ≠ 0 by decide)
    have ho2 := Int.emod_lt_of_pos once (show (0 : Int) < 40009 by decide)
    refine ⟨_, rfl, _, _, rfl, rfl, .inr ⟨by omega, by omega⟩, .inl ⟨_, rfl, _, _, rfl, rfl, (by show (0 : Int) < 2147483629; decide), ?_⟩⟩
    -- the answer
    refine ⟨_, rfl, _, _, rfl, rfl, .inr ⟨by decide, by decide⟩, _, rfl, _, _, rfl, rfl, .inl ⟨_, rfl, _, _, rfl, rfl, (by show (0 : Int) < 2147483587; decide), _, _, rfl, rfl, ⟨by decide, by decide⟩, .inl ⟨_, rfl, _, rfl, _, _, rfl, rfl, (by omega), ?_⟩⟩⟩
    exact last _
end RG

set_option Elab.async false
set_option linter.all false
set_option maxRecDepth 100000
set_option maxHeartbeats 400000
namespace RG
open PySem PySem.Spec PyProof.Rows L2
variable {P : Program} {w : World} {K : PySem.W.Frag} {mg : Str → Option Value} {base : Heap}
/-! ### one of a list -/
theorem SqL.exb {b p : Addr} {xs : List V} {H H' : Hp} (e : ExB b H H') (n : p ≠ b) (h : SqL K H p xs) : SqL K H' p xs := by
  rcases h with (h | ⟨o, h⟩) | h
  · exact .inl (.inl (e _ _ n h))
  · exact .inl (.inr ⟨o, e _ _ n h⟩)
  · exact .inr h
def spOne (K : PySem.W.Frag) : Sp := fun vs H Q _ => ∃ (b p : Addr) (xs : List V) (m : Nat), vs = [.ref b, .ref p] ∧ p ≠ b ∧ SqL K H p xs ∧ 0 < xs.length ∧ xs.length ≤ 10000 ∧ BoxAt H b (m + 1) ∧ ∀ (i : Nat) v H', xs[i]? = some v → ExB b H H' → BoxAt H' b m → Q v H'
theorem ok_one (T : Txt K mg) (D_L_take : DefOk P w K mg base CX0 "_law_take" p_L_take 1 spTake) : DefOk P w K mg base CX0 "_law_of" p_L_of 2 (spOne K) := by
  obtain ⟨fd, F⟩ := T.F_L_of
  refine ⟨⟨_, fd, T.g_L_of, F.kp, F.bindsN (ps := p_L_of) (fun _ _ _ _ _ _ us hl => match us, hl with | [_, _], _ => rfl), F.ok sc_L_of (fun vs H Q E h => ?_) fun cdv A outer s H vs Q E hr h => ?_⟩⟩
  · obtain ⟨b, p, xs, m, rfl, _⟩ := h
    rfl
  obtain ⟨b, p, xs, m, rfl, hn, hp, h0, hl, hb, q⟩ := h
  refine ⟨_, PSs.nox (pss_one (ps_ret (pe_ix (r := rIxL K) ix_list (pv 1) (pe_d D_L_take (hr.mono (by omega)) pass0 (pa_cons (pv 0) (pa_cons (pe_callB (r := Evl.rLenS K) call_len_seq rfl T.f_len b_len (pa_cons (pv 1) pa_nil)) pa_nil))) (fun _ _ => rfl)))), ?_⟩
  refine ⟨_, rfl, _, rfl, _, rfl, p, xs, rfl, .inl hp, b, xs.length, m, rfl, h0, by omega, hb, fun r H1 hr e1 b1 => ?_⟩
  exact ⟨p, xs, r, _, rfl, rfl, SqL.exb e1 hn hp, at_of rfl (List.getElem?_eq_getElem hr), q r _ H1 (List.getElem?_eq_getElem hr) e1 b1⟩
/-! ### fraction, as the law has it -/
theorem ok_L_fraction (T : Txt K mg) : DefOk P w K mg base CX0 "_law_fraction" p_L_fraction 1 spFrac := by
  obtain ⟨fd, F⟩ := T.F_L_fraction
  refine ⟨⟨_, fd, T.g_L_fraction, F.kp, F.bindsN (ps := p_L_fraction) (fun _ _ _ _ _ _ us hl => match us, hl with | [_, _], _ => rfl), F.ok sc_L_fraction (fun vs H Q E h => ?_) fun cdv A outer s H vs Q E hr h => ?_⟩⟩
  · obtain ⟨t, b, rfl, _⟩ := h
    rfl
  obtain ⟨t, b, rfl, hb, hb2, q⟩ := h
  refine ⟨_, PSs.nox (pss_cons (ps_par (i := 2) (j := 3) rfl sc_L_fraction.nd rfl rfl (by decide) rfl rfl (pa_cons (pe_callB call_abs rfl T.f_abs b_abs (pa_cons (pv 0) pa_nil)) (pa_cons (pv 1) pa_nil)) (by rfl)) (pss_cons (ps_while PassesOwn.never (pt_cmpR op_gt (pv 2) pe_int (nomark _)) (pss_one (ps_par (i := 2) (j := 3) rfl sc_L_fraction.nd rfl rfl (by decide) rfl rfl (pa_cons (pe_op op_mod (pv 3) (pv 2)) (pa_cons (pv 2) pa_nil)) (by rfl)))) (pss_one (ps_ret (pe_tup (pa_cons (pe_op op_fdiv (pv 0) (pv 3)) (pa_cons (pe_op op_fdiv (pv 1) (pv 3)) pa_nil))))))), ?_⟩
  have ea : (if t < 0 then -t else t) = ((t.natAbs : Nat) : Int) := by
    by_cases c : t < 0
    · rw [if_pos c]; omega
    · rw [if_neg c]; omega
  refine ⟨_, rfl, _, rfl, _, rfl, _, _, rfl, ?_⟩
  refine ⟨fun m σ H' => ∃ x y : Nat, σ = [some (.int t), some (.int b), some (.int x), some (.int y)] ∧ H = H' ∧ Nat.gcd x y = Nat.gcd t.natAbs b ∧ 0 < x + y ∧ x = m, ⟨_, t.natAbs, b, by rw [← ea]; rfl, rfl, rfl, by omega, rfl⟩, ?_⟩
  rintro m σ H' ⟨x, y, rfl, rfl, hg, h0, rfl⟩
  refine ⟨_, rfl, _, _, rfl, rfl, _, rfl, ?_⟩
  refine ite2 (fun c => ?_) (fun c => ?_)
  · have c' : (0 : Int) < (x : Int) := of_decide_eq_true c
    refine ⟨fun σ' H' => ∃ x' y' : Nat, x' < x ∧ σ' = [some (.int t), some (.int b), some (.int x'), some (.int y')] ∧ H = H' ∧ Nat.gcd x' y' = Nat.gcd t.natAbs b ∧ 0 < x' + y', ?_, ?_⟩
    · rintro σ' H' ⟨x', y', h1, rfl, rfl, h2, h3⟩
      exact ⟨x', h1, x', y', rfl, rfl, h2, h3, rfl⟩
    · refine ⟨_, rfl, _, rfl, _, _, rfl, rfl, c', _, rfl, _, _, rfl, y % x, x, Nat.mod_lt _ (by omega), ?_, rfl, ?_, by omega⟩
      · show [some (V.int t), some (V.int b), some (V.int ((y : Int) % (x : Int))), some (V.int (x : Int))] = _
        rw [Int.natCast_emod]
      · rw [← hg, ← Nat.gcd_rec]
  · have c' : ¬ (0 : Int) < (x : Int) := of_decide_eq_false (Bool.eq_false_iff.mpr c)
    have ex : x = 0 := by omega
    subst ex
    have ey : y = Nat.gcd t.natAbs b := by rw [← hg, Nat.gcd_zero_left]
    have hy : 0 < y := by omega
    have hy2 : y ≤ b := by rw [ey]; exact Nat.gcd_le_right _ hb
    refine ⟨_, rfl, _, rfl, _, _, rfl, rfl, ⟨by omega, by omega⟩, _, rfl, _, rfl, _, _, rfl, rfl, ⟨by omega, by omega⟩, (by show 2 ≤ sizeLine; decide), fun p hp => q p _ (Evl.Ex.new hp) ?_⟩
    rw [upd_same]
    unfold frac
    rw [← ey]
/-! ### trees by tuples -/
theorem trt_nd {H : Hp} {v : V} {l r : Tr} (h : Dp K H v (Tr.nd l r).tp) : ∃ p x y, v = .ref p ∧ SqT K H p [x, y] ∧ Dp K H x l.tp ∧ Dp K H y r.tp := by
  cases h with
  | tup h a =>
    cases a with
    | cons h1 h2 =>
      cases h2 with
      | cons h3 h4 =>
        cases h4
        exact ⟨_, _, _, rfl, h, h1, h3⟩
theorem trt_lf {H : Hp} {v : V} {n : Nat} (h : Dp K H v (Tr.lf n).tp) : v = .int n := by
  cases h
  rfl
def spLEnds (K : PySem.W.Frag) : Sp := fun vs H Q _ => ∃ v t, vs = [v] ∧ Dp K H v (Tr.tp t) ∧ ∀ p H', Ex H H' → H' p = some (.tup [.int t.fst, .int t.lst]) → Q (.ref p) H'
theorem ok_L_ends (T : Txt K mg) : DefOk P w K mg base CX0 "_law_ends" p_L_ends 1 (spLEnds K) := by
  obtain ⟨fd, F⟩ := T.F_L_ends
  refine ⟨⟨_, fd, T.g_L_ends, F.kp, F.bindsN (ps := p_L_ends) (fun _ _ _ _ _ _ us hl => match us, hl with | [_], _ => rfl), F.ok sc_L_ends (fun vs H Q E h => ?_) fun cdv A outer s H vs Q E hr h => ?_⟩⟩
  · obtain ⟨v, t, rfl, _⟩ := h
    rfl
  obtain ⟨v, t, rfl, ht, q⟩ := h
  refine ⟨_, PSs.nox (pss_cons (ps_par (i := 1) (j := 2) rfl sc_L_ends.nd rfl rfl (by decide) rfl rfl (pa_cons (pv 0) (pa_cons (pv 0) pa_nil)) (by rfl)) (pss_cons (ps_while PassesOwn.never (pt_val (pe_callB (r := rIsi K) call_isi rfl T.f_isinstance b_isinstance (pa_cons (pv 1) (pa_cons (pe_bltn (v := .ty "tuple") rfl T.f_tuple b_tuple rfl) pa_nil)))) (pss_one (ps_set (i := 1) sc_L_ends.nd rfl (Or.inl rfl) (pe_ix (r := rIxT K) ix_tup (pv 1) pe_int (fun _ _ => rfl))))) (pss_cons (ps_while PassesOwn.never (pt_val (pe_callB (r := rIsi K) call_isi rfl T.f_isinstance b_isinstance (pa_cons (pv 2) (pa_cons (pe_bltn (v := .ty "tuple") rfl T.f_tuple b_tuple rfl) pa_nil)))) (pss_one (ps_set (i := 2) sc_L_ends.nd rfl (Or.inl rfl) (pe_ix (r := rIxT K) ix_tup (pv 2) pe_int (fun _ _ => rfl))))) (pss_one (ps_ret (pe_tup (pa_cons (pv 1) (pa_cons (pv 2) pa_nil)))))))), ?_⟩
  refine ⟨_, rfl, _, rfl, _, _, rfl, ?_⟩
  refine ⟨fun m σ H' => ∃ x u, σ = [some v, some x, some v] ∧ H = H' ∧ Dp K H x (Tr.tp u) ∧ u.fst = t.fst ∧ m = u.ht, ⟨_, v, t, rfl, rfl, ht, rfl, rfl⟩, ?_⟩
  rintro m σ H' ⟨x, u, rfl, rfl, hu, hf, rfl⟩
  refine ⟨_, rfl, _, _, _, _, _, rfl, .ty _, dp_ty hu, kit_tuple _, _, rfl, ?_⟩
  cases u with
  | nd l r =>
    obtain ⟨p, y, z, rfl, hs, hy, hz⟩ := trt_nd hu
    refine ifT rfl ⟨fun σ' H' => ∃ y, Dp K H y l.tp ∧ σ' = [some v, some y, some v] ∧ H = H', ?_, _, rfl, p, _, 0, _, rfl, rfl, hs, rfl, y, hy, rfl, rfl⟩
    rintro σ' H' ⟨y, hy, rfl, rfl⟩
    exact ⟨l.ht, by show l.ht < max l.ht r.ht + 1; omega, y, l, rfl, rfl, hy, hf, rfl⟩
  | lf n =>
    obtain rfl := trt_lf hu
    refine ifF rfl ?_
    have en : n = t.fst := hf
    subst en
    refine ⟨fun m σ H' => ∃ x u, σ = [some v, some (.int t.fst), some x] ∧ H = H' ∧ Dp K H x (Tr.tp u) ∧ u.lst = t.lst ∧ m = u.ht, ⟨_, v, t, rfl, rfl, ht, rfl, rfl⟩, ?_⟩
    rintro m σ H' ⟨x, u, rfl, rfl, hu, hl, rfl⟩
    refine ⟨_, rfl, _, _, _, _, _, rfl, .ty _, dp_ty hu, kit_tuple _, _, rfl, ?_⟩
    cases u with
    | nd l r =>
      obtain ⟨p, y, z, rfl, hs, hy, hz⟩ := trt_nd hu
      refine ifT rfl ⟨fun σ' H' => ∃ y, Dp K H y r.tp ∧ σ' = [some v, some (.int t.fst), some y] ∧ H = H', ?_, _, rfl, p, _, 1, _, rfl, rfl, hs, rfl, z, hz, rfl, rfl⟩
      rintro σ' H' ⟨y, hy, rfl, rfl⟩
      exact ⟨r.ht, by show r.ht < max l.ht r.ht + 1; omega, y, r, rfl, rfl, hy, hl, rfl⟩
    | lf n =>
      obtain rfl := trt_lf hu
      refine ifF rfl ?_
      have en : n = t.lst := hl
      subst en
      exact ⟨_, rfl, _, rfl, (by show 2 ≤ sizeLine; decide), fun p hp => q p _ (Evl.Ex.new hp) upd_same⟩
/-! ### pairs -/
def spLPairs (K : PySem.W.Frag) (n : Nat) : Sp := fun vs H Q _ => ∃ v t, vs = [v] ∧ Dp K H v (Tr.tp t) ∧ t.ht < n ∧ t.trip.length ≤ 1000 ∧ ∀ r H', Ex H H' → LO RTrip H' r t.trip → Q r H'
theorem L_pairs_none (T : Txt K mg) {k : Nat} : DefOk P w K mg base CX0 "_law_pairs" p_L_pairs k (spLPairs K 0) := by
  have no : ∀ vs H Q E, ¬ spLPairs K 0 vs H Q E := fun vs H Q E ⟨_, _, _, _, h, _⟩ => absurd h (Nat.not_lt_zero _)
  obtain ⟨fd, F⟩ := T.F_L_pairs
  exact ⟨⟨_, fd, T.g_L_pairs, F.kp, F.bindsN (ps := p_L_pairs) (fun _ _ _ _ _ _ us hl => match us, hl with | [_], _ => rfl), fn_none no⟩⟩
theorem L_pairs_more (T : Txt K mg) (D_L_ends : DefOk P w K mg base CX0 "_law_ends" p_L_ends 1 (spLEnds K)) {n : Nat} (D_L_pairs : DefOk P w K mg base CX0 "_law_pairs" p_L_pairs (n + 2) (spLPairs K n)) :
    DefOk P w K mg base CX0 "_law_pairs" p_L_pairs (n + 3) (spLPairs K (n + 1)) := by
  obtain ⟨fd, F⟩ := T.F_L_pairs
  refine ⟨⟨_, fd, T.g_L_pairs, F.kp, F.bindsN (ps := p_L_pairs) (fun _ _ _ _ _ _ us hl => match us, hl with | [_], _ => rfl), F.ok sc_L_pairs (fun vs H Q E h => ?_) fun cdv A outer s H vs Q E hr h => ?_⟩⟩
  · obtain ⟨v, t, rfl, _⟩ := h
    rfl
  obtain ⟨v, t, rfl, ht, hh, hz, q⟩ := h
  refine ⟨_, PSs.nox (pss_cons (ps_if (pt_not (pt_val (pe_callB (r := rIsi K) call_isi rfl T.f_isinstance b_isinstance (pa_cons (pv 0) (pa_cons (pe_bltn (v := .ty "tuple") rfl T.f_tuple b_tuple rfl) pa_nil))))) (pss_one (ps_ret (pe_lst pa_nil))) pss_nil) (pss_cons (ps_asg (pe_d D_L_ends (hr.mono (by omega)) pass0 (pa_cons (pe_ix (r := rIxT K) ix_tup (pv 0) pe_int (fun _ _ => rfl)) pa_nil)) (pg_tup rfl (pgs_cons (pg_name (i := 1) sc_L_pairs.nd rfl (Or.inl rfl)) (pgs_cons (pg_name (i := 2) sc_L_pairs.nd rfl (Or.inl rfl)) pgs_nil)))) (pss_one (ps_ret (pe_op op_cat (pe_op op_cat (pe_d D_L_pairs (hr.mono (by omega)) pass0 (pa_cons (pe_ix (r := rIxT K) ix_tup (pv 0) pe_int (fun _ _ => rfl)) pa_nil)) (pe_lst (pa_cons (pe_tup (pa_cons (pv 1) (pa_cons (pv 2) (pa_cons (pe_ix (r := rIxT K) ix_tup (pe_d D_L_ends (hr.mono (by omega)) pass0 (pa_cons (pe_ix (r := rIxT K) ix_tup (pv 0) pe_int (fun _ _ => rfl)) pa_nil)) pe_int (fun _ _ => rfl)) pa_nil)))) pa_nil))) (pe_d D_L_pairs (hr.mono (by omega)) pass0 (pa_cons (pe_ix (r := rIxT K) ix_tup (pv 0) pe_int (fun _ _ => rfl)) pa_nil))))))), ?_⟩
  refine ⟨_, rfl, _, _, _, _, _, rfl, .ty _, dp_ty ht, kit_tuple _, _, rfl, ?_⟩
  cases t with
  | lf m =>
    refine ifT rfl ⟨(by show 0 ≤ sizeLine; decide), fun p hp => q _ _ (Evl.Ex.new hp) ⟨p, _, rfl, upd_same, .nil⟩⟩
  | nd l r =>
    obtain ⟨pt, x, y, rfl, hs, hx, hy⟩ := trt_nd ht
    have hz' : l.trip.length + (r.trip.length + 1) ≤ 1000 := by
      have e : (Tr.nd l r).trip.length = l.trip.length + (r.trip.length + 1) := by
        show (l.trip ++ (l.fst, l.lst, r.lst) :: r.trip).length = _
        rw [List.length_append, List.length_cons]
      rw [← e]
      exact hz
    have hl : l.ht < n := by have : max l.ht r.ht + 1 < n + 1 := hh; omega
    have hr' : r.ht < n := by have : max l.ht r.ht + 1 < n + 1 := hh; omega
    refine ifF rfl ?_
    refine ⟨_, rfl, pt, _, 0, _, rfl, rfl, hs, rfl, x, l, rfl, hx, fun p1 H1 e1 h1 => ⟨p1, _, rfl, SqT.of h1, rfl, _, _, rfl, _, _, rfl, rfl, ?_⟩⟩
    refine ⟨_, rfl, pt, _, 0, _, rfl, rfl, Evl.ex_t e1 hs, rfl, x, l, rfl, dp_ex e1 hx, hl, by omega, fun r2 H2 e2 l2 => ?_⟩
    have e02 := e1.trans e2
    refine ⟨_, rfl, _, rfl, _, rfl, pt, _, 1, _, rfl, rfl, Evl.ex_t e02 hs, rfl, y, r, rfl, dp_ex e02 hy, fun p3 H3 e3 h3 => ⟨p3, _, 1, _, rfl, rfl, SqT.of h3, rfl, (by show 3 ≤ sizeLine; decide), fun p4 hp4 => ?_⟩⟩
    have e4 := Evl.Ex.new (o := .tup [V.int (l.fst : Int), V.int (l.lst : Int), V.int (r.lst : Int)]) hp4
    refine ⟨(by show 1 ≤ sizeLine; decide), fun p5 hp5 => ?_⟩
    have e5 := e4.trans (Evl.Ex.new (o := .lst [V.ref p4]) hp5)
    obtain ⟨q2, vs2, rfl, hq2, pr2⟩ := (l2.ex mono_trip e3).ex mono_trip e5
    have n2 := pr2.length
    refine ⟨q2, p5, vs2, [V.ref p4], rfl, rfl, hq2, upd_same, sz_le (by rw [List.length_cons, List.length_nil]; omega), fun p6 hp6 => ?_⟩
    have e6 := e5.trans (Evl.Ex.new (o := .lst (vs2 ++ [V.ref p4])) hp6)
    have e06 := (e02.trans e3).trans e6
    refine ⟨_, rfl, pt, _, 1, _, rfl, rfl, Evl.ex_t e06 hs, rfl, y, r, rfl, dp_ex e06 hy, hr', by omega, fun r7 H7 e7 l7 => ?_⟩
    obtain ⟨q7, vs7, rfl, hq7, pr7⟩ := l7
    have n7 := pr7.length
    have h6 := e7 _ _ (upd_same (H := _) (a := p6) (o := .lst (vs2 ++ [V.ref p4])))
    refine ⟨p6, q7, _, vs7, rfl, rfl, h6, hq7, sz_le (by rw [List.length_append, List.length_cons, List.length_nil]; omega), fun p8 hp8 => ?_⟩
    have e8 := e7.trans (Evl.Ex.new (o := .lst (vs2 ++ [V.ref p4] ++ vs7)) hp8)
    refine q _ _ (e06.trans e8) ⟨p8, _, rfl, upd_same, ?_⟩
    have et : (Tr.nd l r).trip = (l.trip ++ [(l.fst, l.lst, r.lst)]) ++ r.trip := by
      show l.trip ++ (l.fst, l.lst, r.lst) :: r.trip = _
      rw [List.append_assoc]
      rfl
    rw [et]
    have e68 := (Evl.Ex.new (o := .lst (vs2 ++ [V.ref p4])) hp6).trans e8
    have e58 := (Evl.Ex.new (o := .lst [V.ref p4]) hp5).trans e68
    refine paired_app (paired_app (Paired.mapP pr2 fun _ _ z => mono_trip _ _ _ _ e68 z) (.cons ⟨p4, rfl, e58 _ _ upd_same⟩ .nil)) (Paired.mapP pr7 fun _ _ z => mono_trip _ _ _ _ (Evl.Ex.new (o := .lst (vs2 ++ [V.ref p4] ++ vs7)) hp8) z)
theorem ok_L_pairs (T : Txt K mg) (D_L_ends : DefOk P w K mg base CX0 "_law_ends" p_L_ends 1 (spLEnds K)) : ∀ n : Nat, DefOk P w K mg base CX0 "_law_pairs" p_L_pairs (n + 2) (spLPairs K n)
  | 0 => L_pairs_none T
  | n + 1 => L_pairs_more T D_L_ends (ok_L_pairs T D_L_ends n)
/-! ### arms, goes -/
def spLArms (K : PySem.W.Frag) : Sp := fun vs H Q _ => ∃ v t, vs = [v] ∧ Dp K H v (Tr.tp t) ∧ t.ht < 8 ∧ t.trip.length ≤ 1000 ∧ ∀ r H', Ex H H' → TO RNat H' r t.rch → Q r H'
theorem ok_L_arms (T : Txt K mg) (D_L_pairs : DefOk P w K mg base CX0 "_law_pairs" p_L_pairs 10 (spLPairs K 8)) : DefOk P w K mg base CX0 "_law_arms" p_L_arms 11 (spLArms K) := by
  obtain ⟨fd, F⟩ := T.F_L_arms
  refine ⟨⟨_, fd, T.g_L_arms, F.kp, F.bindsN (ps := p_L_arms) (fun _ _ _ _ _ _ us hl => match us, hl with | [_], _ => rfl), F.ok sc_L_arms (fun vs H Q E h => ?_) fun cdv A outer s H vs Q E hr h => ?_⟩⟩
  · obtain ⟨v, t, rfl, _⟩ := h
    rfl
  obtain ⟨v, t, rfl, ht, hh, hz, q⟩ := h
  refine ⟨_, PSs.nox (pss_one (ps_ret (pe_callTy (r := rTupOf K) call_tuple_of rfl T.f_tuple b_tuple (pa_cons (pe_lc (own := [("_law_own", 1)]) (g := (gName 1)) rfl sc_L_arms.nd (pi_list (pe_d D_L_pairs (hr.mono (by omega)) pass0 (pa_cons (pv 0) pa_nil))) (blkOk_by (own := [("_law_own", 1)]) (N := n_L_arms) (sc := (defScope s_L_arms)) (by decide +kernel)) (fun _ _ _ _ _ => (by exact (pg_name (i := 1) sc_L_arms.nd rfl (Or.inl rfl)))) (fun _ _ _ _ _ => pts_nil) (fun _ _ _ _ _ => (pe_ix (r := rIxT K) ix_tup (pv 1) pe_int (fun _ _ => rfl)))) pa_nil)))), ?_⟩
  refine ⟨_, rfl, v, t, rfl, ht, hh, hz, fun r H1 e1 l1 => ?_⟩
  obtain ⟨p, vs, rfl, hp, pr⟩ := l1
  refine ⟨p, rfl, ⟨_, SqL.of hp⟩, fun D hD => lc_map (fun z => z.2.2) (src_list mono_trip (SqL.of hp) pr) monoT_nat (by omega) (fun i z x H2 _ e ⟨q, hx, hq⟩ Ky ky => ?_) gm_name hD fun ys H2 e hy py => ?_⟩
  · exact ⟨rfl, _, rfl, q, _, 2, _, hx, rfl, SqT.of hq, rfl, ky _ _ (exr _) rfl⟩
  · exact ⟨D, ys, rfl, .inl ⟨SqL.of hy, fun l hl => q _ _ ((e1.trans e).trans (Evl.Ex.new hl)) ⟨l, ys, rfl, upd_same, Paired.mapP py fun _ _ z => z⟩⟩⟩
def goesF (t u : Tr) : Bool := (t.rch.zip u.rch).all fun z => decide (z.1 ≤ z.2)
def spGoes (K : PySem.W.Frag) : Sp := fun vs H Q _ => ∃ v w t u, vs = [v, w] ∧ Dp K H v (Tr.tp t) ∧ Dp K H w (Tr.tp u) ∧ t.ht < 8 ∧ t.trip.length ≤ 1000 ∧ u.ht < 8 ∧ u.trip.length ≤ 1000 ∧ ∀ H', Ex H H' → Q (.bl (goesF t u)) H'
theorem ok_goes (T : Txt K mg) (D_L_arms : DefOk P w K mg base CX0 "_law_arms" p_L_arms 11 (spLArms K)) : DefOk P w K mg base CX0 "_law_goes" p_L_goes 12 (spGoes K) := by
  obtain ⟨fd, F⟩ := T.F_L_goes
  refine ⟨⟨_, fd, T.g_L_goes, F.kp, F.bindsN (ps := p_L_goes) (fun _ _ _ _ _ _ us hl => match us, hl with | [_, _], _ => rfl), F.ok sc_L_goes (fun vs H Q E h => ?_) fun cdv A outer s H vs Q E hr h => ?_⟩⟩
  · obtain ⟨v, w', t, u, rfl, _⟩ := h
    rfl
  obtain ⟨v, w', t, u, rfl, ht, hu, h1, h2, h3, h4, q⟩ := h
  refine ⟨_, PSs.nox (pss_one (ps_ret (pe_callB (r := rAll K) (cr_all rfl) rfl T.f_all b_all (pa_cons (pe_lc (own := [("_law_mine", 2), ("_law_its", 3)]) (g := (gTup K 2 (gCons (gName 2) (gCons (gName 3) gNil)))) rfl sc_L_goes.nd (RZ.pi_zipA rfl T.f_zip (pa_cons (pe_d D_L_arms (hr.mono (by omega)) pass0 (pa_cons (pv 0) pa_nil)) (pa_cons (pe_d D_L_arms (hr.mono (by omega)) pass0 (pa_cons (pv 1) pa_nil)) pa_nil))) (blkOk_by (own := [("_law_mine", 2), ("_law_its", 3)]) (N := n_L_goes) (sc := (defScope s_L_goes)) (by decide +kernel)) (fun _ _ _ _ _ => (by exact (pg_tup rfl (pgs_cons (pg_name (i := 2) sc_L_goes.nd rfl (Or.inl rfl)) (pgs_cons (pg_name (i := 3) sc_L_goes.nd rfl (Or.inl rfl)) pgs_nil))))) (fun _ _ _ _ _ => pts_nil) (fun _ _ _ _ _ => (pe_cmpR op_le (pv 2) (pv 3) (nomark _)))) pa_nil)))), ?_⟩
  refine ⟨_, rfl, v, t, rfl, ht, h1, h2, fun r1 H1 e1 l1 => ?_⟩
  refine ⟨_, rfl, w', u, rfl, dp_ex e1 hu, h3, h4, fun r2 H2 e2 l2 => ?_⟩
  obtain ⟨p1, us1, rfl, hp1, pr1⟩ := TO.ex mono_nat e2 l1
  obtain ⟨p2, us2, rfl, hp2, pr2⟩ := l2
  have l3 : t.rch.length ≤ 1000 := by
    show (t.trip.map _).length ≤ 1000
    rw [List.length_map]
    exact h2
  refine ⟨p1, p2, _, _, rfl, .inr ⟨SqT.of hp1, SqT.of hp2, fun D hD => ?_⟩⟩
  refine lc_map (γ := Bool) (fun z : Nat × Nat => decide (z.1 ≤ z.2)) (src_zipT mono_nat mono_nat (SqT.of hp1) pr1 (SqT.of hp2) pr2) monoT_bl (by rw [List.length_zip]; omega) (fun i z x H4 hz e4 r4 Ky ky => ?_) gm_tup2 hD fun ys H4 e4 hy py => ?_
  · obtain ⟨q4, x4, y4, rfl, hq4, rfl, rfl⟩ := r4
    refine gtup2 rfl hq4 ⟨rfl, ?_⟩
    refine ⟨_, rfl, _, rfl, _, _, rfl, rfl, ky _ _ (exr _) ?_⟩
    show V.bl _ = V.bl _
    congr 1
    rw [decide_eq_decide]
    omega
  · have ey := paired_bl py
    refine ⟨D, _, rfl, by rw [← ey]; exact SqL.of hy, ?_⟩
    have ea : ((t.rch.zip u.rch).map fun z : Nat × Nat => decide (z.1 ≤ z.2)).all id = goesF t u := by
      rw [List.all_map]
      rfl
    rw [ea]
    exact q _ ((e1.trans e2).trans e4)
end RG

set_option Elab.async false
set_option linter.all false
set_option maxRecDepth 100000
set_option maxHeartbeats 400000
namespace RG
open PySem PySem.Spec PyProof.Rows L2
variable {P : Program} {w : World} {K : PySem.W.Frag} {mg : Str → Option Value} {base : Heap}
/-! ### all trees -/
def RTr (K : PySem.W.Frag) (H : Hp) (v : V) (t : Tr) : Prop := Dp K H v t.tp
theorem mono_tr : MonoR (RTr K) := fun _ _ _ _ e h => dp_ex e h
theorem sqt_exT {H H' : Hp} {p : Addr} {xs : List V} (e : ExT H H') (h : SqT K H p xs) : SqT K H' p xs := by
  rcases h with (h | ⟨o, h⟩) | h
  · exact .inl (.inl (e _ _ (fun _ z => nomatch z) h))
  · exact .inl (.inr ⟨o, e _ _ (fun _ z => nomatch z) h⟩)
  · exact .inr h
theorem monoT_tr : MonoT (RTr K) := fun H H' v t e h => by
  have key : ∀ (t : Tr) (v : V), Dp K H v t.tp → Dp K H' v t.tp := by
    intro t
    induction t with
    | lf n => intro v h; rw [trt_lf h]; exact .int _
    | nd l r il ir =>
      intro v h
      obtain ⟨p, x, y, rfl, hs, hx, hy⟩ := trt_nd h
      exact .tup (sqt_exT e hs) (.cons (il _ hx) (.cons (ir _ hy) .nil))
  exact key t v h
theorem RTr.exb {H H' : Hp} {b : Addr} {xs : List V} (e : ExB b H H') (hb : H b = some (.lst xs)) : ∀ {t : Tr} {v : V}, RTr K H v t → RTr K H' v t := by
  intro t
  induction t with
  | lf n => intro v h; rw [trt_lf h]; exact .int _
  | nd l r il ir =>
    intro v h
    obtain ⟨p, x, y, rfl, hs, hx, hy⟩ := trt_nd h
    refine .tup ?_ (.cons (il hx) (.cons (ir hy) .nil))
    rcases hs with (h | ⟨o, h⟩) | h
    · exact .inl (.inl (e _ _ (fun z => by rw [z, hb] at h; cases h) h))
    · exact .inl (.inr ⟨o, e _ _ (fun z => by rw [z, hb] at h; cases h) h⟩)
    · exact .inr h
def allT (a b : Nat) : List Nat := (List.range (b - a)).map (a + ·)
theorem allT_ok : TpOk allT := fun a b j h => by
  obtain ⟨i, hi, e⟩ := List.mem_map.mp h
  have h2 := List.mem_range.mp hi
  omega
theorem allT_sm : TpSm allT := fun a b => by
  unfold allT
  rw [List.length_map, List.length_range]
  exact Nat.le_refl _
theorem sz3 {n : Nat} (h : n ≤ 3000000) : n ≤ sizeLine := Nat.le_trans h (by rw [sizeLine_eq]; exact Nat.le_of_ble_eq_true rfl)
theorem cub4 : cub 4 = 576 := by decide +kernel
def spEvery (K : PySem.W.Frag) (n : Nat) : Sp := fun vs H Q _ => ∃ (a b : Nat), vs = [.int a, .int b] ∧ 1 ≤ a ∧ a ≤ b ∧ b ≤ 6 ∧ b - a < n ∧ ∀ p vs' H', Ex H H' → H p = none → H' p = some (.lst vs') → Paired (RTr K H') vs' (GD allT a b) → Q (.ref p) H'
theorem every_none (T : Txt K mg) {k : Nat} : DefOk P w K mg base CX0 "_law_every" p_L_every k (spEvery K 0) := by
  have no : ∀ vs H Q E, ¬ spEvery K 0 vs H Q E := fun vs H Q E ⟨_, _, _, _, _, _, h, _⟩ => absurd h (Nat.not_lt_zero _)
  obtain ⟨fd, F⟩ := T.F_L_every
  exact ⟨⟨_, fd, T.g_L_every, F.kp, F.bindsN (ps := p_L_every) (fun _ _ _ _ _ _ us hl => match us, hl with | [_, _], _ => rfl), fn_none no⟩⟩
theorem every_more (T : Txt K mg) {n : Nat} (D_L_every : DefOk P w K mg base CX0 "_law_every" p_L_every n (spEvery K n)) : DefOk P w K mg base CX0 "_law_every" p_L_every (n + 1) (spEvery K (n + 1)) := by
  obtain ⟨fd, F⟩ := T.F_L_every
  refine ⟨⟨_, fd, T.g_L_every, F.kp, F.bindsN (ps := p_L_every) (fun _ _ _ _ _ _ us hl => match us, hl with | [_, _], _ => rfl), F.ok sc_L_every (fun vs H Q E h => ?_) fun cdv A outer s H vs Q E hr h => ?_⟩⟩
  · obtain ⟨a, b, rfl, _⟩ := h
    rfl
  obtain ⟨a, b, rfl, ha, hab, hb6, hn, q⟩ := h
  refine ⟨_, PSs.nox (pss_cons (ps_if (pt_cmpR op_eq (pv 0) (pv 1) (nomark _)) (pss_one (ps_ret (pe_lst (pa_cons (pv 0) pa_nil)))) pss_nil) (pss_cons (ps_set (i := 2) sc_L_every.nd rfl (Or.inl rfl) (pe_lst pa_nil)) (pss_cons (ps_for PassesOwn.never rfl (pi_range2 rfl T.f_range (pa_cons (pv 0) (pa_cons (pv 1) pa_nil))) (pg_name (i := 3) sc_L_every.nd rfl (Or.inl rfl)) (pss_cons (ps_set (i := 4) sc_L_every.nd rfl (Or.inl rfl) (pe_d D_L_every (hr.mono (by omega)) pass0 (pa_cons (pe_op op_add (pv 3) pe_int) (pa_cons (pv 1) pa_nil)))) (pss_one (ps_for PassesOwn.never rfl (pi_list (pe_d D_L_every (hr.mono (by omega)) pass0 (pa_cons (pv 0) (pa_cons (pv 3) pa_nil)))) (pg_name (i := 5) sc_L_every.nd rfl (Or.inr rfl)) (pss_one (ps_set (i := 2) sc_L_every.nd rfl (Or.inl rfl) (pe_op op_cat (pv 2) (pe_lc (own := [("_law_far", 6)]) (g := (gName 6)) rfl sc_L_every.nd (pi_list (pv 4)) (blkOk_by (own := [("_law_far", 6)]) (N := n_L_every) (sc := (defScope s_L_every)) (by decide +kernel)) (fun _ _ _ _ _ => (by exact (pg_name (i := 6) sc_L_every.nd rfl (Or.inl rfl)))) (fun _ _ _ _ _ => pts_nil) (fun _ _ _ _ _ => (pe_tup (pa_cons (pv 5) (pa_cons (pv 6) pa_nil)))))))))))) (pss_one (ps_ret (pv 2)))))), ?_⟩
  refine ⟨_, rfl, _, rfl, rfl, _, rfl, ite2 (fun c => ?_) (fun c => ?_)⟩
  · have e : a = b := by
      have e := of_decide_eq_true c
      injection e with e
      omega
    subst e
    refine ⟨_, rfl, (by show 1 ≤ sizeLine; decide), fun p hp => q p _ _ (Evl.Ex.new hp) hp upd_same ?_⟩
    rw [GD_self]
    exact .cons (.int _) .nil
  have hlt : a < b := by
    have : ¬ a = b := fun e => c (by rw [e]; exact decide_eq_true rfl)
    omega
  refine ⟨(by show 0 ≤ sizeLine; decide), fun p0 hp0 => ?_⟩
  refine ⟨_, rfl, _, rfl, (a : Int), (b : Int), rfl, ⟨by omega, by omega, by omega, by omega⟩, ?_⟩
  have et : ((b : Int) - (a : Int)).toNat = b - a := by omega
  rw [et]
  have cb : ∀ a' b', a' ≤ b' → b' - a' < b - a → (GD allT a' b').length ≤ 576 := fun a' b' h1 h2 => Nat.le_trans (GD_le allT_ok allT_sm 4 a' b' h1 (by omega)) (by rw [cub4]; exact Nat.le_refl _)
  let F : Nat → List Tr := fun j => (GD allT a j).flatMap fun l => (GD allT (j + 1) b).map (Tr.nd l)
  refine for_range (fun i σ H' => Ex H H' ∧ ∃ p vs' y1 y2 y3, σ = [some (.int a), some (.int b), some (.ref p), y1, y2, y3, none] ∧ H p = none ∧ H' p = some (.lst vs') ∧ Paired (RTr K H') vs' (((allT a b).take i).flatMap F) ∧ vs'.length ≤ i * 331776)
    ⟨Evl.Ex.new hp0, p0, [], none, none, none, rfl, hp0, upd_same, .nil, Nat.zero_le _⟩ ?_ ?_
  rotate_left
  · rintro σ H1 ⟨e1, p, vs', y1, y2, y3, rfl, hp, hv, pr, _⟩
    refine ⟨_, rfl, q p vs' H1 e1 hp hv ?_⟩
    rw [GD_eq allT_ok hlt]
    have el : (allT a b).take (b - a) = allT a b := List.take_of_length_le (by unfold allT; rw [List.length_map, List.length_range]; exact Nat.le_refl _)
    rw [el] at pr
    exact pr
  rintro i σ H1 hi ⟨e1, p, vs', y1, y2, y3, rfl, hp, hv, pr, hl⟩
  have ej : (a : Int) + (i : Int) = ((a + i : Nat) : Int) := by omega
  rw [ej]
  have hji : (allT a b)[i]? = some (a + i) := by
    unfold allT
    rw [List.getElem?_map, List.getElem?_range hi]
    rfl
  -- its
  refine ⟨_, rfl, _, _, rfl, rfl, _, rfl, a + i + 1, b, rfl, by omega, by omega, hb6, by omega, fun p2 vs2 H2 e2 hp2 hv2 pr2 => ?_⟩
  have c2 := cb (a + i + 1) b (by omega) (by omega)
  refine ⟨_, rfl, _, rfl, a, a + i, rfl, ha, by omega, by omega, by omega, fun p3 vs3 H3 e3 hp3 hv3 pr3 => ?_⟩
  have c1 := cb a (a + i) (by omega) (by omega)
  have e13 := e2.trans e3
  refine ⟨p3, rfl, ⟨_, SqL.of hv3⟩, ?_⟩
  have n3 : vs3.length = (GD allT a (a + i)).length := pr3.length
  refine for_list (K := K) (xs := vs3) (fun m σ H' => Ex H3 H' ∧ ∃ p vs' y3, σ = [some (.int a), some (.int b), some (.ref p), some (.int (a + i : Nat)), some (.ref p2), y3, none] ∧ H p = none ∧ H' p = some (.lst vs') ∧
      Paired (RTr K H') vs' (((allT a b).take i).flatMap F ++ ((GD allT a (a + i)).take m).flatMap fun l => (GD allT (a + i + 1) b).map (Tr.nd l)) ∧ vs'.length ≤ i * 331776 + m * 576)
    ⟨exr _, p, vs', _, rfl, hp, e13 _ _ hv, by show Paired _ _ (_ ++ []); rw [List.append_nil]; exact Paired.mapP pr fun _ _ z => mono_tr _ _ _ _ e13 z, Nat.le_trans hl (Nat.le_add_right _ _)⟩ (fun i σ H' _ h => SqL.of (h.1 _ _ hv3)) ?_ ?_
  rotate_left
  · rintro σ H4 ⟨e4, p', vs'', y3', rfl, hp', hv', pr', hl'⟩
    refine ⟨(e1.trans e13).trans e4, p', vs'', _, _, _, rfl, hp', hv', ?_, ?_⟩
    · rw [take_more hji, List.flatMap_append, List.flatMap_cons, List.flatMap_nil, List.append_nil]
      rw [n3, List.take_length] at pr'
      exact pr'
    · rw [n3] at hl'
      have : (GD allT a (a + i)).length * 576 ≤ 576 * 576 := Nat.mul_le_mul c1 (Nat.le_refl _)
      omega
  rintro m v4 σ H4 hm ⟨e4, p', vs'', y3', rfl, hp', hv', pr', hl'⟩
  obtain ⟨t4, ht4, hr4⟩ := paired_get pr3 hm
  have hml := (List.getElem?_eq_some_iff.mp hm).1
  have hv2' := (e3.trans e4) _ _ hv2
  have pr2' := Paired.mapP pr2 fun _ _ z => mono_tr (K := K) _ _ _ _ (e3.trans e4) z
  refine ⟨_, rfl, _, rfl, p2, rfl, ⟨_, SqL.of hv2'⟩, fun D hD => ?_⟩
  refine lc_map (γ := Tr) (fun r : Tr => Tr.nd t4 r) (src_list (mono_tr (K := K)) (SqL.of hv2') pr2') (monoT_tr (K := K)) (Nat.lt_of_le_of_lt c2 (by decide)) (fun i5 z x H5 hz e5 r5 Ky ky => ?_) gm_name hD fun ys H5 e5 hy py => ?_
  · refine ⟨rfl, ?_⟩
    refine ⟨_, rfl, _, rfl, (by show 2 ≤ sizeLine; decide), fun p6 hp6 => ?_⟩
    have e6 := Evl.Ex.new (o := .tup [v4, x]) hp6
    exact ky _ _ e6 (.tup (SqT.of upd_same) (.cons (dp_ex ((e4.trans e5).trans e6) hr4) (.cons (dp_ex e6 r5) .nil)))
  have ny := py.length
  rw [List.length_map] at ny
  have hi5 : i * 331776 ≤ 5 * 331776 := Nat.mul_le_mul (by omega) (Nat.le_refl _)
  have hm5 : m * 576 ≤ 576 * 576 := Nat.mul_le_mul (by omega) (Nat.le_refl _)
  refine ⟨p', D, vs'', ys, rfl, rfl, e5 _ _ hv', hy, sz3 (by omega), fun p7 hp7 => ?_⟩
  have e7 := e5.trans (Evl.Ex.new (o := .lst (vs'' ++ ys)) hp7)
  have hp7' : H p7 = none := by
    cases h : H p7 with
    | none => rfl
    | some o =>
      have z := (((e1.trans e13).trans e4).trans e5) _ _ h
      rw [hp7] at z
      cases z
  refine ⟨e4.trans e7, p7, vs'' ++ ys, some v4, rfl, hp7', upd_same, ?_, ?_⟩
  · rw [take_more ht4, List.flatMap_append, List.flatMap_cons, List.flatMap_nil, List.append_nil, ← List.append_assoc]
    exact paired_app (Paired.mapP pr' fun _ _ z => mono_tr _ _ _ _ e7 z) (Paired.mapP py fun _ _ z => mono_tr _ _ _ _ (Evl.Ex.new (o := .lst (vs'' ++ ys)) hp7) z)
  · rw [List.length_append]
    omega
theorem ok_every (T : Txt K mg) : ∀ n : Nat, DefOk P w K mg base CX0 "_law_every" p_L_every n (spEvery K n)
  | 0 => every_none T
  | n + 1 => every_more T (ok_every T n)
end RG

set_option Elab.async false
set_option linter.all false
set_option maxRecDepth 100000
set_option maxHeartbeats 400000
namespace RG
open PySem PySem.Spec PyProof.Rows L2
variable {P : Program} {w : World} {K : PySem.W.Frag} {mg : Str → Option Value} {base : Heap}
/-! ### same -/
/-- of that depth, nowhere long -/
def Sm : Nat → PyData → Prop
  | 0, _ => False
  | n + 1, .list ds => ds.length < 100000 ∧ ∀ d ∈ ds, Sm n d
  | n + 1, .tuple ds => ds.length < 100000 ∧ ∀ d ∈ ds, Sm n d
  | _ + 1, _ => True
theorem dpa_paired {H : Hp} : ∀ {vs : List V} {ds : List PyData}, DpAll K H vs ds → Paired (Dp K H) vs ds
  | _, _, .nil => .nil
  | _, _, .cons h t => .cons h (dpa_paired t)
theorem mono_dp : MonoR (Dp K) := fun _ _ _ _ e h => dp_ex e h
theorem all_true {α : Type} : ∀ l : List α, (l.map fun _ => true).all id = true
  | [] => rfl
  | _ :: l => by
    rw [List.map_cons, List.all_cons, all_true l]
    rfl
theorem zip_self {α : Type} {l : List α} {i : Nat} {z : α × α} (h : (l.zip l)[i]? = some z) : z.1 = z.2 ∧ z.1 ∈ l := by
  obtain ⟨h1, h2⟩ := zip_get h
  rw [h1] at h2
  exact ⟨Option.some.inj h2, List.mem_of_getElem? h1⟩
def spSame (K : PySem.W.Frag) (n : Nat) : Sp := fun vs H Q _ => ∃ g v x, vs = [g, v] ∧ Dp K H g x ∧ Dp K H v x ∧ Sm n x ∧ ∀ H', Ex H H' → Q (.bl true) H'
theorem same_none (T : Txt K mg) {k : Nat} : DefOk P w K mg base CX0 "_law_same" p_L_same k (spSame K 0) := by
  have no : ∀ vs H Q E, ¬ spSame K 0 vs H Q E := fun vs H Q E ⟨_, _, _, _, _, _, h, _⟩ => h
  obtain ⟨fd, F⟩ := T.F_L_same
  exact ⟨⟨_, fd, T.g_L_same, F.kp, F.bindsN (ps := p_L_same) (fun _ _ _ _ _ _ us hl => match us, hl with | [_, _], _ => rfl), fn_none no⟩⟩
theorem same_more (T : Txt K mg) {n : Nat} (D_L_same : DefOk P w K mg base CX0 "_law_same" p_L_same n (spSame K n)) : DefOk P w K mg base CX0 "_law_same" p_L_same (n + 1) (spSame K (n + 1)) := by
  obtain ⟨fd, F⟩ := T.F_L_same
  refine ⟨⟨_, fd, T.g_L_same, F.kp, F.bindsN (ps := p_L_same) (fun _ _ _ _ _ _ us hl => match us, hl with | [_, _], _ => rfl), F.ok sc_L_same (fun vs H Q E h => ?_) fun cdv A outer s H vs Q E hr h => ?_⟩⟩
  · obtain ⟨g, v, x, rfl, _⟩ := h
    rfl
  obtain ⟨g, v, x, rfl, hg, hv, hs, q⟩ := h
  refine ⟨_, PSs.nox (pss_cons (ps_if (pt_val (pe_callB (r := rIsiT K) call_isiT rfl T.f_isinstance b_isinstance (pa_cons (pv 1) (pa_cons (pe_tup (pa_cons (pe_bltn (v := .ty "list") rfl T.f_list b_list rfl) (pa_cons (pe_bltn (v := .ty "tuple") rfl T.f_tuple b_tuple rfl) pa_nil))) pa_nil)))) (pss_cons (ps_if (PW.pt (pw_or (pt_cmpR op_ne (pe_callB (r := rIsi K) call_isi rfl T.f_isinstance b_isinstance (pa_cons (pv 0) (pa_cons (pe_bltn (v := .ty "list") rfl T.f_list b_list rfl) pa_nil))) (pe_callB (r := rIsi K) call_isi rfl T.f_isinstance b_isinstance (pa_cons (pv 1) (pa_cons (pe_bltn (v := .ty "list") rfl T.f_list b_list rfl) pa_nil))) (nomark _)) (pw_or1 (pt_cmpR op_ne (pe_callB (r := rIsi K) call_isi rfl T.f_isinstance b_isinstance (pa_cons (pv 0) (pa_cons (pe_bltn (v := .ty "tuple") rfl T.f_tuple b_tuple rfl) pa_nil))) (pe_callB (r := rIsi K) call_isi rfl T.f_isinstance b_isinstance (pa_cons (pv 1) (pa_cons (pe_bltn (v := .ty "tuple") rfl T.f_tuple b_tuple rfl) pa_nil))) (nomark _))))) (pss_one (ps_ret pe_bl)) pss_nil) (pss_one (ps_ret (pe_and (pe_cmpR op_eq (pe_callB (r := Evl.rLenS K) call_len_seq rfl T.f_len b_len (pa_cons (pv 0) pa_nil)) (pe_callB (r := Evl.rLenS K) call_len_seq rfl T.f_len b_len (pa_cons (pv 1) pa_nil)) (nomark _)) (pe_one (pe_callB (r := rAll K) (cr_all rfl) rfl T.f_all b_all (pa_cons (pe_lc (own := [("_law_mine", 2), ("_law_its", 3)]) (g := (gTup K 2 (gCons (gName 2) (gCons (gName 3) gNil)))) rfl sc_L_same.nd (RZ.pi_zipA rfl T.f_zip (pa_cons (pv 0) (pa_cons (pv 1) pa_nil))) (blkOk_by (own := [("_law_mine", 2), ("_law_its", 3)]) (N := n_L_same) (sc := (defScope s_L_same)) (by decide +kernel)) (fun _ _ _ _ _ => (by exact (pg_tup rfl (pgs_cons (pg_name (i := 2) sc_L_same.nd rfl (Or.inl rfl)) (pgs_cons (pg_name (i := 3) sc_L_same.nd rfl (Or.inl rfl)) pgs_nil))))) (fun _ _ _ _ _ => pts_nil) (fun _ _ _ _ _ => (pe_d D_L_same (hr.mono (by omega)) pass0 (pa_cons (pv 2) (pa_cons (pv 3) pa_nil))))) pa_nil))))))) pss_nil) (pss_cons (ps_if (PW.pt (pw_or (pt_cmpR op_isN (pv 1) pe_non (nomark _)) (pw_or1 (pt_val (pe_callB (r := rIsiT K) call_isiT rfl T.f_isinstance b_isinstance (pa_cons (pv 1) (pa_cons (pe_tup (pa_cons (pe_bltn (v := .ty "bool") rfl T.f_bool b_bool rfl) (pa_cons (pe_bltn (v := .ty "str") rfl T.f_str b_str rfl) pa_nil))) pa_nil))))))) (pss_one (ps_ret (pe_and (pe_cmpR op_eq (pv 0) (pv 1) (nomark _)) (pe_and (pe_cmpR op_eq (pe_callB (r := rIsi K) call_isi rfl T.f_isinstance b_isinstance (pa_cons (pv 0) (pa_cons (pe_bltn (v := .ty "bool") rfl T.f_bool b_bool rfl) pa_nil))) (pe_callB (r := rIsi K) call_isi rfl T.f_isinstance b_isinstance (pa_cons (pv 1) (pa_cons (pe_bltn (v := .ty "bool") rfl T.f_bool b_bool rfl) pa_nil))) (nomark _)) (pe_one (pe_cmpR op_eq (pe_cmpR op_isN (pv 0) pe_non (nomark _)) (pe_cmpR op_isN (pv 1) pe_non (nomark _)) (nomark _))))))) pss_nil) (pss_one (ps_ret (pe_and (pe_callB (r := rIsi K) call_isi rfl T.f_isinstance b_isinstance (pa_cons (pv 0) (pa_cons (pe_bltn (v := .ty "int") rfl T.f_int b_int rfl) pa_nil))) (pe_and (pe_not (pe_callB (r := rIsi K) call_isi rfl T.f_isinstance b_isinstance (pa_cons (pv 0) (pa_cons (pe_bltn (v := .ty "bool") rfl T.f_bool b_bool rfl) pa_nil)))) (pe_one (pe_cmpR op_eq (pv 0) (pv 1) (nomark _))))))))), ?_⟩
  refine ⟨_, rfl, (by show 2 ≤ sizeLine; decide), fun p hp => ?_⟩
  have ep := Evl.Ex.new (o := .tup [V.ty "list", V.ty "tuple"]) hp
  have hg1 := dp_ex ep hg
  have hv1 := dp_ex ep hv
  refine ⟨_, _, _, _, _, _, rfl, upd_same, .cons (.ty "list") (.cons (.ty "tuple") .nil), dp_ty hv1, kit_any2 (kit_list _) (kit_tuple _), _, rfl, ?_⟩
  have plain : ∀ (x : PyData) (Hx : Hp), Ex H Hx → Dp K Hx g x → Dp K Hx v x → (isList x || isTup x) = false → True := fun _ _ _ _ _ _ => trivial
  cases x with
  | dict d => cases hg
  | list ds =>
    refine ifT rfl ?_
    refine ⟨_, rfl, _, _, _, _, _, rfl, .ty _, dp_ty hg1, kit_list _, _, rfl, _, _, _, _, _, rfl, .ty _, dp_ty hv1, kit_list _, rfl, _, rfl, ifF rfl ?_⟩
    refine ⟨_, rfl, _, _, _, _, _, rfl, .ty _, dp_ty hg1, kit_tuple _, _, rfl, _, _, _, _, _, rfl, .ty _, dp_ty hv1, kit_tuple _, rfl, _, rfl, ifF rfl ?_⟩
    cases hg1 with
    | @lst a xs _ h1 a1 =>
      cases hv1 with
      | @lst b ys _ h2 a2 =>
        have l1 := dpa_len a1
        have l2 := dpa_len a2
        refine ⟨_, rfl, a, xs, rfl, .inl h1, _, rfl, b, ys, rfl, .inl h2, rfl, _, rfl, ifT (decide_eq_true (by rw [l1, l2])) ?_⟩
        refine ⟨_, rfl, _, rfl, a, b, xs, ys, rfl, .inl ⟨h1, h2, fun D hD => ?_⟩⟩
        refine lc_map (γ := Bool) (fun _ => true) (src_zipL mono_dp mono_dp h1 (dpa_paired a1) h2 (dpa_paired a2)) monoT_bl (by have := hs.1; rw [List.length_zip]; omega) (fun i z x H4 hz e4 r4 Ky ky => ?_) gm_tup2 hD fun zs H4 e4 hy py => ?_
        · obtain ⟨q4, x4, y4, rfl, hq4, r1, r2⟩ := r4
          obtain ⟨z1, z2⟩ := zip_self hz
          refine gtup2 rfl hq4 ⟨rfl, ?_⟩
          exact ⟨_, rfl, _, rfl, x4, y4, z.1, rfl, r1, by rw [z1]; exact r2, hs.2 _ z2, fun H5 e5 => ky _ _ e5 rfl⟩
        · have ey := paired_bl py
          refine ⟨D, _, rfl, by rw [← ey]; exact SqL.of hy, ?_⟩
          rw [all_true]
          exact q _ (ep.trans e4)
  | tuple ds =>
    refine ifT rfl ?_
    refine ⟨_, rfl, _, _, _, _, _, rfl, .ty _, dp_ty hg1, kit_list _, _, rfl, _, _, _, _, _, rfl, .ty _, dp_ty hv1, kit_list _, rfl, _, rfl, ifF rfl ?_⟩
    refine ⟨_, rfl, _, _, _, _, _, rfl, .ty _, dp_ty hg1, kit_tuple _, _, rfl, _, _, _, _, _, rfl, .ty _, dp_ty hv1, kit_tuple _, rfl, _, rfl, ifF rfl ?_⟩
    cases hg1 with
    | @tup a xs _ h1 a1 =>
      cases hv1 with
      | @tup b ys _ h2 a2 =>
        have l1 := dpa_len a1
        have l2 := dpa_len a2
        refine ⟨_, rfl, a, xs, rfl, .inr h1, _, rfl, b, ys, rfl, .inr h2, rfl, _, rfl, ifT (decide_eq_true (by rw [l1, l2])) ?_⟩
        refine ⟨_, rfl, _, rfl, a, b, xs, ys, rfl, .inr ⟨h1, h2, fun D hD => ?_⟩⟩
        refine lc_map (γ := Bool) (fun _ => true) (src_zipT mono_dp mono_dp h1 (dpa_paired a1) h2 (dpa_paired a2)) monoT_bl (by have := hs.1; rw [List.length_zip]; omega) (fun i z x H4 hz e4 r4 Ky ky => ?_) gm_tup2 hD fun zs H4 e4 hy py => ?_
        · obtain ⟨q4, x4, y4, rfl, hq4, r1, r2⟩ := r4
          obtain ⟨z1, z2⟩ := zip_self hz
          refine gtup2 rfl hq4 ⟨rfl, ?_⟩
          exact ⟨_, rfl, _, rfl, x4, y4, z.1, rfl, r1, by rw [z1]; exact r2, hs.2 _ z2, fun H5 e5 => ky _ _ e5 rfl⟩
        · have ey := paired_bl py
          refine ⟨D, _, rfl, by rw [← ey]; exact SqL.of hy, ?_⟩
          rw [all_true]
          exact q _ (ep.trans e4)
  | none =>
    cases hg1
    cases hv1
    refine ifF rfl ⟨_, rfl, rfl, _, rfl, ifT rfl (ifT rfl ?_)⟩
    exact ⟨_, rfl, _, rfl, rfl, _, rfl, ifT (decide_eq_true rfl) ⟨_, rfl, _, _, _, _, _, rfl, .ty _, dp_ty (show Dp K (upd H p (.tup [V.ty "list", V.ty "tuple"])) _ _ from .non), kit_bool _, _, rfl, _, _, _, _, _, rfl, .ty _, dp_ty (show Dp K (upd H p (.tup [V.ty "list", V.ty "tuple"])) _ _ from .non), kit_bool _, rfl, _, rfl, ifT (decide_eq_true rfl) ⟨_, rfl, rfl, _, rfl, rfl, rfl, (by rw [decide_eq_true rfl]; exact q _ ep)⟩⟩⟩
  | bool b =>
    cases hg1
    cases hv1
    refine ifF rfl ⟨_, rfl, rfl, _, rfl, ifF rfl ?_⟩
    refine ⟨_, rfl, (by show 2 ≤ sizeLine; decide), fun p2 hp2 => ?_⟩
    have ep2 := Evl.Ex.new (o := .tup [V.ty "bool", V.ty "str"]) hp2
    refine ⟨_, _, _, _, _, _, rfl, upd_same, .cons (.ty "bool") (.cons (.ty "str") .nil), dp_ty (show Dp K (upd (upd H p (.tup [V.ty "list", V.ty "tuple"])) p2 (.tup [V.ty "bool", V.ty "str"])) _ _ from .bl b), kit_any2 (kit_bool _) (kit_str _), _, rfl, ?_⟩
    refine ifT rfl ?_
    exact ⟨_, rfl, _, rfl, rfl, _, rfl, ifT (decide_eq_true rfl) ⟨_, rfl, _, _, _, _, _, rfl, .ty _, dp_ty (show Dp K (upd (upd H p (.tup [V.ty "list", V.ty "tuple"])) p2 (.tup [V.ty "bool", V.ty "str"])) _ _ from .bl b), kit_bool _, _, rfl, _, _, _, _, _, rfl, .ty _, dp_ty (show Dp K (upd (upd H p (.tup [V.ty "list", V.ty "tuple"])) p2 (.tup [V.ty "bool", V.ty "str"])) _ _ from .bl b), kit_bool _, rfl, _, rfl, ifT (decide_eq_true rfl) ⟨_, rfl, rfl, _, rfl, rfl, rfl, (by rw [decide_eq_true rfl]; exact q _ (ep.trans ep2))⟩⟩⟩
  | str b =>
    cases hg1
    cases hv1
    refine ifF rfl ⟨_, rfl, rfl, _, rfl, ifF rfl ?_⟩
    refine ⟨_, rfl, (by show 2 ≤ sizeLine; decide), fun p2 hp2 => ?_⟩
    have ep2 := Evl.Ex.new (o := .tup [V.ty "bool", V.ty "str"]) hp2
    refine ⟨_, _, _, _, _, _, rfl, upd_same, .cons (.ty "bool") (.cons (.ty "str") .nil), dp_ty (show Dp K (upd (upd H p (.tup [V.ty "list", V.ty "tuple"])) p2 (.tup [V.ty "bool", V.ty "str"])) _ _ from .str b), kit_any2 (kit_bool _) (kit_str _), _, rfl, ?_⟩
    refine ifT rfl ?_
    exact ⟨_, rfl, _, rfl, rfl, _, rfl, ifT (decide_eq_true rfl) ⟨_, rfl, _, _, _, _, _, rfl, .ty _, dp_ty (show Dp K (upd (upd H p (.tup [V.ty "list", V.ty "tuple"])) p2 (.tup [V.ty "bool", V.ty "str"])) _ _ from .str b), kit_bool _, _, rfl, _, _, _, _, _, rfl, .ty _, dp_ty (show Dp K (upd (upd H p (.tup [V.ty "list", V.ty "tuple"])) p2 (.tup [V.ty "bool", V.ty "str"])) _ _ from .str b), kit_bool _, rfl, _, rfl, ifT (decide_eq_true rfl) ⟨_, rfl, rfl, _, rfl, rfl, rfl, (by rw [decide_eq_true rfl]; exact q _ (ep.trans ep2))⟩⟩⟩
  | int i =>
    cases hg1
    cases hv1
    refine ifF rfl ⟨_, rfl, rfl, _, rfl, ifF rfl ?_⟩
    refine ⟨_, rfl, (by show 2 ≤ sizeLine; decide), fun p2 hp2 => ?_⟩
    have ep2 := Evl.Ex.new (o := .tup [V.ty "bool", V.ty "str"]) hp2
    refine ⟨_, _, _, _, _, _, rfl, upd_same, .cons (.ty "bool") (.cons (.ty "str") .nil), dp_ty (show Dp K (upd (upd H p (.tup [V.ty "list", V.ty "tuple"])) p2 (.tup [V.ty "bool", V.ty "str"])) _ _ from .int i), kit_any2 (kit_bool _) (kit_str _), _, rfl, ?_⟩
    refine ifF rfl ?_
    have hd : Dp K (upd (upd H p (.tup [V.ty "list", V.ty "tuple"])) p2 (.tup [V.ty "bool", V.ty "str"])) (.int i) (.int i) := .int i
    refine ⟨_, rfl, _, _, _, _, _, rfl, .ty _, dp_ty hd, kit_int _, _, rfl, ifT rfl ?_⟩
    refine ⟨_, rfl, _, _, _, _, _, rfl, .ty _, dp_ty hd, kit_bool _, _, rfl, _, rfl, ifT rfl ?_⟩
    refine ⟨_, rfl, _, rfl, rfl, ?_⟩
    rw [decide_eq_true rfl]
    exact q _ (ep.trans ep2)
theorem ok_same (T : Txt K mg) : ∀ n : Nat, DefOk P w K mg base CX0 "_law_same" p_L_same n (spSame K n)
  | 0 => same_none T
  | n + 1 => same_more T (ok_same T n)
end RG

set_option Elab.async false
set_option linter.all false
set_option maxRecDepth 100000
set_option maxHeartbeats 400000
namespace RG
open PySem PySem.Spec PyProof.Rows L2
variable {P : Program} {w : World} {K : PySem.W.Frag} {mg : Str → Option Value} {base : Heap}
theorem hu64 {A : Around} {k : Nat} (hr : Room k A) : A.units + 64 < cLine := Nat.lt_of_succ_lt (hr2 hr)
/-! ### pays -/
structure Costs where
  so : Option (List Int)
  wo : Option (List Int)
  brs : List (Nat × Nat × Int)
def Costs.pp (c : Costs) : Nat → Nat → Nat → Int := ppF c.so c.wo (extF c.brs)
def CostAt (K : PySem.W.Frag) (H : Hp) (v : V) (n : Nat) (c : Costs) : Prop := ∃ p sv wv bv, v = .ref p ∧ SqT K H p [sv, wv, bv] ∧ OpI K H (n + 1) sv c.so ∧ OpI K H n wv c.wo ∧ BrAt K H bv n c.brs
theorem BrAt.ex {H H' : Hp} {v : V} {n : Nat} {brs : List (Nat × Nat × Int)} (e : Ex H H') (h : BrAt K H v n brs) : BrAt K H' v n brs := by
  obtain ⟨p, vs, h1, h2, h3, h4⟩ := h
  exact ⟨p, vs, h1, Evl.ex_t e h2, Paired.mapP h3 fun _ _ z => mono_br _ _ _ _ e z, h4⟩
theorem CostAt.ex {H H' : Hp} {v : V} {n : Nat} {c : Costs} (e : Ex H H') (h : CostAt K H v n c) : CostAt K H' v n c := by
  obtain ⟨p, sv, wv, bv, h1, h2, h3, h4, h5⟩ := h
  exact ⟨p, sv, wv, bv, h1, Evl.ex_t e h2, h3.ex e, h4.ex e, h5.ex e⟩
theorem ext_filter (a b : Nat) : ∀ brs : List (Nat × Nat × Int), ((brs.filter fun z => decide (z.1 = a) && decide (z.2.1 = b)).map fun z => z.2.2).sum = extF brs a b
  | [] => rfl
  | z :: brs => by
    have ih := ext_filter a b brs
    unfold extF at ih ⊢
    rw [List.map_cons, List.sum_cons, List.filter_cons]
    by_cases h : z.1 = a ∧ z.2.1 = b
    · rw [if_pos h, if_pos (by rw [decide_eq_true h.1, decide_eq_true h.2]; rfl), List.map_cons, List.sum_cons, ih]
    · rw [if_neg h, if_neg, ih]
      · omega
      · intro c
        have c := Bool.and_eq_true_iff.mp c
        exact h ⟨of_decide_eq_true c.1, of_decide_eq_true c.2⟩
theorem eqv_pair (a b c d : Nat) : PyData.eqv (.tuple [.int (a : Int), .int (b : Int)]) (.tuple [.int (c : Int), .int (d : Int)]) = (decide (a = c) && decide (b = d)) := by
  simp only [PyData.eqv, PyData.eqvAll, Bool.and_true]
  congr 1
  · rw [Bool.eq_iff_iff]
    simp
    omega
  · rw [Bool.eq_iff_iff]
    simp
    omega
def spPays (K : PySem.W.Frag) : Sp := fun vs H Q _ => ∃ (n : Nat) (tv cv : V) (t : Tr) (c : Costs), vs = [tv, cv] ∧ Dp K H tv (Tr.tp t) ∧ Span t 1 n ∧ n ≤ 6 ∧ CostAt K H cv n c ∧ ∀ H', Ex H H' → Q (.int (price c.pp t)) H'
theorem ok_pays (T : Txt K mg) (D_L_pairs : DefOk P w K mg base CX0 "_law_pairs" p_L_pairs 10 (spLPairs K 8)) : DefOk P w K mg base CX0 "_law_pays" p_L_pays 11 (spPays K) := by
  obtain ⟨fd, F⟩ := T.F_L_pays
  refine ⟨⟨_, fd, T.g_L_pays, F.kp, F.bindsN (ps := p_L_pays) (fun _ _ _ _ _ _ us hl => match us, hl with | [_, _], _ => rfl), F.ok sc_L_pays (fun vs H Q E h => ?_) fun cdv A outer s H vs Q E hr h => ?_⟩⟩
  · obtain ⟨n, tv, cv, t, c, rfl, _⟩ := h
    rfl
  obtain ⟨n, tv, cv, t, c, rfl, ht, hsp, hn, hc, q⟩ := h
  refine ⟨_, PSs.nox (pss_cons (ps_asg (pv 1) (pg_tup rfl (pgs_cons (pg_name (i := 2) sc_L_pays.nd rfl (Or.inl rfl)) (pgs_cons (pg_name (i := 3) sc_L_pays.nd rfl (Or.inl rfl)) (pgs_cons (pg_name (i := 4) sc_L_pays.nd rfl (Or.inl rfl)) pgs_nil))))) (pss_cons (ps_set (i := 5) sc_L_pays.nd rfl (Or.inl rfl) pe_int) (pss_cons (ps_for PassesOwn.never rfl (pi_list (pe_d D_L_pairs (hr.mono (by omega)) pass0 (pa_cons (pv 0) pa_nil))) (pg_tup rfl (pgs_cons (pg_name (i := 6) sc_L_pays.nd rfl (Or.inr rfl)) (pgs_cons (pg_name (i := 7) sc_L_pays.nd rfl (Or.inl rfl)) (pgs_cons (pg_name (i := 8) sc_L_pays.nd rfl (Or.inr rfl)) pgs_nil)))) (pss_cons (ps_if (pt_cmpR op_notN (pv 2) pe_non (nomark _)) (pss_cons (ps_set (i := 9) sc_L_pays.nd rfl (Or.inl rfl) (pe_op op_mul (pe_ix (r := rIxT K) ix_tup (pv 2) (pe_op op_sub (pv 6) pe_int) (fun _ _ => rfl)) (pe_ix (r := rIxT K) ix_tup (pv 2) (pv 7) (fun _ _ => rfl)))) (pss_one (ps_set (i := 5) sc_L_pays.nd rfl (Or.inl rfl) (pe_op op_add (pv 5) (pe_op op_mul (pv 9) (pe_ix (r := rIxT K) ix_tup (pv 2) (pv 8) (fun _ _ => rfl))))))) pss_nil) (pss_cons (ps_if (pt_cmpR op_notN (pv 3) pe_non (nomark _)) (pss_one (ps_set (i := 5) sc_L_pays.nd rfl (Or.inl rfl) (pe_op op_add (pv 5) (pe_callB (r := rSumT K) (cr_sumT rfl) rfl T.f_sum b_sum (pa_cons (pe_slice (r := rSlA K) sl_tupA (pv 3) (po_some (pe_op op_sub (pv 6) pe_int)) (po_some (pv 8))) pa_nil))))) pss_nil) (pss_one (ps_set (i := 5) sc_L_pays.nd rfl (Or.inl rfl) (pe_op op_add (pv 5) (pe_callB (r := rSum K) (cr_sum rfl) rfl T.f_sum b_sum (pa_cons (pe_lc (own := [("_law_own", 10)]) (g := (gName 10)) rfl sc_L_pays.nd (pi_tup (pv 4)) (blkOk_by (own := [("_law_own", 10)]) (N := n_L_pays) (sc := (defScope s_L_pays)) (by decide +kernel)) (fun _ _ _ _ _ => (by exact (pg_name (i := 10) sc_L_pays.nd rfl (Or.inl rfl)))) (fun _ _ _ _ _ => (pts_one (pt_cmpR (r := rEqD K) (op_eqD (hu64 hr)) (pe_slice (r := rSlA K) sl_tupA (pv 10) po_none (po_some pe_int)) (pe_tup (pa_cons (pv 6) (pa_cons (pv 8) pa_nil))) (nomark _)))) (fun _ _ _ _ _ => (pe_ix (r := rIxT K) ix_tup (pv 10) pe_int (fun _ _ => rfl)))) pa_nil)))))))) (pss_one (ps_ret (pv 5)))))), ?_⟩
  obtain ⟨pc, sv, wv, bv, rfl, hpc, hs, hw, hb⟩ := hc
  have hht := span_ht hsp
  have hlen := span_len hsp
  refine ⟨_, rfl, pc, _, rfl, hpc, rfl, _, _, rfl, _, _, rfl, _, _, rfl, rfl, ?_⟩
  refine ⟨_, rfl, tv, t, rfl, ht, by omega, by omega, fun r H1 e1 l1 => ?_⟩
  obtain ⟨p, vs, rfl, hp, pr⟩ := l1
  refine ⟨p, rfl, ⟨_, SqL.of hp⟩, for_list (K := K) (xs := vs) (fun i σ H' => Ex H1 H' ∧ ∃ y1 y2 y3 y4, σ = [some tv, some (.ref pc), some sv, some wv, some bv, some (.int ((t.trip.take i).map fun z => c.pp z.1 z.2.1 z.2.2).sum), y1, y2, y3, y4, none])
    ⟨exr _, none, none, none, none, rfl⟩ (fun i σ H' _ h => SqL.of (h.1 _ _ hp)) ?_ ?_⟩
  rotate_left
  · rintro σ H2 ⟨e2, y1, y2, y3, y4, rfl⟩
    rw [pr.length, List.take_length]
    exact ⟨_, rfl, q _ (e1.trans e2)⟩
  rintro i v σ H2 hi ⟨e2, y1, y2, y3, y4, rfl⟩
  obtain ⟨⟨a, j, b⟩, hz, q1, rfl, hq1⟩ := paired_get pr hi
  have hq1 := e2 _ _ hq1
  obtain ⟨z1, z2, z3, z4⟩ := span_trip hsp _ (List.mem_of_getElem? hz)
  dsimp only at z1 z2 z3 z4 hq1
  have e12 := e1.trans e2
  have hs2 := hs.ex e12
  have hw2 := hw.ex e12
  have hb2 := hb.ex e12
  refine gtup3 rfl hq1 ?_
  dsimp only
  generalize hX : ((t.trip.take i).map fun z => c.pp z.1 z.2.1 z.2.2).sum = X0
  refine seqCut (fun σ H' => H2 = H' ∧ ∃ y4, σ = [some tv, some (.ref pc), some sv, some wv, some bv, some (.int (X0 + sizeC c.so a j b)), some (.int a), some (.int j), some (.int b), y4, none]) (fun D' key => ?_) ?_
  · refine ⟨_, rfl, rfl, _, rfl, ?_⟩
    rw [hs.val]
    rcases Option.eq_none_or_eq_some c.so with hl | ⟨xs, hl⟩
    · rw [hl]
      refine ifF rfl (key _ _ ⟨rfl, y4, ?_⟩)
      rw [hl]
      show _ = [_, _, _, _, _, some (V.int (X0 + 0)), _, _, _, _, _]
      rw [Int.add_zero]
      rfl
    · rw [hl] at hs2
      obtain ⟨ps, rfl, hsq, hsl, hsb⟩ := hs2
      rw [hl]
      have b1 := small_getD hsb (a - 1)
      have b2 := small_getD hsb j
      have b3 := small_getD hsb b
      refine ifT rfl ?_
      refine ⟨_, rfl, _, rfl, _, _, rfl, rfl, ps, _, _, _, rfl, rfl, hsq, atD (k := a - 1) (by omega) (by omega), ?_⟩
      refine ⟨_, rfl, _, rfl, ps, _, _, _, rfl, rfl, hsq, atD (k := j) rfl (by omega), _, _, rfl, rfl, .inl ⟨by omega, by omega⟩, ?_⟩
      refine ⟨_, rfl, _, rfl, _, rfl, _, rfl, ps, _, _, _, rfl, rfl, hsq, atD (k := b) rfl (by omega), _, _, rfl, rfl, .inr ⟨by omega, by omega⟩, _, _, rfl, rfl, ?_⟩
      exact key _ _ ⟨rfl, _, by rw [hl]; rfl⟩
  rintro σ H3 ⟨rfl, y5, rfl⟩
  refine seqCut (fun σ H' => Ex H2 H' ∧ σ = [some tv, some (.ref pc), some sv, some wv, some bv, some (.int (X0 + sizeC c.so a j b + weightC c.wo a b)), some (.int a), some (.int j), some (.int b), y5, none]) (fun D' key => ?_) ?_
  · refine ⟨_, rfl, rfl, _, rfl, ?_⟩
    rw [hw.val]
    rcases Option.eq_none_or_eq_some c.wo with hl | ⟨xs, hl⟩
    · rw [hl]
      refine ifF rfl (key _ _ ⟨exr _, ?_⟩)
      rw [hl]
      show _ = [_, _, _, _, _, some (V.int (X0 + sizeC c.so a j b + 0)), _, _, _, _, _]
      rw [Int.add_zero]
    · rw [hl] at hw2
      obtain ⟨pw, rfl, hwq, hwl, hwb⟩ := hw2
      rw [hl]
      refine ifT rfl ?_
      refine ⟨_, rfl, _, rfl, _, rfl, _, _, rfl, rfl, _, rfl, _, rfl, _, rfl, pw, _, rfl, hwq, ?_⟩
      have s1 : HT.sIx (xs.map V.int).length 0 (some ((a : Int) - 1)) = a - 1 := by
        rw [show (a : Int) - 1 = ((a - 1 : Nat) : Int) by omega, HT.sIx_nat, List.length_map]
        omega
      have s2 : HT.sIx (xs.map V.int).length (xs.map V.int).length (some (b : Int)) = b := by
        rw [HT.sIx_nat, List.length_map]
        omega
      have ew : weightC c.wo a b = ((xs.drop (a - 1)).take (b - (a - 1))).sum := by rw [hl]; rfl
      rw [ew] at key
      refine ⟨fun whole => ?_, fun nw p8 hp8 => ?_⟩
      · rw [s1, s2, List.length_map] at whole
        have et2 : (xs.drop (a - 1)).take (b - (a - 1)) = xs := by
          rw [whole.1, whole.2, List.drop_zero, Nat.sub_zero, List.take_length]
        rw [et2] at key
        exact ⟨pw, xs, rfl, hwq, _, _, rfl, rfl, key _ _ ⟨exr _, rfl⟩⟩
      · refine ⟨p8, (xs.drop (a - 1)).take (b - (a - 1)), rfl, SqT.of (upd_same.trans (congrArg (fun l => some (HO.tup l)) ?_)), _, _, rfl, rfl, key _ _ ⟨Evl.Ex.new hp8, rfl⟩⟩
        show cutV (xs.map V.int) (some ((a : Int) - 1)) (some (b : Int)) = _
        unfold cutV
        rw [s1, s2, List.map_take, List.map_drop]
  rintro σ H4 ⟨e4, rfl⟩
  -- what is extra
  obtain ⟨pb, bvs, rfl, hbs, hbp, hbl, hbn⟩ := hb2.ex e4
  refine ⟨_, rfl, _, rfl, pb, rfl, ⟨_, hbs⟩, fun D hD => ?_⟩
  refine lc_src (γ := Int) (fun z : Nat × Nat × Int => decide (z.1 = a) && decide (z.2.1 = b)) (fun z => z.2.2) (src_tup mono_br hbs hbp) monoT_int (by omega) (fun i5 z x H5 hz5 e5 hx Ky Kn ky kn => ?_) hD fun ys H5 e5 hy py => ?_
  · obtain ⟨q5, rfl, hq5⟩ := hx
    refine ⟨rfl, _, rfl, _, rfl, q5, _, rfl, SqT.of hq5, fun whole => ?_, fun nw p6 hp6 => ?_⟩
    · exact absurd (show (2 : Nat) = 3 from whole.2) (by decide)
    have e6 := Evl.Ex.new (o := .tup (cutV [V.int (z.1 : Int), V.int (z.2.1 : Int), V.int z.2.2] none (some 2))) hp6
    refine ⟨_, rfl, _, rfl, (by show 2 ≤ sizeLine; decide), fun p7 hp7 => ?_⟩
    have e7 := Evl.Ex.new (o := .tup [V.int (a : Int), V.int (b : Int)]) hp7
    refine ⟨.tuple [.int (z.1 : Int), .int (z.2.1 : Int)], .tuple [.int (a : Int), .int (b : Int)], .tup (SqT.of (e7 _ _ upd_same)) (.cons (.int _) (.cons (.int _) .nil)), .tup (SqT.of upd_same) (.cons (.int _) (.cons (.int _) .nil)), rfl, rfl, _, rfl, ?_⟩
    rw [eqv_pair]
    refine ite2 (fun c => ?_) (fun c => ?_)
    · exact ⟨_, rfl, q5, _, 2, _, rfl, rfl, SqT.of ((e6.trans e7) _ _ hq5), rfl, ky c _ _ (e6.trans e7) rfl⟩
    · exact kn (Bool.eq_false_iff.mpr c) _ (e6.trans e7)
  have ey := paired_int py
  refine ⟨D, _, rfl, by rw [← ey]; exact SqL.of hy, ?_⟩
  rw [ext_filter]
  refine ⟨_, _, rfl, rfl, (e2.trans e4).trans e5, some (.int a), some (.int j), some (.int b), y5, ?_⟩
  rw [take_more hz, List.map_append, List.sum_append, hX]
  have es : X0 + sizeC c.so a j b + weightC c.wo a b + extF c.brs a b = X0 + ([(a, j, b)].map fun z => c.pp z.1 z.2.1 z.2.2).sum := by
    rw [List.map_cons, List.map_nil, List.sum_cons, List.sum_nil]
    show _ = X0 + ((extF c.brs a b + sizeC c.so a j b + weightC c.wo a b) + 0)
    omega
  rw [← es]
  rfl
end RG

set_option Elab.async false
set_option linter.all false
set_option maxRecDepth 100000
set_option maxHeartbeats 400000
namespace RG
open PySem PySem.Spec PyProof.Rows L2
variable {P : Program} {w : World} {K : PySem.W.Frag} {mg : Str → Option Value} {base : Heap}
/-! ### cells -/
theorem for_enum {K : PySem.W.Frag} {a : Addr} {xs : List V} {g : TG} {tb : TS} {D : Ends} {σ : L2.St} {H : Hp} (Pv : Nat → L2.St → Hp → Prop) (h0 : Pv 0 σ H) (hl : ∀ i σ H, Pv i σ H → SqL K H a xs)
    (hs : ∀ (i : Nat) (x : V) (T : Addr) (σ : L2.St) (H : Hp), xs[i]? = some x → Pv i σ H → H T = none → g (.ref T) σ (upd H T (.tup [.int (i : Nat), x])) fun σ2 H2 => tb { D with nx := Pv (i + 1), ct := Pv (i + 1), bk := D.nx } σ2 H2) (hd : ∀ σ H, Pv xs.length σ H → D.nx σ H) :
    ∃ W : Nat → Nat → L2.St → Hp → Prop, (∃ m, W 0 m σ H) ∧ ∀ i m σ H, W i m σ H →
      ((Ite K a).stop i H ∧ D.nx σ H) ∨ ((Ite K a).go i H ∧ ∃ N : L2.St → Hp → Prop, (∀ σ' H', N σ' H' → ∃ m', m' < m ∧ W (i + 1) m' σ' H') ∧ ∀ v H', (Ite K a).yld i H v H' → g v σ H' fun σ2 H2 => tb { D with nx := N, ct := N, bk := D.nx } σ2 H2) := by
  refine ⟨fun i m σ H => m = xs.length - i ∧ i ≤ xs.length ∧ Pv i σ H, ⟨xs.length, rfl, Nat.zero_le _, h0⟩, ?_⟩
  rintro i m σ H ⟨rfl, hi, p⟩
  have q := hl i σ H p
  by_cases hlt : i < xs.length
  · refine .inr ⟨⟨xs, _, q, List.getElem?_eq_getElem hlt⟩, Pv (i + 1), fun σ' H' p' => ⟨xs.length - (i + 1), by omega, rfl, hlt, p'⟩, fun v H' y => ?_⟩
    obtain ⟨T, x, rfl, hT, rfl, f⟩ := y
    exact hs i x T σ H (f xs q) p hT
  · have e : i = xs.length := by omega
    subst e
    exact .inl ⟨⟨xs, q, Nat.le_refl _⟩, hd σ H p⟩
def spCells (K : PySem.W.Frag) : Sp := fun vs H Q _ => ∃ (p : Addr) (ns : List Int), vs = [.ref p, .int 3] ∧ SqL K H p (ns.map V.int) ∧ ∀ q ms H', Ex H H' → H' q = some (.lst (List.map V.int ms)) → 1 ≤ ms.length → ms.length ≤ 3 → Q (.ref q) H'
theorem ok_cells (T : Txt K mg) : DefOk P w K mg base CX0 "_law_cells" p_L_cells 1 (spCells K) := by
  obtain ⟨fd, F⟩ := T.F_L_cells
  refine ⟨⟨_, fd, T.g_L_cells, F.kp, F.bindsN (ps := p_L_cells) (fun _ _ _ _ _ _ us hl => match us, hl with | [_, _], _ => rfl), F.ok sc_L_cells (fun vs H Q E h => ?_) fun cdv A outer s H vs Q E hr h => ?_⟩⟩
  · obtain ⟨p, ns, rfl, _⟩ := h
    rfl
  obtain ⟨p, ns, rfl, hp, q⟩ := h
  refine ⟨_, PSs.nox (pss_cons (ps_set (i := 2) sc_L_cells.nd rfl (Or.inl rfl) (pe_orT (pe_callTy (r := Evl.rListS K) call_list_of rfl T.f_list b_list (pa_cons (pe_slice (r := rSlL K) sl_list (pv 0) po_none (po_some (pv 1))) pa_nil)) (pe_one (pe_lst (pa_cons pe_int pa_nil))))) (pss_cons (ps_for PassesOwn.never rfl (pi_enum rfl T.f_enumerate (pa_cons (pe_slice (r := rSlL K) sl_list (pv 0) (po_some (pv 1)) (po_some pe_int)) pa_nil)) (pg_tup rfl (pgs_cons (pg_name (i := 3) sc_L_cells.nd rfl (Or.inl rfl)) (pgs_cons (pg_name (i := 4) sc_L_cells.nd rfl (Or.inl rfl)) pgs_nil))) (pss_cons (ps_set (i := 5) sc_L_cells.nd rfl (Or.inl rfl) (pe_op op_mod (pe_callTy call_int1 rfl T.f_int b_int (pa_cons (pv 3) pa_nil)) (pv 1))) (pss_one (ps_asg (pe_op op_add (pe_ix (r := rIxL K) ix_list (pv 2) (pv 5) (fun _ _ => rfl)) (pe_op op_mul (pv 4) (pe_op op_add (pv 3) pe_int))) (pg_sub (pv 2) (pv 5) set_list))))) (pss_one (ps_ret (pv 2))))), ?_⟩
  dsimp only [tSeq, tAsg]
  refine teCut (fun v H' => Ex H H' ∧ ∃ z ms, v = .ref z ∧ H z = none ∧ H' z = some (.lst (List.map V.int ms)) ∧ 1 ≤ ms.length ∧ ms.length ≤ 3 ∧ (3 < ns.length → ms.length = 3)) (fun Q' k2 => ?_) ?_
  · refine ⟨_, rfl, _, rfl, _, rfl, p, _, rfl, hp, fun l hl => ?_⟩
    refine ⟨l, _, rfl, .inl (SqL.of upd_same), fun l2 hl2 => ?_⟩
    have ec : cutV (ns.map V.int) none (some 3) = (ns.take 3).map V.int := by
      unfold cutV
      rw [HT.sIx_none, List.drop_zero, Nat.sub_zero, show (some (3 : Int)) = some ((3 : Nat) : Int) from rfl, HT.sIx_nat, List.length_map, List.map_take]
      rcases Nat.le_total 3 ns.length with h | h
      · rw [Nat.min_eq_left h]
      · rw [Nat.min_eq_right h, List.take_of_length_le (by rw [List.length_map]; exact Nat.le_refl _), List.take_of_length_le (by rw [List.length_map]; exact h)]
    rw [ec] at hl2 ⊢
    have el := Evl.Ex.new (o := .lst (List.map V.int (ns.take 3))) hl
    have el2 := el.trans (Evl.Ex.new (o := .lst (List.map V.int (ns.take 3))) hl2)
    have hl2n : H l2 = none := by
      cases h : H l2 with
      | none => rfl
      | some o =>
        have := el _ _ h
        rw [hl2] at this
        cases this
    refine ⟨_, .inl ⟨_, SqL.of upd_same, rfl⟩, ?_⟩
    by_cases c : ns = []
    · subst c
      refine ifF rfl ⟨(by show 1 ≤ sizeLine; decide), fun l3 hl3 => ?_⟩
      refine k2 _ _ ⟨el2.trans (Evl.Ex.new hl3), l3, [0], rfl, ?_, upd_same, by decide, by decide, fun h => absurd h (by decide)⟩
      cases h : H l3 with
      | none => rfl
      | some o =>
        have := el2 _ _ h
        rw [hl3] at this
        cases this
    · have hne : (ns.take 3).map V.int ≠ [] := fun e => by
        have := List.map_eq_nil_iff.mp e
        cases ns with
        | nil => exact c rfl
        | cons a b => cases this
      refine ifT (by cases h : (ns.take 3).map V.int with | nil => exact absurd h hne | cons a b => rfl) ?_
      refine k2 _ _ ⟨el2, l2, ns.take 3, rfl, hl2n, upd_same, ?_, ?_, ?_⟩
      · cases ns with
        | nil => exact absurd rfl c
        | cons a b => show 1 ≤ (a :: b.take 2).length; simp
      · rw [List.length_take]; omega
      · intro h; rw [List.length_take]; omega
  rintro v H1 ⟨e1, z, ms, rfl, hzn, hz, m1, m3, m4⟩
  refine ⟨_, rfl, _, rfl, _, rfl, _, rfl, p, _, rfl, Evl.ex_l e1 hp, fun l hl => ?_⟩
  refine ⟨l, _, rfl, SqL.of upd_same, ?_⟩
  have e2 := e1.trans (Evl.Ex.new (o := .lst (cutV (ns.map V.int) (some 3) (some 63))) hl)
  have hzl : z ≠ l := fun e => by rw [e, hl] at hz; cases hz
  have ec : cutV (ns.map V.int) (some 3) (some 63) = ((ns.drop 3).take 60).map V.int := by
    unfold cutV
    rw [show (some (3 : Int)) = some ((3 : Nat) : Int) from rfl, show (some (63 : Int)) = some ((63 : Nat) : Int) from rfl, HT.sIx_nat, HT.sIx_nat, List.length_map, List.map_take, List.map_drop]
    rcases Nat.le_total 3 ns.length with h | h
    · rw [Nat.min_eq_left h]
      rcases Nat.le_total 63 ns.length with h2 | h2
      · rw [Nat.min_eq_left h2]
      · rw [Nat.min_eq_right h2, List.take_of_length_le (by rw [List.length_drop, List.length_map]; exact Nat.le_refl _), List.take_of_length_le (by rw [List.length_drop, List.length_map]; omega)]
    · rw [Nat.min_eq_right h, List.drop_of_length_le (by rw [List.length_map]; exact Nat.le_refl _), List.drop_of_length_le (by rw [List.length_map]; exact h), List.take_nil, List.take_nil]
  rw [ec]
  rw [ec] at e2
  refine for_enum (K := K) (xs := ((ns.drop 3).take 60).map V.int) (fun i σ H' => Ex H H' ∧ H' l = some (.lst (((ns.drop 3).take 60).map V.int)) ∧ (∃ y1 y2 y3, σ = [some (.ref p), some (.int 3), some (.ref z), y1, y2, y3]) ∧ ∃ ms', H' z = some (.lst (List.map V.int ms')) ∧ ms'.length = ms.length)
    ⟨e2, upd_same, ⟨none, none, none, rfl⟩, ms, by rw [upd_ne hzl]; exact hz, rfl⟩ (fun i σ H' h => SqL.of h.2.1) ?_ ?_
  rotate_left
  · rintro σ H3 ⟨e3, _, ⟨y1, y2, y3, rfl⟩, ms', hz3, hml⟩
    exact ⟨_, rfl, q z ms' H3 e3 hz3 (by omega) (by omega)⟩
  rintro i x T4 σ H3 hi ⟨e3, hl3, ⟨y1, y2, y3, rfl⟩, ms', hz3, hml⟩ hT
  have hi2 := (List.getElem?_eq_some_iff.mp hi).1
  rw [List.length_map, List.length_take, List.length_drop] at hi2
  have hm3 : ms'.length = 3 := by rw [hml]; exact m4 (by omega)
  rw [List.getElem?_map] at hi
  cases hx : ((ns.drop 3).take 60)[i]? with
  | none => rw [hx] at hi; cases hi
  | some c =>
    rw [hx] at hi
    obtain rfl := Option.some.inj hi
    refine gtup2 rfl upd_same ?_
    have e4 := Evl.Ex.new (o := .tup [V.int (i : Int), V.int c]) hT
    have hz4 := e4 _ _ hz3
    have hat : (((i : Int) % 3).toNat : Int) = (i : Int) % 3 := by omega
    refine ⟨_, rfl, .inl ⟨_, rfl, _, rfl, _, _, rfl, rfl, (by show (0 : Int) < 3; decide), ?_⟩⟩
    have hk3 : ((i : Int) % 3).toNat < 3 := by omega
    have hgx : atI (List.map V.int ms') ((i : Int) % 3) = some (.int (ms'.getD ((i : Int) % 3).toNat 0)) := atD (k := ((i : Int) % 3).toNat) hat.symm (by omega)
    refine ⟨_, rfl, _, rfl, z, _, _, _, rfl, rfl, SqL.of hz4, hgx, ?_⟩
    refine ⟨_, rfl, _, rfl, _, _, rfl, rfl, _, _, rfl, rfl, .inr ⟨by omega, by omega⟩, _, _, rfl, rfl, ?_⟩
    refine ⟨_, rfl, _, rfl, z, _, _, ((i : Int) % 3).toNat, rfl, rfl, hz4, ?_, ?_⟩
    · unfold ixN
      rw [if_pos (by omega), if_pos (by rw [List.length_map]; omega)]
    refine ⟨Evl.Ex.mut (e3.trans e4) hzn, ?_, ⟨_, _, _, rfl⟩, ms'.set ((i : Int) % 3).toNat (ms'.getD ((i : Int) % 3).toNat 0 + c * ((i : Int) + 2)), ?_, ?_⟩
    · rw [upd_ne (fun e => hzl e.symm)]
      exact e4 _ _ hl3
    · rw [upd_same, List.map_set]
    · rw [List.length_set]
      exact hml
end RG

set_option Elab.async false
set_option linter.all false
set_option maxRecDepth 100000
set_option maxHeartbeats 400000
namespace RG
open PySem PySem.Spec PyProof.Rows L2
variable {P : Program} {w : World} {K : PySem.W.Frag} {mg : Str → Option Value} {base : Heap}
/-! ### costs -/
theorem BoxAt.new {H : Hp} {b D : Addr} {m : Nat} (h : BoxAt H b m) (hD : H D = none) : D ≠ b := fun e => by
  obtain ⟨c0, c1, c2, h1, _⟩ := h
  rw [e, h1] at hD
  cases hD
theorem BoxAt.upd {H : Hp} {b D : Addr} {m : Nat} {o : HO} (h : BoxAt H b m) (n : D ≠ b) : BoxAt (upd H D o) b m := by
  obtain ⟨c0, c1, c2, h1, h2⟩ := h
  exact ⟨c0, c1, c2, by rw [upd_ne (fun e => n e.symm)]; exact h1, h2⟩
theorem ExB.new {b D : Addr} {H H' : Hp} {o : HO} (e : ExB b H H') (hD : H D = none) : ExB b H (upd H' D o) := fun z u n h => by
  rw [upd_ne (fun c => by rw [c, hD] at h; cases h)]
  exact e z u n h
theorem sqt_exb {b p : Addr} {xs ys : List V} {H H' : Hp} (e : ExB b H H') (hb : H b = some (.lst ys)) (h : SqT K H p xs) : SqT K H' p xs := by
  rcases h with (h | ⟨o, h⟩) | h
  · exact .inl (.inl (e _ _ (fun z => by rw [z, hb] at h; cases h) h))
  · exact .inl (.inr ⟨o, e _ _ (fun z => by rw [z, hb] at h; cases h) h⟩)
  · exact .inr h
theorem BoxAt.lst {H : Hp} {b : Addr} {m : Nat} (h : BoxAt H b m) : ∃ ys, H b = some (.lst ys) := by
  obtain ⟨c0, c1, c2, h1, _⟩ := h
  exact ⟨_, h1⟩
theorem OpI.box {b : Addr} {m len : Nat} {v : V} {o : Option (List Int)} {H H' : Hp} (e : ExB b H H') (hb : BoxAt H b m) (h : OpI K H len v o) : OpI K H' len v o := by
  obtain ⟨ys, hy⟩ := hb.lst
  cases o with
  | none => exact h
  | some xs =>
    obtain ⟨p, h1, h2, h3⟩ := h
    exact ⟨p, h1, sqt_exb e hy h2, h3⟩
theorem gone_of {b : Addr} {H H' : Hp} {D : Addr} (e : ExB b H H') (n : D ≠ b) (h : H' D = none) : H D = none := by
  cases q : H D with
  | none => rfl
  | some o =>
    rw [e _ _ n q] at h
    cases h
/-- [.. for .. in range(..)], each item a draw -/
theorem lc_draw {b : Addr} {H1 : Hp} {lo : Int} {n m k : Nat} {g : TG} {te : TE} {vs : List Nat} {σ : L2.St} {D : Addr} {Qd : Hp → Prop} (hb : BoxAt H1 b (m + n)) (hn : n < 1000)
    (item : ∀ (i : Nat) x H2 m', i < n → BoxAt H2 b (m' + 1) → ∀ Ky : V → Hp → Prop, (∀ (r : Nat) H3, r < k → ExB b H2 H3 → BoxAt H3 b m' → Ky (.int r) H3) → g x (wipe σ vs) H2 fun σ2 H3 => wipe σ2 vs = wipe σ vs ∧ te σ2 H3 Ky)
    (gm : ∀ x σ H (P P' : L2.St → Hp → Prop), (∀ σ' H', P σ' H' → P' σ' H') → g x σ H P → g x σ H P')
    (hD : H1 D = none) (fin : ∀ (rs : List Nat) H2, ExB b H1 H2 → BoxAt H2 b m → H2 D = some (.lst (rs.map fun r : Nat => V.int r)) → rs.length = n → (∀ r ∈ rs, r < k) → Qd H2) :
    ∃ W : Nat → Nat → Hp → Prop, (∃ m, W 0 m (upd H1 D (.lst []))) ∧ ∀ i m H, W i m H →
      ((Itr lo n).stop i H ∧ Qd H) ∨ ((Itr lo n).go i H ∧ ∃ Nx : Hp → Prop, (∀ H', Nx H' → ∃ m', m' < m ∧ W (i + 1) m' H') ∧ ∀ x H', (Itr lo n).yld i H x H' → g x (wipe σ vs) H' fun σ2 H2 => wipe σ2 vs = wipe σ vs ∧ tYes σ2 H2 fun b H3 =>
        if b = true then te σ2 H3 fun y H4 => ∃ acc, H4 D = some (.lst acc) ∧ acc.length < sizeLine ∧ Nx (upd H4 D (.lst (acc ++ [y]))) else Nx H3) := by
  have hDb := hb.new hD
  let P : Nat → Hp → Prop := fun i H => ExB b H1 H ∧ BoxAt H b (m + (n - i)) ∧ ∃ rs : List Nat, H D = some (.lst (rs.map fun r : Nat => V.int r)) ∧ rs.length = i ∧ ∀ r ∈ rs, r < k
  refine ⟨fun i u H => u = n - i ∧ i ≤ n ∧ P i H, ⟨n, rfl, Nat.zero_le _, ExB.new .refl hD, hb.upd hDb, [], upd_same, rfl, fun r h => nomatch h⟩, ?_⟩
  rintro i u H ⟨rfl, hi, e, hbx, rs, hrs, hl, hall⟩
  by_cases hlt : i < n
  · refine .inr ⟨hlt, P (i + 1), fun H' p => ⟨n - (i + 1), by omega, rfl, hlt, p⟩, fun x H' y => ?_⟩
    obtain ⟨e2, rfl⟩ := y
    subst e2
    refine gm _ _ _ _ _ (fun σ' H' p => ?_) (item i _ _ (m + (n - (i + 1))) hlt (by rw [show m + (n - (i + 1)) + 1 = m + (n - i) by omega]; exact hbx) (fun y H4 => ∃ acc, H4 D = some (.lst acc) ∧ acc.length < sizeLine ∧ P (i + 1) (upd H4 D (.lst (acc ++ [y])))) fun r H3 hr e3 b3 => ⟨_, e3 _ _ hDb hrs, sz_lt' (by rw [List.length_map]; omega), ?_⟩)
    · exact ⟨p.1, yes_go p.2⟩
    · refine ⟨ExB.new (e.trans e3) hD, b3.upd hDb, rs ++ [r], ?_, by rw [List.length_append, hl]; rfl, fun z hz => ?_⟩
      · rw [upd_same, List.map_append]
        rfl
      · rcases List.mem_append.mp hz with h | h
        · exact hall z h
        · rw [List.mem_singleton.mp h]
          exact hr
  · have ei : i = n := by omega
    subst ei
    refine .inl ⟨Nat.le_refl _, fin rs H e (by rw [Nat.sub_self] at hbx; exact hbx) hrs hl hall⟩
theorem forCut {te : TE} {g : TG} {tb : TS} {D : Ends} {σ : L2.St} {H : Hp} (C : V → Hp → Prop) (main : ∀ Q : VK, (∀ v H', C v H' → Q v H') → te σ H Q)
    (key : ∀ v H', C v H' → ∃ j : Int, v = .int j ∧ -(2 ^ 62) ≤ j ∧ j < 2 ^ 62 ∧ tFor (fun _ H R => R (Itr 0 j.toNat) H) g tb D σ H') : tFor (iRng1 (tCons te tNil)) g tb D σ H :=
  main _ fun v H' c => by
    obtain ⟨j, rfl, h1, h2, h3⟩ := key v H' c
    exact ⟨j, rfl, h1, h2, h3⟩
def spCosts (K : PySem.W.Frag) : Sp := fun vs H Q _ => ∃ (b : Addr) (n m : Nat), vs = [.ref b, .int n] ∧ 1 ≤ n ∧ n ≤ 6 ∧ BoxAt H b (m + 25) ∧ ∀ v c H', ExB b H H' → BoxAt H' b m → CostAt K H' v n c → Q v H'
theorem ok_costs (T : Txt K mg) (D_L_take : DefOk P w K mg base CX0 "_law_take" p_L_take 1 spTake) (D_L_of : DefOk P w K mg base CX0 "_law_of" p_L_of 2 (spOne K)) : DefOk P w K mg base CX0 "_law_costs" p_L_costs 3 (spCosts K) := by
  obtain ⟨fd, F⟩ := T.F_L_costs
  refine ⟨⟨_, fd, T.g_L_costs, F.kp, F.bindsN (ps := p_L_costs) (fun _ _ _ _ _ _ us hl => match us, hl with | [_, _], _ => rfl), F.ok sc_L_costs (fun vs H Q E h => ?_) fun cdv A outer s H vs Q E hr h => ?_⟩⟩
  · obtain ⟨b, n, m, rfl, _⟩ := h
    rfl
  obtain ⟨b, n, m, rfl, hn1, hn, hb, q⟩ := h
  refine ⟨_, PSs.nox (pss_cons (ps_set (i := 2) sc_L_costs.nd rfl (Or.inl rfl) (pe_d D_L_take (hr.mono (by omega)) pass0 (pa_cons (pv 0) (pa_cons pe_int pa_nil)))) (pss_cons (ps_set (i := 3) sc_L_costs.nd rfl (Or.inr rfl) (pe_d D_L_of (hr.mono (by omega)) pass0 (pa_cons (pv 0) (pa_cons (pe_lst (pa_cons pe_int (pa_cons pe_int (pa_cons pe_int pa_nil)))) pa_nil)))) (pss_cons (ps_set (i := 5) sc_L_costs.nd rfl (Or.inl rfl) (pe_ifExp (pt_cmpR op_lt (pv 2) pe_int (nomark _)) (pe_callTy (r := rTupOf K) call_tuple_of rfl T.f_tuple b_tuple (pa_cons (pe_lc (own := [("_law_turn", 4)]) (g := (gName 4)) rfl sc_L_costs.nd (pi_range1 rfl T.f_range (pa_cons (pe_op op_add (pv 1) pe_int) pa_nil)) (blkOk_by (own := [("_law_turn", 4)]) (N := n_L_costs) (sc := (defScope s_L_costs)) (by decide +kernel)) (fun _ _ _ _ _ => (by exact (pg_name (i := 4) sc_L_costs.nd rfl (Or.inl rfl)))) (fun _ _ _ _ _ => pts_nil) (fun _ _ _ _ _ => (pe_d D_L_take (hr.mono (by omega)) pass0 (pa_cons (pv 0) (pa_cons (pv 3) pa_nil))))) pa_nil)) pe_non)) (pss_cons (ps_set (i := 6) sc_L_costs.nd rfl (Or.inl rfl) (pe_ifExp (pt_cmpR op_gt (pv 2) pe_int (nomark _)) (pe_callTy (r := rTupOf K) call_tuple_of rfl T.f_tuple b_tuple (pa_cons (pe_lc (own := [("_law_turn", 4)]) (g := (gName 4)) rfl sc_L_costs.nd (pi_range1 rfl T.f_range (pa_cons (pv 1) pa_nil)) (blkOk_by (own := [("_law_turn", 4)]) (N := n_L_costs) (sc := (defScope s_L_costs)) (by decide +kernel)) (fun _ _ _ _ _ => (by exact (pg_name (i := 4) sc_L_costs.nd rfl (Or.inl rfl)))) (fun _ _ _ _ _ => pts_nil) (fun _ _ _ _ _ => (pe_d D_L_take (hr.mono (by omega)) pass0 (pa_cons (pv 0) (pa_cons (pv 3) pa_nil))))) pa_nil)) pe_non)) (pss_cons (ps_set (i := 7) sc_L_costs.nd rfl (Or.inl rfl) (pe_lst pa_nil)) (pss_cons (ps_for PassesOwn.never rfl (pi_range1 rfl T.f_range (pa_cons (pe_ifExp (PW.pt (pw_and (pt_cmpR op_gt (pv 1) pe_int (nomark _)) (pw_and1 (pt_cmpR op_ne (pv 2) pe_int (nomark _))))) (pe_d D_L_take (hr.mono (by omega)) pass0 (pa_cons (pv 0) (pa_cons pe_int pa_nil))) pe_int) pa_nil)) (pg_name (i := 4) sc_L_costs.nd rfl (Or.inl rfl)) (pss_cons (ps_set (i := 8) sc_L_costs.nd rfl (Or.inl rfl) (pe_op op_add pe_int (pe_d D_L_take (hr.mono (by omega)) pass0 (pa_cons (pv 0) (pa_cons (pe_op op_sub (pv 1) pe_int) pa_nil))))) (pss_one (ps_expr (pe_bm PySem.F.plainAttrs_list PySem.F.slot_list_append PySem.F.type_list_append mt_append (pv 7) (pa_cons (pe_tup (pa_cons (pv 8) (pa_cons (pe_op op_add (pe_op op_add (pv 8) pe_int) (pe_d D_L_take (hr.mono (by omega)) pass0 (pa_cons (pv 0) (pa_cons (pe_op op_sub (pv 1) (pv 8)) pa_nil)))) (pa_cons (pe_op op_sub (pe_d D_L_take (hr.mono (by omega)) pass0 (pa_cons (pv 0) (pa_cons pe_int pa_nil))) pe_int) pa_nil)))) pa_nil)))))) (pss_one (ps_ret (pe_tup (pa_cons (pv 5) (pa_cons (pv 6) (pa_cons (pe_callTy (r := rTupOf K) call_tuple_of rfl T.f_tuple b_tuple (pa_cons (pv 7) pa_nil)) pa_nil)))))))))))), ?_⟩
  refine ⟨_, rfl, b, 6, m + 24, rfl, by decide, by decide, hb, fun way H1 hway e1 b1 => ?_⟩
  refine ⟨_, rfl, (by show 3 ≤ sizeLine; decide), fun pl hpl => ?_⟩
  have npl := b1.new hpl
  refine ⟨b, pl, _, m + 23, rfl, npl, SqL.of upd_same, by show 0 < 3; decide, by show 3 ≤ 10000; decide, b1.upd npl, fun i3 v3 H3 hi3 e3 b3 => ?_⟩
  obtain ⟨top, htop, ht0, ht1⟩ : ∃ top : Nat, v3 = .int top ∧ 0 < top ∧ top ≤ 1000 := by
    match i3, hi3 with
    | 0, hi3 => cases hi3; exact ⟨3, rfl, by decide, by decide⟩
    | 1, hi3 => cases hi3; exact ⟨10, rfl, by decide, by decide⟩
    | 2, hi3 => cases hi3; exact ⟨1000, rfl, by decide, by decide⟩
  subst htop
  have hpl0 := gone_of e1 npl hpl
  have e03 : ExB b H H3 := fun z o hz h => e3 z o hz (by rw [upd_ne (fun c => by rw [c, hpl0] at h; cases h)]; exact e1 z o hz h)
  -- dims
  dsimp only [gName, tSeq, tAsg]
  refine teCut (fun v H' => ExB b H3 H' ∧ BoxAt H' b (m + 16) ∧ ∃ so, OpI K H' (n + 1) v so) (fun Q' k2 => ?_) ?_
  · refine ⟨_, rfl, _, _, rfl, rfl, _, rfl, ite2 (fun c => ?_) (fun c => ?_)⟩
    · refine ⟨_, rfl, _, _, rfl, rfl, _, rfl, by omega, by omega, fun D hD => ?_⟩
      have et : ((n : Int) + 1).toNat = n + 1 := by omega
      rw [et]
      refine lc_draw (m := m + 16) (k := top) (b3.le (by omega)) (by omega) (fun i x H4 m' hi b4 Ky ky => ?_) gm_name hD fun rs H4 e4 b4 hrs hl hall => ?_
      · exact ⟨rfl, _, rfl, _, rfl, b, top, m', rfl, ht0, by omega, b4, ky⟩
      refine ⟨D, _, rfl, .inl ⟨SqL.of hrs, fun l hl2 => k2 _ _ ⟨e4.new (gone_of e4 (b4.new hl2) hl2), b4.upd (b4.new hl2), some (rs.map fun r : Nat => (r : Int)), l, rfl, ?_, ?_, ?_⟩⟩⟩
      · refine SqT.of (upd_same.trans (congrArg (fun l => some (HO.tup l)) ?_))
        rw [List.map_map]
        rfl
      · rw [List.length_map]
        exact hl
      · intro z hz
        obtain ⟨r, hr, rfl⟩ := List.mem_map.mp hz
        have := hall r hr
        omega
    · exact k2 _ _ ⟨.refl, b3.le (by omega), none, rfl⟩
  rintro sv H5 ⟨e5, b5, so, hso⟩
  refine teCut (fun v H' => ExB b H5 H' ∧ BoxAt H' b (m + 10) ∧ ∃ wo, OpI K H' n v wo) (fun Q' k2 => ?_) ?_
  · refine ⟨_, rfl, _, _, rfl, rfl, _, rfl, ite2 (fun c => ?_) (fun c => ?_)⟩
    · refine ⟨_, rfl, _, rfl, by omega, by omega, fun D hD => ?_⟩
      have et : ((n : Int)).toNat = n := by omega
      rw [et]
      refine lc_draw (m := m + 10) (k := top) (b5.le (by omega)) (by omega) (fun i x H4 m' hi b4 Ky ky => ?_) gm_name hD fun rs H4 e4 b4 hrs hl hall => ?_
      · exact ⟨rfl, _, rfl, _, rfl, b, top, m', rfl, ht0, by omega, b4, ky⟩
      refine ⟨D, _, rfl, .inl ⟨SqL.of hrs, fun l hl2 => k2 _ _ ⟨e4.new (gone_of e4 (b4.new hl2) hl2), b4.upd (b4.new hl2), some (rs.map fun r : Nat => (r : Int)), l, rfl, ?_, ?_, ?_⟩⟩⟩
      · refine SqT.of (upd_same.trans (congrArg (fun l => some (HO.tup l)) ?_))
        rw [List.map_map]
        rfl
      · rw [List.length_map]
        exact hl
      · intro z hz
        obtain ⟨r, hr, rfl⟩ := List.mem_map.mp hz
        have := hall r hr
        omega
    · exact k2 _ _ ⟨.refl, b5.le (by omega), none, rfl⟩
  rintro wv H6 ⟨e6, b6, wo, hwo⟩
  have hso6 := hso.box e6 b5
  refine ⟨(by show 0 ≤ sizeLine; decide), fun f hf => ?_⟩
  have hfb := b6.new hf
  have e06 := (e03.trans e5).trans e6
  have hf0 := gone_of e06 hfb hf
  have e7 : ExB b H (upd H6 f (.lst [])) := e06.new hf0
  have b7 : BoxAt (upd H6 f (.lst [])) b (m + 10) := b6.upd hfb
  have e67 : Ex H6 (upd H6 f (.lst [])) := Evl.Ex.new hf
  refine forCut (fun v H' => ExB b (upd H6 f (.lst [])) H' ∧ BoxAt H' b (m + 9) ∧ ∃ kk : Nat, v = .int kk ∧ kk ≤ 3 ∧ (0 < kk → 1 < n)) (fun Q' k2 => ?_) ?_
  · refine ⟨_, rfl, _, _, rfl, rfl, _, rfl, ite2 (fun c => ?_) (fun c => ?_)⟩
    · have c1 : (1 : Int) < (n : Int) := of_decide_eq_true c
      refine ⟨_, rfl, rfl, _, rfl, ite2 (fun c2 => ?_) (fun c2 => ?_)⟩
      · exact ⟨_, rfl, b, 4, m + 9, rfl, by decide, by decide, b7, fun r H8 hr e8 b8 => k2 _ _ ⟨e8, b8, r, rfl, by omega, fun _ => by omega⟩⟩
      · exact k2 _ _ ⟨.refl, b7.le (by omega), 0, rfl, by decide, fun h => absurd h (by decide)⟩
    · exact iteF (k2 _ _ ⟨.refl, b7.le (by omega), 0, rfl, by decide, fun h => absurd h (by decide)⟩)
  rintro v H8 ⟨e8, b8, kk, rfl, hk3, hkn⟩
  refine ⟨_, rfl, by omega, by omega, ?_⟩
  have et : ((kk : Nat) : Int).toNat = kk := by omega
  rw [et]
  have e68 : ExB b H6 H8 := (ExB.of e67).trans e8
  have hso8 := hso6.box e68 b6
  have hwo8 := hwo.box e68 b6
  have hf8 : H8 f = some (.lst []) := e8 _ _ hfb upd_same
  refine for_range (fun i σ H' => (∀ z o, z ≠ b → z ≠ f → H8 z = some o → H' z = some o) ∧ BoxAt H' b (m + 3 * (kk - i)) ∧ (∃ y1 y2, σ = [some (.ref b), some (.int n), some (.int way), some (.int top), y1, some sv, some wv, some (.ref f), y2]) ∧
      ∃ vs brs, H' f = some (.lst vs) ∧ Paired (RBr H') vs brs ∧ vs.length = i ∧ ∀ z ∈ brs, 1 ≤ z.1 ∧ z.1 ≤ n ∧ 1 ≤ z.2.1 ∧ z.2.1 ≤ n)
    ⟨fun z o _ _ h => h, b8.le (by omega), ⟨none, none, rfl⟩, [], [], hf8, .nil, rfl, fun z h => nomatch h⟩ ?_ ?_
  · rintro i σ H9 hi ⟨k9, b9, ⟨y1, y2, rfl⟩, vs, brs, hf9, pr9, hl9, hall⟩
    have hn2 := hkn (by omega)
    refine ⟨_, rfl, _, rfl, _, _, rfl, rfl, b, n - 1, m + 3 * (kk - i) - 1, ?_, by omega, by omega, (by rw [show m + 3 * (kk - i) - 1 + 1 = m + 3 * (kk - i) by omega]; exact b9), fun r1 H10 hr1 e10 b10 => ?_⟩
    · show [V.ref b, V.int ((n : Int) - 1)] = [V.ref b, V.int ((n - 1 : Nat) : Int)]
      rw [show (n : Int) - 1 = ((n - 1 : Nat) : Int) by omega]
    refine ⟨_, _, rfl, rfl, ?_⟩
    have hb9 := b9.lst
    have hnf : f ≠ b := hfb
    have e1f : H10 f = some (.lst vs) := e10 _ _ hnf hf9
    refine ⟨_, rfl, .inl ⟨rfl, vs, SqL.of e1f⟩, ?_⟩
    refine ⟨_, rfl, _, rfl, _, _, rfl, rfl, _, rfl, _, rfl, _, rfl, _, _, rfl, rfl, b, n - (r1 + 1), m + 3 * (kk - i) - 2, ?_, by omega, by omega, (by rw [show m + 3 * (kk - i) - 2 + 1 = m + 3 * (kk - i) - 1 by omega]; exact b10), fun r2 H11 hr2 e11 b11 => ?_⟩
    · show [V.ref b, V.int ((n : Int) - (1 + (r1 : Int)))] = [V.ref b, V.int ((n - (r1 + 1) : Nat) : Int)]
      rw [show (n : Int) - (1 + (r1 : Int)) = ((n - (r1 + 1) : Nat) : Int) by omega]
    refine ⟨_, _, rfl, rfl, _, rfl, b, 41, m + 3 * (kk - i) - 3, rfl, by decide, by decide, (by rw [show m + 3 * (kk - i) - 3 + 1 = m + 3 * (kk - i) - 2 by omega]; exact b11), fun r3 H12 hr3 e12 b12 => ?_⟩
    refine ⟨_, _, rfl, rfl, (by show 3 ≤ sizeLine; decide), fun p13 hp13 => ?_⟩
    have e912 : ExB b H9 H12 := (e10.trans e11).trans e12
    have e13 := Evl.Ex.new (o := .tup [V.int (1 + (r1 : Int)), V.int (1 + (r1 : Int) + 1 + (r2 : Int)), V.int ((r3 : Int) - 20)]) hp13
    have hf13 := e13 _ _ (e912 _ _ hnf hf9)
    refine ⟨f, vs, _, rfl, rfl, hf13, sz_lt' (by omega), ?_⟩
    have keep : ∀ z o, z ≠ b → z ≠ f → H9 z = some o → upd (upd H12 p13 (.tup [V.int (1 + (r1 : Int)), V.int (1 + (r1 : Int) + 1 + (r2 : Int)), V.int ((r3 : Int) - 20)])) f (.lst (vs ++ [V.ref p13])) z = some o := fun z o hz hz2 h => by
      rw [upd_ne hz2]
      exact e13 _ _ (e912 z o hz h)
    obtain ⟨ys9, hy9⟩ := hb9
    have hpf : p13 ≠ f := fun e => by rw [e, e912 _ _ hnf hf9] at hp13; cases hp13
    refine ⟨fun z o hz hz2 h => keep z o hz hz2 (k9 z o hz hz2 h), (((b12.ex e13).upd hnf).le (by omega)), ⟨_, _, rfl⟩, vs ++ [V.ref p13], brs ++ [(r1 + 1, r1 + 1 + 1 + r2, (r3 : Int) - 20)], upd_same, ?_, by rw [List.length_append, hl9]; rfl, fun z hz => ?_⟩
    · refine paired_app (Paired.mapP pr9 fun v z ⟨q, hv, hq⟩ => ⟨q, hv, keep _ _ (fun z => by rw [z, hy9] at hq; cases hq) (fun z => by rw [z, hf9] at hq; cases hq) hq⟩) (.cons ⟨p13, rfl, ?_⟩ .nil)
      rw [upd_ne hpf, upd_same]
      show some (HO.tup [V.int (1 + (r1 : Int)), V.int (1 + (r1 : Int) + 1 + (r2 : Int)), V.int ((r3 : Int) - 20)]) = some (HO.tup [V.int ((r1 + 1 : Nat) : Int), V.int ((r1 + 1 + 1 + r2 : Nat) : Int), V.int ((r3 : Int) - 20)])
      rw [show ((r1 + 1 : Nat) : Int) = 1 + (r1 : Int) by omega, show ((r1 + 1 + 1 + r2 : Nat) : Int) = 1 + (r1 : Int) + 1 + (r2 : Int) by omega]
    · rcases List.mem_append.mp hz with h | h
      · exact hall z h
      · rw [List.mem_singleton.mp h]
        refine ⟨?_, ?_, ?_, ?_⟩
        · show 1 ≤ r1 + 1; omega
        · show r1 + 1 ≤ n; omega
        · show 1 ≤ r1 + 1 + 1 + r2; omega
        · show r1 + 1 + 1 + r2 ≤ n; omega
  · rintro σ H9 ⟨k9, b9, ⟨y1, y2, rfl⟩, vs, brs, hf9, pr9, hl9, hall⟩
    rw [Nat.sub_self] at b9
    have hso9 : OpI K H9 (n + 1) sv so := by
      cases so with
      | none => exact hso8
      | some xs =>
        obtain ⟨p, h1, h2, h3⟩ := hso8
        obtain ⟨ys, hy⟩ := b8.lst
        refine ⟨p, h1, ?_, h3⟩
        rcases h2 with (h | ⟨o, h⟩) | h
        · exact .inl (.inl (k9 _ _ (fun z => by rw [z, hy] at h; cases h) (fun z => by rw [z, hf8] at h; cases h) h))
        · exact .inl (.inr ⟨o, k9 _ _ (fun z => by rw [z, hy] at h; cases h) (fun z => by rw [z, hf8] at h; cases h) h⟩)
        · exact .inr h
    have hwo9 : OpI K H9 n wv wo := by
      cases wo with
      | none => exact hwo8
      | some xs =>
        obtain ⟨p, h1, h2, h3⟩ := hwo8
        obtain ⟨ys, hy⟩ := b8.lst
        refine ⟨p, h1, ?_, h3⟩
        rcases h2 with (h | ⟨o, h⟩) | h
        · exact .inl (.inl (k9 _ _ (fun z => by rw [z, hy] at h; cases h) (fun z => by rw [z, hf8] at h; cases h) h))
        · exact .inl (.inr ⟨o, k9 _ _ (fun z => by rw [z, hy] at h; cases h) (fun z => by rw [z, hf8] at h; cases h) h⟩)
        · exact .inr h
    have e09 : ExB b H H9 := fun z o hz h => k9 z o hz (fun c => by rw [c, hf0] at h; cases h) (e8 _ _ hz (e7 _ _ hz h))
    refine ⟨_, rfl, _, rfl, _, rfl, f, vs, rfl, .inl ⟨SqL.of hf9, fun l hl => ⟨(by show 3 ≤ sizeLine; decide), fun p hp => ?_⟩⟩⟩
    have e10 := Evl.Ex.new (o := .tup vs) hl
    have e11 := e10.trans (Evl.Ex.new (o := .tup [sv, wv, V.ref l]) hp)
    refine q (.ref p) ⟨so, wo, brs⟩ _ (e09.trans (ExB.of e11)) (b9.ex e11) ⟨p, sv, wv, .ref l, rfl, SqT.of upd_same, hso9.ex e11, hwo9.ex e11, l, vs, rfl, SqT.of ((Evl.Ex.new (o := .tup [sv, wv, V.ref l]) hp) _ _ upd_same), Paired.mapP pr9 fun _ _ z => mono_br _ _ _ _ e11 z, ?_, hall⟩
    have := pr9.length
    show brs.length ≤ 100
    omega
end RG

set_option Elab.async false
set_option linter.all false
set_option maxRecDepth 100000
set_option maxHeartbeats 400000
namespace RG
open PySem PySem.Spec PyProof.Rows L2
variable {P : Program} {w : World} {K : PySem.W.Frag} {mg : Str → Option Value} {base : Heap}
/-! ### mixed -/
theorem TrM.keep {c : Addr} {ys : List V} {H H' : Hp} (e : ExB c H H') (hc : H c = some (.lst ys)) (hl : ys.length ≠ 2) {v : V} {t : Tr} (h : TrM K H v t) : TrM K H' v t := by
  induction h with
  | lf n => exact .lf n
  | tp h _ _ a b => exact .tp (sqt_exb e hc h) a b
  | ls h _ _ a b =>
    refine .ls ?_ a b
    rcases h with (h | ⟨o, h⟩) | h
    · exact .inl (.inl (e _ _ (fun z => by rw [z, hc] at h; cases h; exact hl rfl) h))
    · exact .inl (.inr ⟨o, e _ _ (fun z => by rw [z, hc] at h; cases h) h⟩)
    · exact .inr h
theorem TrM.box {b : Addr} {m : Nat} {H H' : Hp} (e : ExB b H H') (hb : BoxAt H b m) {v : V} {t : Tr} (h : TrM K H v t) : TrM K H' v t := by
  obtain ⟨c0, c1, c2, h1, _⟩ := hb
  exact h.keep e h1 (by show 3 ≠ 2; decide)
def spMixed (K : PySem.W.Frag) (n : Nat) : Sp := fun vs H Q _ => ∃ (b : Addr) (v : V) (m : Nat), vs = [.ref b, v] ∧ 1 ≤ n ∧ ((v = .non ∧ ∀ H', Ex H H' → Q .non H') ∨ ∃ t, Dp K H v (Tr.tp t) ∧ t.ht < n ∧ BoxAt H b (m + t.trip.length) ∧ ∀ v' H', ExB b H H' → BoxAt H' b m → TrM K H' v' t → Q v' H')
theorem mixed_none (T : Txt K mg) {k : Nat} : DefOk P w K mg base CX0 "_law_mixed" p_L_mixed k (spMixed K 0) := by
  have no : ∀ vs H Q E, ¬ spMixed K 0 vs H Q E := fun vs H Q E ⟨_, _, _, _, h, _⟩ => absurd h (by decide)
  obtain ⟨fd, F⟩ := T.F_L_mixed
  exact ⟨⟨_, fd, T.g_L_mixed, F.kp, F.bindsN (ps := p_L_mixed) (fun _ _ _ _ _ _ us hl => match us, hl with | [_, _], _ => rfl), fn_none no⟩⟩
theorem mixed_more (T : Txt K mg) (D_L_take : DefOk P w K mg base CX0 "_law_take" p_L_take 1 spTake) {n : Nat} (D_L_mixed : DefOk P w K mg base CX0 "_law_mixed" p_L_mixed (n + 1) (spMixed K n)) : DefOk P w K mg base CX0 "_law_mixed" p_L_mixed (n + 2) (spMixed K (n + 1)) := by
  obtain ⟨fd, F⟩ := T.F_L_mixed
  refine ⟨⟨_, fd, T.g_L_mixed, F.kp, F.bindsN (ps := p_L_mixed) (fun _ _ _ _ _ _ us hl => match us, hl with | [_, _], _ => rfl), F.ok sc_L_mixed (fun vs H Q E h => ?_) fun cdv A outer s H vs Q E hr h => ?_⟩⟩
  · obtain ⟨b, v, m, rfl, _⟩ := h
    rfl
  obtain ⟨b, v, m, rfl, _, h⟩ := h
  refine ⟨_, PSs.nox (pss_cons (ps_if (pt_not (pt_val (pe_callB (r := rIsiT K) call_isiT rfl T.f_isinstance b_isinstance (pa_cons (pv 1) (pa_cons (pe_tup (pa_cons (pe_bltn (v := .ty "list") rfl T.f_list b_list rfl) (pa_cons (pe_bltn (v := .ty "tuple") rfl T.f_tuple b_tuple rfl) pa_nil))) pa_nil))))) (pss_one (ps_ret (pv 1))) pss_nil) (pss_cons (ps_setLc (i := 2) (own := [("_law_bit", 3)]) (g := (gName 3)) rfl sc_L_mixed.nd rfl rfl (sw_true rfl rfl rfl (by decide +kernel)) (pi_tup (pv 1)) (blkOk_by (own := [("_law_bit", 3)]) (N := n_L_mixed) (sc := (defScope s_L_mixed)) (by decide +kernel)) (fun _ _ _ _ _ => (by exact (pg_name (i := 3) sc_L_mixed.nd rfl (Or.inl rfl)))) (fun _ _ _ _ _ => pts_nil) (fun _ _ _ _ _ => (pe_d D_L_mixed (hr.mono (by omega)) pass0 (pa_cons (pv 0) (pa_cons (pv 3) pa_nil))))) (pss_one (ps_ret (pe_ifExp (pt_cmpR op_eq (pe_d D_L_take (hr.mono (by omega)) pass0 (pa_cons (pv 0) (pa_cons pe_int pa_nil))) pe_int (nomark _)) (pv 2) (pe_callTy (r := rTupOf K) call_tuple_of rfl T.f_tuple b_tuple (pa_cons (pv 2) pa_nil))))))), ?_⟩
  refine ⟨_, rfl, (by show 2 ≤ sizeLine; decide), fun p hp => ?_⟩
  have ep := Evl.Ex.new (o := .tup [V.ty "list", V.ty "tuple"]) hp
  rcases h with ⟨rfl, q⟩ | ⟨t, ht, hh, hb, q⟩
  · exact ⟨_, _, _, _, _, _, rfl, upd_same, .cons (.ty "list") (.cons (.ty "tuple") .nil), dp_ty (dp_ex ep (show Dp K H .non .none from .non)), kit_any2 (kit_list _) (kit_tuple _), _, rfl, ifT rfl ⟨_, rfl, q _ ep⟩⟩
  refine ⟨_, _, _, _, _, _, rfl, upd_same, .cons (.ty "list") (.cons (.ty "tuple") .nil), dp_ty (dp_ex ep ht), kit_any2 (kit_list _) (kit_tuple _), _, rfl, ?_⟩
  have hb1 := hb.ex ep
  cases t with
  | lf k =>
    obtain rfl := trt_lf ht
    exact ifT rfl ⟨_, rfl, q _ _ (ExB.of ep) (hb1.le (by omega)) (.lf k)⟩
  | nd l r =>
    obtain ⟨pt, x, y, rfl, hs, hx, hy⟩ := trt_nd ht
    have hlr : (Tr.nd l r).trip.length = l.trip.length + (r.trip.length + 1) := by
      show (l.trip ++ (l.fst, l.lst, r.lst) :: r.trip).length = _
      rw [List.length_append, List.length_cons]
    have hhl : l.ht < n := by have : max l.ht r.ht + 1 < n + 1 := hh; omega
    have hhr : r.ht < n := by have : max l.ht r.ht + 1 < n + 1 := hh; omega
    refine ifF rfl ?_
    have hs1 := Evl.ex_t ep hs
    refine ⟨_, rfl, pt, rfl, ⟨_, hs1⟩, fun D hD => ?_⟩
    have hDb := hb1.new hD
    obtain ⟨yb, hyb⟩ := hb1.lst
    let B : Nat → Nat := fun i => m + 1 + ((([l, r].drop i).map fun t => t.trip.length).sum)
    let Pv : Nat → Hp → Prop := fun i H' => ExB b (upd H p (.tup [V.ty "list", V.ty "tuple"])) H' ∧ BoxAt H' b (B i) ∧ ∃ acc, H' D = some (.lst acc) ∧ Paired (TrM K H') acc ([l, r].take i)
    refine ⟨fun i u H' => u = 2 - i ∧ i ≤ 2 ∧ Pv i H', ⟨2, rfl, by decide, ExB.new .refl hD, (hb1.upd hDb).le (by show m + 1 + (l.trip.length + (r.trip.length + 0)) ≤ _; omega), [], upd_same, .nil⟩, ?_⟩
    rintro i u H3 ⟨rfl, hi2, e3, b3, acc, hacc, pacc⟩
    have hs3 := sqt_exb e3 hyb hs1
    have la := pacc.length
    by_cases hi : i < 2
    · refine .inr ⟨⟨_, [x, y][i], hs3, List.getElem?_eq_getElem hi⟩, Pv (i + 1), fun H' hp' => ⟨2 - (i + 1), by omega, rfl, hi, hp'⟩, fun z H' hz => ?_⟩
      obtain ⟨eH, hz⟩ := hz
      subst eH
      have hzz := hz _ hs3
      obtain ⟨ti, hti, hdi, hhi⟩ : ∃ ti, [l, r][i]? = some ti ∧ Dp K (upd H p (.tup [V.ty "list", V.ty "tuple"])) z ti.tp ∧ ti.ht < n := by
        match i, hzz with
        | 0, hzz => cases hzz; exact ⟨l, rfl, dp_ex ep hx, hhl⟩
        | 1, hzz => cases hzz; exact ⟨r, rfl, dp_ex ep hy, hhr⟩
      have hBi : B i = B (i + 1) + ti.trip.length := by
        match i, hti with
        | 0, hti => cases hti; show m + 1 + (l.trip.length + (r.trip.length + 0)) = m + 1 + (r.trip.length + 0) + l.trip.length; omega
        | 1, hti => cases hti; show m + 1 + (r.trip.length + 0) = m + 1 + 0 + r.trip.length; omega
      refine ⟨rfl, yes_go ?_⟩
      refine ⟨_, rfl, _, rfl, b, z, B (i + 1), rfl, by omega, .inr ⟨ti, RTr.exb e3 hyb hdi, hhi, by rw [← hBi]; exact b3, fun v' H5 e5 b5 t5 => ?_⟩⟩
      have h5 := e5 _ _ hDb hacc
      have l2 : acc.length = i := by
        rw [la, List.length_take]
        show min i 2 = i
        omega
      refine ⟨acc, h5, sz_lt' (by omega), ?_⟩
      have e6 : ExB D H5 (upd H5 D (.lst (acc ++ [v']))) := ExB.mut .refl
      refine ⟨(e3.trans e5).new hD, b5.upd hDb, _, upd_same, ?_⟩
      rw [take_more hti]
      refine paired_app (Paired.mapP pacc fun _ _ z => ?_) (.cons (t5.keep e6 h5 (by omega)) .nil)
      exact (z.box e5 b3).keep e6 h5 (by omega)
    · have ei : i = 2 := by omega
      subst ei
      refine .inl ⟨⟨_, hs3, Nat.le_refl 2⟩, ?_⟩
      -- bits or tuple(bits)
      cases pacc with
      | cons r1 rr =>
        cases rr with
        | cons r2 rr =>
          cases rr
          rename_i v1 v2
          refine ⟨_, rfl, b, 2, m, rfl, by decide, by decide, b3, fun r4 H4 hr4 e4 b4 => ?_⟩
          have h4 := e4 _ _ hDb hacc
          have r1' := r1.box e4 b3
          have r2' := r2.box e4 b3
          have e04 := (ExB.of ep).trans (e3.trans e4)
          refine ⟨rfl, _, rfl, ite2 (fun c => ?_) (fun c => ?_)⟩
          · exact ⟨_, rfl, q _ _ e04 b4 (.ls (SqL.of h4) r1' r2')⟩
          · refine ⟨_, rfl, D, _, rfl, .inl ⟨SqL.of h4, fun l6 hl6 => ?_⟩⟩
            have e6 := Evl.Ex.new (o := .tup [v1, v2]) hl6
            exact q _ _ (e04.trans (ExB.of e6)) (b4.ex e6) (.tp (SqT.of upd_same) (r1'.ex e6) (r2'.ex e6))
theorem ok_mixed (T : Txt K mg) (D_L_take : DefOk P w K mg base CX0 "_law_take" p_L_take 1 spTake) : ∀ n : Nat, DefOk P w K mg base CX0 "_law_mixed" p_L_mixed (n + 1) (spMixed K n)
  | 0 => mixed_none T
  | n + 1 => mixed_more T D_L_take (ok_mixed T D_L_take n)
end RG

set_option Elab.async false
set_option linter.all false
set_option maxRecDepth 100000
set_option maxHeartbeats 400000
namespace RG
open PySem PySem.Spec PyProof.Rows L2
/-! ### making a host; methods by so many arguments -/
structure MkOk (P : Program) (w : World) (K : PySem.W.Frag) (mg : Str → Option Value) (base : Heap) (dvs : List V) (k : Nat) (sp : Sp) : Prop where
  ex : ∃ fd ds, Binds K fd p_P_init ds ∧ Vals dvs ds ∧ FnOk P w K mg base CX0 k (He.fAd K ("Prices", some "__init__")) fd p_P_init sp
theorem pe_mkp {X : Cx} {K : PySem.W.Frag} {dvs : List V} {k : Nat} {sp : Sp} {E : XK} {p pos : Pos} {e : Expr} {es : List Expr} {t : TA} (M : Mk K (He.ga K "Prices") (He.ma K (He.ga K "Prices") "__init__")) (hm : X.mg "Prices" = some (.ref (He.ga K "Prices"))) (D : MkOk X.prog X.w X.K X.mg X.base dvs k sp) (hr : Room (k + 1) X.A) (hx : Passes CX0 X E)
    (ha : PA X (e :: es) t) (hK : X.K = K := by rfl) (hg : Gl X "Prices" := by rfl) (hdb : (("Prices" : Str) == ("__debug__" : Str)) = false := by decide) (he : starEach (e :: es) X.env = (false, eval e X.env) :: starEach es X.env := by rfl) (hpl : (backTo pos (starEach es X.env)).any (·.1) = false := by rfl) :
    PE X (.Call (.Name "Prices" p) (e :: es) [] pos) (tMake (He.ga K "Prices") sp dvs E t) := by
  subst hK
  obtain ⟨fd, ds, hb, hd, F⟩ := D.ex
  exact pe_make M F hr hg hm hb hd hx ha hdb he hpl
variable {P : Program} {w : World} {K : PySem.W.Frag} {mg : Str → Option Value} {base : Heap} {CX : CXT}
theorem mk4 (h : ∃ fd, FunD K "__init__" "Prices.__init__" (defArgs s_P_init) (defBody s_P_init) (defScope s_P_init) (d_P_init.dvs K) (d_P_init.kws K) (He.fAd K ("Prices", some "__init__")) fd ∧ FnOk P w K mg base CX0 3 (He.fAd K ("Prices", some "__init__")) fd p_P_init (spInit K)) :
    MkOk P w K mg base [] 3 (spInit K) := by
  obtain ⟨fd, F, G⟩ := h
  obtain ⟨ds, hv, hb⟩ := F.binds1 (ps := p_P_init) 5 3 (by intro h; cases h) rfl (fun T kV doc pm an cdv ct us its l1 l2 => match us, l1, its, l2 with | [_, _, _, _, _], _, [_, _, _], _ => ⟨_, rfl, rfl⟩)
  exact ⟨⟨fd, ds, hb, hv, G⟩⟩
theorem m_least2 (T : Txt K mg) (h : ∃ fd, FunD K "least" "Prices.least" (defArgs s_P_least) (defBody s_P_least) (defScope s_P_least) (d_P_least.dvs K) (d_P_least.kws K) (He.fAd K ("Prices", some "least")) fd ∧ FnOk P w K mg base CX0 39 (He.fAd K ("Prices", some "least")) fd p_P_least (spEnd K 1)) :
    MetOk P w K mg base CX0 "least" p_P_least [] 39 (spEnd K 1) := by
  obtain ⟨fd, F, G⟩ := h
  obtain ⟨ds, hv, hb⟩ := F.binds1 (ps := p_P_least) 3 2 (by intro h; cases h) rfl (fun T kV doc pm an cdv ct us its l1 l2 => match us, l1, its, l2 with | [_, _, _], _, [_, _], _ => ⟨_, rfl, rfl⟩)
  exact ⟨⟨_, fd, ds, T.m_least, hb, hv, G⟩⟩
/-! ### host -/
def spHost (K : PySem.W.Frag) : Sp := fun vs H Q _ => ∃ (n : Nat) (cv : V) (c : Costs), vs = [.int n, cv] ∧ n ≤ 6 ∧ CostAt K H cv n c ∧ ∀ v H', Ex H H' → HostAt K H' v n c.pp → Q v H'
theorem ok_host (T : Txt K mg) (MK4 : MkOk P w K mg base [] 3 (spInit K)) : DefOk P w K mg base CX0 "_law_host" p_L_host 5 (spHost K) := by
  obtain ⟨fd, F⟩ := T.F_L_host
  refine ⟨⟨_, fd, T.g_L_host, F.kp, F.bindsN (ps := p_L_host) (fun _ _ _ _ _ _ us hl => match us, hl with | [_, _], _ => rfl), F.ok sc_L_host (fun vs H Q E h => ?_) fun cdv A outer s H vs Q E hr h => ?_⟩⟩
  · obtain ⟨n, cv, c, rfl, _⟩ := h
    rfl
  obtain ⟨n, cv, c, rfl, hn, hc, q⟩ := h
  refine ⟨_, PSs.nox (pss_one (ps_ret (pe_mkp (K := K) T.mkP T.g_Prices MK4 (hr.mono (by omega)) pass0 (pa_cons (pv 0) (pa_cons (pe_ix (r := rIxT K) ix_tup (pv 1) pe_int (fun _ _ => rfl)) (pa_cons (pe_ix (r := rIxT K) ix_tup (pv 1) pe_int (fun _ _ => rfl)) (pa_cons (pe_ix (r := rIxT K) ix_tup (pv 1) pe_int (fun _ _ => rfl)) pa_nil))))))), ?_⟩
  obtain ⟨pc, sv, wv, bv, rfl, hpc, hs, hw, hb⟩ := hc
  refine ⟨_, rfl, _, rfl, pc, _, 0, _, rfl, rfl, hpc, rfl, _, rfl, pc, _, 1, _, rfl, rfl, hpc, rfl, _, rfl, pc, _, 2, _, rfl, rfl, hpc, rfl, fun x dx hx hdx hne => ?_⟩
  have e1 := (Evl.Ex.new (o := .own x) hdx)
  have hx1 : (upd H dx (.own x)) x = none := by rw [upd_ne (fun e => hne e.symm)]; exact hx
  have e2 := e1.trans (Evl.Ex.new (o := .ins (He.ga K "Prices") dx []) hx1)
  refine ⟨x, dx, n, sv, wv, bv, c.so, c.wo, c.brs, rfl, by omega, upd_same, hs.ex e2, hw.ex e2, hb.ex e2, fun H' k hh => ⟨rfl, q _ H' (fun z o h => ?_) hh⟩⟩
  exact k z o (fun e => by rw [e, hx] at h; cases h) (e2 _ _ h)
end RG

set_option Elab.async false
set_option linter.all false
set_option maxRecDepth 100000
set_option maxHeartbeats 4000000
/-! NoNumber, made; an exception kept behind its suite -/
namespace PySem
namespace NnX
open PySem.W PySem.Calls PyProof.Rows PySem.HandSPX
open Builtin Builtin.ObjectAttr
abbrev leTail : List Value := [.type "LookupError", .type "Exception", .type "BaseException", .type "object"]
def iA (p1 p2 : Pos) : Arguments := { posonlyargs := [], args := [{ arg := "self", annotation := none, pos := p1 }, { arg := "number", annotation := none, pos := p2 }], vararg := none, kwonlyargs := [], kw_defaults := [], kwarg := none, defaults := [] }
def iB (q1 q2 q3 q4 : Pos) : List Stmt := [.Assign [.Attribute (.Name "self" q1) "number" q2] (.Name "number" q3) q4]
def iS : Scope := { kind := .function, names := [(PySem.Str.ofString "self", .local), (PySem.Str.ofString "number", .local)], isGenerator := false, isCoroutine := false, more := [] }
/-- what the written part says of NoNumber, at C, and of its __init__, at fI -/
structure Nn (K : Frag) (C fI : Addr) : Prop where
  ex : excInitIn K C leTail "LookupError.__new__" = true
  over : excOver K C leTail = true
  hdC : hasDictIn K C = true
  tk : takerIn K C "number" = some none
  sa : findIn K (.ref C) "__setattr__" = some (some (.builtin "object.__setattr__"))
  ga : findIn K (.ref C) "__getattribute__" = some (some (.builtin "BaseException.__getattribute__"))
  gg : findIn K (.ref C) "__getattr__" = some none
  noN : findIn K (.ref C) "number" = some none
  iC : findIn K (.ref C) "__init__" = some (some (.ref fI))
  tC : typeIn K (.ref fI) = some (.type "function")
  kC : keepIn K (.ref C) = true
  exC : subIn K (.ref C) (.type "BaseException") = some true
  tyC : typeIn K (.ref C) = some (.type "type")
  fn : ∃ (oc : Value) (od : Option Addr) (doc pm : Value) (an : Option Addr) (cdv ct : Value) (osl : Array (Option Value)) (p1 p2 q1 q2 q3 q4 : Pos),
    K.lookup fI = some ⟨oc, od, .func (fnOf "__init__" "NoNumber.__init__" (iA p1 p2) (iB q1 q2 q3 q4) iS .none .none doc pm an cdv ct), osl⟩ ∧ codeIn K cdv "NoNumber.__init__" = true
theorem ldN {M : Model} {s : Shared} {name : Str} {scope : Scope} {L a : Addr} {cd : Value} {m : Str → Option Value} {x : Str} {pos : Pos} {v : Value} {Q : Value → Shared → Prop} {A : Around} {E : Value → Shared → Prop} (hn : s.heap.Ns L m) (hv : m x = some v) (h : Q v s)
    (hk : scope.kind = .function := by rfl) (hl : (envOfC name scope L a cd).kindOf x = some .local := by rfl) (hd : (x == ("__debug__" : Str)) = false := by decide) :
    wpAny M A (eval (.Name x pos) (envOfC name scope L a cd)) Q E s := wpAny_Name (wpAny_loadName_local hk hl hn hv h) hd
/-- what __init__ leaves of a new exception at x -/
structure InitEnd (h h' : Heap) (x C dx t1 : Addr) (v : Value) : Prop where
  keep : ∀ b o, b ≠ x → h.get? b = some o → h'.get? b = some o
  obj : h'.get? x = some { cls := .ref C, dict := some dx, data := .fields #[.ref t1, .none, .none, .none, .bool false, .none] }
  dbig : h.objs.size ≤ dx
  dne : dx ≠ x
  ns : h'.Ns1 dx (fun y => if y = "number" then some v else none)
structure Made (h h' : Heap) (e C d : Addr) (v : Value) : Prop where
  keep : ∀ b o, h.get? b = some o → h'.get? b = some o
  new : h.objs.size ≤ e
  obj : ∃ oe vs, h'.get? e = some oe ∧ oe.cls = .ref C ∧ oe.dict = some d ∧ oe.data = .fields vs ∧ vs[1]? = some .none
  dbig : h.objs.size ≤ d
  dne : d ≠ e
  ns : h'.Ns1 d (fun y => if y = "number" then some v else none)
section
variable {prog : Program} {w : World} {A : Around} {E : Value → Shared → Prop} {R : Result → Shared → Prop} {s : Shared} {K : Frag} {C fI : Addr}
/-- self.number = v on the new exception -/
theorem nn_store {hp : Heap} {g : Array GenState} {d : Drawn} {t : Nat} {os : OsState} {tk : Tok} {v : Value} {x : Addr} {fv : Array Value} (T : Nn K C fI) (X : K.In hp) (hx : hp.get? x = some { cls := .ref C, data := .fields fv })
    (hq : ∀ h' tk' dx, (∀ b o, b ≠ x → hp.get? b = some o → h'.get? b = some o) → hp.objs.size ≤ dx → dx ≠ x → h'.get? x = some { cls := .ref C, dict := some dx, data := .fields fv } →
      h'.Ns1 dx (fun y => if y = "number" then some v else none) → R (.ok (.ret .none)) ⟨h', g, d, tk', os⟩) :
    codeAny (model prog w) A (.call (.builtin "object.__setattr__") ⟨[.ref x, .str "number" tk, v], []⟩) R ⟨hp, g, d, t, os⟩ := by
  refine osa_openX (od := none) F.store_LookupError X ⟨hx, rfl, rfl, trivial⟩ T.over T.tk fun bb => ?_
  have hxs : x ≠ hp.objs.size := Nat.ne_of_lt (Heap.lt_size hx)
  obtain ⟨cd, hcd, hh⟩ := any_some T.hdC
  have hcls : W.Looks (model prog w) hp (classData C) cd := W.looks_clsIn X hcd
  show wpAny _ _ (storeInOwnDict (.ref x) (.ref C) (.str "number" tk) "number" v bb) _ _ _
  obtain ⟨nm, bs, mro, ns, qn, hd, sn, sb, ab, col, del⟩ := cd
  dsimp only at hh
  subst hh
  unfold storeInOwnDict ownDictForStores
  repeat (first | with_reducible refine store_in_new ?_ ?_ | with_reducible refine wpAny_loadPart_at hx ?_ | with_reducible refine hcls.at ?_ | wp_step)
  · exact ⟨_, #[], _, (Heap.get?_update_ne _ _ _ _ hxs.symm).trans (Heap.get?_push_at rfl rfl), rfl, fun e he => absurd he (by simp), fun _ => rfl⟩
  · intro h' tk' hn' hs
    have hx₁ : (hp.push { cls := .type "dict", data := .dict #[] }).get? x = some { cls := .ref C, data := .fields fv } := Heap.get?_push_of_some _ hx
    refine hq h' tk' hp.objs.size (fun b o hb ho => ?_) (Nat.le_refl _) hxs.symm ((hs.2 x hxs).trans (Heap.get?_update_self _ hx₁ rfl)) hn'
    exact (hs.2 b (Nat.ne_of_lt (Heap.lt_size ho))).trans ((Heap.get?_update_ne _ _ _ _ hb).trans (Heap.get?_push_of_some _ ho))
/-- NoNumber.__init__ runs -/
theorem nn_init (T : Nn K C fI) {x t0 : Addr} {v : Value} (X : K.In s.heap) (hlim : s.heap.NoLimit) (hx : s.heap.get? x = some (excO C t0)) (hroom : A.depth < recursionLimit)
    (hq : ∀ h' tk dx, InitEnd s.heap h' x C dx t0 v → R (.ok (.ret .none)) { s with heap := h', toks := tk }) : codeAny (model prog w) A (.call (.ref fI) ⟨[.ref x, v], []⟩) R s := by
  obtain ⟨oc, od, doc, pm, an, cdv, ct, osl, p1, p2, q1, q2, q3, q4, ho, hcd⟩ := T.fn
  refine Att.call_fn (binds := [("self", .ref x), ("number", v)]) X hlim ho hcd hroom (BindsTo.of_eq (by first | rfl | with_unfolding_all rfl)) (by first | rfl | decide | with_unfolding_all rfl) (fun s₁ IC => ?_) rfl rfl rfl
  obtain ⟨h₁, tk₁, rfl⟩ := IC.toInCall.same
  have k : ∀ b o, s.heap.get? b = some o → h₁.get? b = some o := IC.toInCall.keep
  have hn := IC.toInCall.ns
  have hx₁ := k _ _ hx
  show wpAny _ _ (execs _ _) _ _ _
  refine wpAny_execs_cons (plainObj_wpAny_Assign_Attribute ?_)
  refine ldN (v := v) hn (by first | rfl | with_unfolding_all rfl | kernel_rfl) (ldN (v := .ref x) hn (by first | rfl | with_unfolding_all rfl | kernel_rfl) ?_)
  refine set_plain (X.keeps k) (ox := excO C t0) (od := none) ⟨hx₁, rfl, rfl, trivial⟩ T.sa ?_
  refine nn_store T (X.keeps k) hx₁ fun h₃ tk₃ dx k₃ dn dne hx₃ hn₃ => ?_
  show wpAny _ _ (execs _ _) _ _ _
  have z : s.heap.objs.size < h₁.objs.size := hn.lt
  exact wpAny_execs_nil (hq h₃ tk₃ dx ⟨fun b o hb e => k₃ b o hb (k b o e), hx₃, Nat.le_of_lt (Nat.lt_of_lt_of_le z dn), dne, hn₃⟩)
theorem nn_made (T : Nn K C fI) {v : Value} (X : K.In s.heap) (hlim : s.heap.NoLimit) (hroom : A.depth + 1 < recursionLimit) (hq : ∀ h' tk e d, Made s.heap h' e C d v → R (.ok (.ret (.ref e))) { s with heap := h', toks := tk }) :
    codeAny (model prog w) A (.call (.ref C) ⟨[v], []⟩) R s := by
  obtain ⟨nm, N, qn, bs, bm, hdct, sn, sub, ab, col, dd, k0, k1, k2, k3, k5, hC, hT⟩ := excInit_of X T.ex
  obtain ⟨hp, g, dr, tk, os⟩ := s
  have k : ∀ b o, hp.get? b = some o → ((hp.push (kdv_tup [v])).push (excO C hp.objs.size)).get? b = some o := fun b o e => Heap.get?_push_of_some _ (Heap.get?_push_of_some _ e)
  have hget : ((hp.push (kdv_tup [v])).push (excO C hp.objs.size)).get? (hp.objs.size + 1) = some (excO C hp.objs.size) := by heap_get
  refine call_own F.excBase_LookupError hT hC (looks_findIn X T.iC) (fun self => bind_fn X self T.tC) (by show 1 ≤ sizeLine; rw [sizeLine_eq]; decide) ?_
  refine nn_init (s := ⟨(hp.push (kdv_tup [v])).push (excO C hp.objs.size), g, dr, tk, os⟩) T (X.keeps k) (hlim.keeps k) hget hroom fun h' tk' dx I => ?_
  obtain ⟨k', hx, dn, dne, hns⟩ := I
  have old : ∀ b o, hp.get? b = some o → h'.get? b = some o := fun b o e => k' b o (Nat.ne_of_lt (Nat.lt_succ_of_lt (Heap.lt_size e))) (k b o e)
  have z : hp.objs.size + 1 + 1 ≤ dx := by
    first
      | (simpa only [Heap.size_push] using dn)
      | exact dn
      | (have q := dn; rw [Heap.size_push, Heap.size_push] at q; exact q)
  exact ⟨rfl, hq h' tk' (hp.objs.size + 1) dx ⟨old, Nat.le_succ _, ⟨_, _, hx, rfl, rfl, rfl, rfl⟩, Nat.le_trans (Nat.le_trans (Nat.le_succ _) (Nat.le_succ _)) z, dne, hns⟩⟩
end
end NnX
end PySem
namespace RG
open PySem PySem.Spec PyProof.Rows L2
theorem relO_num {v : V} {v' : Value} (r : RelV v v') (f : Str) : RelO (List.lookup f [(("number" : Str), v)]) (if f = "number" then some v' else none) := by
  by_cases hw : f = "number"
  · subst hw
    have q : List.lookup ("number" : Str) [(("number" : Str), v)] = some v := by simp [List.lookup]
    rw [if_pos rfl, q]
    exact r
  · have qw : (f == ("number" : Str)) = false := by simpa using hw
    have q2 : List.lookup f [(("number" : Str), v)] = none := by simp [List.lookup, qw]
    rw [if_neg hw, q2]
    trivial
/-- NoNumber(e) makes an exception -/
theorem nn_mk {K : PySem.W.Frag} {mg : Str → Option Value} {fI : Addr} (T : PySem.NnX.Nn K (He.ga K "NoNumber") fI) (gC : mg "NoNumber" = some (.ref (He.ga K "NoNumber"))) : NnMk K mg := by
  rintro X a ta p pos rfl rfl hr hg ha he hpl pins s σ H Q I h
  refine wpAny_Call_Name_kw (ld_glob I hg gC ?_)
  refine PySem.W.callWith_K (h₀ := X.base) I.ok.mod.kin T.kC (thn (ha.run pos pins s σ H _ I h) fun us s1 ⟨vs, H1, I1, r1, v, ev, q1⟩ => ⟨I1.kIn, ?_⟩) he hpl
  subst ev
  cases r1 with
  | @cons _ v' _ _ rv rn =>
    cases rn
    show wpAny _ _ (call (.ref (He.ga X.K "NoNumber")) [v']) _ _ _
    have hlim := I1.nolimit
    obtain ⟨hp, g, dr, tk, os⟩ := s1
    refine wpAny_call (PySem.NnX.nn_made T I1.kIn hlim (by have := hr.dp; omega) fun h' tk' e d M => ?_)
    show MkP X pins σ Q (.ref e) ⟨h', g, dr, tk', os⟩
    obtain ⟨oe, fv, hoe, hc, hd, hdat, h1⟩ := M.obj
    obtain ⟨G, g1, g2⟩ := restrict h' fun b => decide (b ≠ e)
    have gk : ∀ b, b ≠ e → G.get? b = h'.get? b := fun b hb => g1 b (decide_eq_true hb)
    have ge : G.get? e = none := g2 e (by simp)
    have old : ∀ b o, hp.get? b = some o → G.get? b = some o := fun b o q => (gk b (Nat.ne_of_lt (Nat.lt_of_lt_of_le (Heap.lt_size q) M.new))).trans (M.keep b o q)
    have ob : ObjOk X.prog X.w (upd H1 d (.xd [(("number" : Str), v)])) G d (.xd [(("number" : Str), v)]) := ⟨_, M.ns.at (fun o q => (gk d M.dne).trans q), fun f => relO_num rv f⟩
    have J : Inv X pins σ (upd H1 d (.xd [(("number" : Str), v)])) ⟨G, g, dr, tk', os⟩ := I1.laid (t' := tk') old M.dbig ob
    refine ⟨e, oe, fv, ⟨G, g, dr, tk', os⟩, _, .ref _, some d, rfl, J, fun b o q => ?_, ge, hoe, ⟨hc, hd⟩, hdat, h1, ?_, rfl, I1.bare, raises_own T.exC T.tyC, q1 d (I1.hok.fresh M.dbig)⟩
    · by_cases hb : b = e
      · have q' : G.get? b = some o := q
        rw [hb, ge] at q'
        cases q'
      · exact (gk b hb).symm.trans q
    · rw [upd_ne (Ne.symm M.dne)]
      exact I1.hok.fresh M.new
end RG

set_option Elab.async false
set_option linter.all false
set_option maxRecDepth 100000
set_option maxHeartbeats 4000000
/-! try: body, except (x1, x2, x3) as n: m = n, the exception kept in m -/
namespace RG
open PySem PySem.Spec PyProof.Rows L2
/-- a caught exception, kept: of the class cls, its dict at d -/
def EX (cls : Value) (d : Option Addr) (a : Addr) : HO := .ext fun h => ∃ (oe : Obj) (vs : Array Value), h.get? a = some oe ∧ Zc cls d oe ∧ oe.data = .fields vs
theorem ex_ok {P : Program} {w : World} {H : Hp} {h : Heap} {a : Addr} {cls : Value} {d : Option Addr} {oe : Obj} {vs : Array Value} (e : h.get? a = some oe) (z : Zc cls d oe) (hd : oe.data = .fields vs) : ObjOk P w H h a (EX cls d a) :=
  ⟨⟨oe, vs, e, z, hd⟩, ⟨oe, e⟩, fun _ _ ⟨o, v, q, r⟩ k => ⟨o, v, k o q, r⟩⟩
section
variable {X : Cx} {pins : List (Addr × Obj)} {σ : L2.St} {H : Hp} {s : Shared}
/-- an object that has come since the entry is tracked -/
theorem Inv.track {a : Addr} {o : HO} (I : Inv X pins σ H s) (h0 : X.s_0.heap.get? a = none) (na : H a = none) (nL : a ≠ X.env.locals) (nC : ∀ x c, X.env.cells.lookup x = some c → c ≠ a) (nP : ∀ p ∈ X.pn ++ pins, p.1 ≠ a)
    (new : ObjOk X.prog X.w (upd H a o) s.heap a o) : Inv X pins σ (upd H a o) s where
  ok := I.ok
  os := I.os
  bare := I.bare
  base := {
    keep := I.base.keep
    slot := I.base.slot
    free := fun b u e n hq => by
      rw [upd_ne (fun z => by rw [z, h0] at e; cases e)]
      exact I.base.free b u e n hq
    there := I.base.there
    tups := fun b xs e => by
      have q := I.base.tups b xs e
      rw [upd_ne (ne_of_none q na)]
      exact q
    frzs := fun b u v e => by
      have q := I.base.frzs b u v e
      rw [upd_ne (ne_of_none q na)]
      exact q
    tbls := fun b ps e => by
      obtain ⟨m, q⟩ := I.base.tbls b ps e
      exact ⟨m, by rw [upd_ne (ne_of_none q na)]; exact q⟩ }
  loc := I.loc
  cell := I.cell
  free := by
    rw [upd_ne (fun z => nL z.symm)]
    exact I.free
  freeC := fun x c e => by
    rw [upd_ne (nC x c e)]
    exact I.freeC x c e
  pin := fun p hp => by
    obtain ⟨e, n, r⟩ := I.pin p hp
    exact ⟨e, by rw [upd_ne (nP p hp)]; exact n, r⟩
  hok := fun b u e => by
    by_cases hb : b = a
    · subst hb
      rw [upd_same] at e
      cases e
      exact new
    · rw [upd_ne hb] at e
      exact (I.hok b u e).stay (fun c v _ q => q) (fun c q => by rw [upd_ne (ne_of_none q na)]; exact q) fun c xs q => by rw [upd_ne (ne_of_none q na)]; exact q
  len := I.len
end
/-- what is wished of an exception of the body: one of the classes cs names; behind the statement it stands in slot j -/
def wKeep (K : PySem.W.Frag) (cs : List Value) (i j : Nat) (D : Ends) : WX := fun cls d σ H => PySem.W.exmAny K cls cs = some true ∧ ∀ a, H a = none → D.nx (((σ.set i (some (.ref a))).set j (some (.ref a))).set i none) (upd H a (EX cls d a))
section
variable {X : Cx} {x1 x2 x3 n m : Str} {c1 c2 c3 : Addr} {i j kk : Nat} {body : List Stmt} {p1 p2 p3 tp mp np ap pos pos' : Pos} {tb : WX → TS}
theorem ps_try_keep (hs : X.stack = X.env :: X.outer) (hf : X.env.frame = some X.env.locals) (hex : X.ex = []) (hN : X.N.Nodup) (hi : X.N[i]? = some n) (hln : X.env.kindOf n = some .local) (hlnv : X.env.scope.names.lookup n = some .local) (hj : X.N[j]? = some m) (hlm : X.env.scope.names.lookup m = some .local)
    (hg1 : Gl X x1) (hg2 : Gl X x2) (hg3 : Gl X x3) (m1 : X.mg x1 = some (.ref c1)) (m2 : X.mg x2 = some (.ref c2)) (m3 : X.mg x3 = some (.ref c3)) (d1 : (x1 == ("__debug__" : Str)) = false) (d2 : (x2 == ("__debug__" : Str)) = false) (d3 : (x3 == ("__debug__" : Str)) = false)
    (dn : (n == ("__debug__" : Str)) = false) (dn2 : (n == ("__classdict__" : Str)) = false)
    (hsw : swapsWith (.Name n np) (some (.Name m mp)) ap.line X.env = pure false)
    (hst : backTo tp (starEach [.Name x1 p1, .Name x2 p2, .Name x3 p3] X.env) = [(false, eval (.Name x1 p1) X.env), (false, eval (.Name x2 p2) X.env), (false, eval (.Name x3 p3) X.env)])
    (hb : ∀ (W : WX) (pn : List (Addr × Obj)) (xe : Value → Shared → Prop), Takes (X.tr pn xe) W → PassesOwn (model X.prog X.w) X.A X.env xe → PSs (X.tr pn xe) body (tb W)) :
    PS X (.Try body [.ExceptHandler (some (.Tuple [.Name x1 p1, .Name x2 p2, .Name x3 p3] kk tp)) (some n) [.Assign [.Name m mp] (.Name n np) ap] pos'] [] [] pos) (fun D σ H => tb (wKeep X.K [.ref c1, .ref c2, .ref c3] i j D) D σ H) := by
  refine ⟨fun pins s σ H D I h => ?_⟩
  have ok := I.ok
  have hfr : X.A.frames = some (X.env :: X.outer) := by rw [ok.frames, hs]
  refine wpAny_Try_except (wpAny_mono ((hb (wKeep X.K [.ref c1, .ref c2, .ref c3] i j D) (X.pn ++ pins) (fun e s₁ => wpAny (model X.prog X.w) X.A (noteFrame e X.env) (fun _ s₂ => wpAny (model X.prog X.w) X.A (setFlight e none) (fun _ s₃ =>
    wpAny (model X.prog X.w) X.A (handleBy e X.env [.ExceptHandler (some (.Tuple [.Name x1 p1, .Name x2 p2, .Name x3 p3] kk tp)) (some n) [.Assign [.Name m mp] (.Name n np) ap] pos']) (SP X pins D) X.xe s₃) X.xe s₂) X.xe s₁) (fun u s' xx => ?_) PassesOwn.looking).run [] s σ H D (I.toTry _) h) (fun f s1 hsp => ?_) fun e s1 he => he)
  · obtain ⟨a, B, sI, pins', σ', H', cls, d, rfl, J', nb, up, sky, na, os, ag, hyes, hnx⟩ := xx
    have J : Inv X pins σ' H' sI := J'.ofTry ok
    have sky' : Sky B (X.env :: X.outer) a (Zc cls d) X.env.locals s'.heap := by rw [← hs]; exact sky
    show wpAny (model X.prog X.w) X.A (noteFrame (.ref a) X.env) _ _ _
    refine Sky.land Zc.steady hfr hf sky' fun h3 fl3 up3 => ?_
    obtain ⟨oe3, vs3, he3, hz3, hd3⟩ := fl3.there
    have notFr : ∀ {h : Heap} {o : Obj} {vs : Array Value}, h.FunFrames B (X.env :: X.outer) → h.get? a = some o → o.data = .fields vs → a ∉ frs (X.env :: X.outer) := fun {h o vs} ff e dd hm => by
      obtain ⟨_, o', e', hnf⟩ := ff.mem hm
      rw [e] at e'
      cases e'
      exact hnf _ dd
    have nfr := notFr fl3.2.2.1 he3 hd3
    have nL : a ≠ X.env.locals := fun z => nfr (List.mem_filterMap.mpr ⟨X.env, List.mem_cons_self, by rw [hf, z]⟩)
    have nF : a ∉ X.fs := fun hm => by
      obtain ⟨e, he, q⟩ := List.mem_filterMap.mp hm
      exact nfr (List.mem_filterMap.mpr ⟨e, List.mem_cons_of_mem _ he, q⟩)
    -- it is new since the entry
    have nI : sI.heap.get? a = none := by
      cases q : sI.heap.get? a with
      | none => rfl
      | some o =>
        have z := nb a o q (by rw [hs]; exact nfr)
        rw [fl3.2.1] at z
        cases z
    have n0 : X.s_0.heap.get? a = none := by
      cases q : X.s_0.heap.get? a with
      | none => rfl
      | some o =>
        obtain ⟨o', z⟩ := J.base.there a o q (by rw [hex]; exact fun z => nomatch z)
        rw [nI] at z
        cases z
    have J3 : Inv X pins σ' H' { s' with heap := h3 } := J.landed nb fl3.1 (up.trans up3) os ag
    have S3 := J3.suite he3 hd3 na nL nF
    refine wpAny_handleBy_cons (codeAny_handlers_test ?_) (by intro q; cases q)
    -- the clause's classes, in a new tuple
    refine wpAny_Tuple_spliced ?_
    rw [hst]
    refine Calls.spliced_cons (ld_glob (X := X.suite a ((a, oe3) :: (X.pn ++ pins))) S3 hg1 m1 ?_ d1)
    refine Calls.spliced_cons (ld_glob (X := X.suite a ((a, oe3) :: (X.pn ++ pins))) S3 hg2 m2 ?_ d2)
    refine Calls.spliced_cons (ld_glob (X := X.suite a ((a, oe3) :: (X.pn ++ pins))) S3 hg3 m3 ?_ d3)
    refine Calls.spliced_nil ⟨by show 3 ≤ sizeLine; decide, ?_⟩
    have kp : ∀ b o, h3.get? b = some o → (h3.push { cls := .type "tuple", data := .seq [Value.ref c1, .ref c2, .ref c3].toArray }).get? b = some o := fun b o e => Heap.get?_push_of_some _ e
    obtain ⟨g1, g2, g3, oe, vs, tr, oT, ts, t1, t2, t3, t4, t5, t6, t7, t8, t9⟩ := id fl3
    have flp : HandSPX.FlyingZ B (X.env :: X.outer) a (Zc cls d) (h3.push { cls := .type "tuple", data := .seq [Value.ref c1, .ref c2, .ref c3].toArray }) :=
      ⟨fun b o e => kp _ _ (g1 b o e), g2, Heap.FunFrames.of_keeps (fun b o e _ => ⟨o, kp _ _ e, rfl⟩) g3, oe, vs, tr, oT, ts, kp _ _ t1, t2, t3, t4, t5, t6, kp _ _ t7, t8, t9⟩
    have LT : PySem.W.Looks (model X.prog X.w) (h3.push { cls := .type "tuple", data := .seq [Value.ref c1, .ref c2, .ref c3].toArray }) (typeOf (.ref a)) cls := fun A Q E s k q => wpAny_typeOf_ref (k _ _ (kp _ _ he3)) (by rw [hz3.1]; exact q)
    have LM := PySem.W.exm_tup3 (M := model X.prog X.w) (J3.kIn.keeps kp) LT (Heap.get?_push_size _ rfl) hyes
    refine LM.here ?_
    refine codeAny_handlers_suite_as ?_
    refine HandSPX.lands_againZ flp fun h4 fl4 up4 => ?_
    have J4 : Inv X pins σ' H' { s' with heap := h4 } := J.landed nb fl4.1 (((up.trans up3).trans (Heap.UpToSlots.of_keeps kp)).trans up4) os ag
    obtain ⟨oe4, vs4, he4, hz4, hd4⟩ := fl4.there
    have S4 := J4.suite he4 hd4 na nL nF
    refine store_ok (X := X.suite a ((a, oe4) :: (X.pn ++ pins))) (v := .ref a) S4 hN hi (.inl hlnv) rfl (fun s5 S5 => ?_) (.inr hln)
    have su : PSs (X.suite a ((a, oe4) :: (X.pn ++ pins))) [.Assign [.Name m mp] (.Name n np) ap] (tAsg (tVar i) (gName j)) := pss_one (ps_set (X := X.suite a ((a, oe4) :: (X.pn ++ pins))) hN hj (.inl hlm) (pe_var hi (.inl hlnv) dn dn2) hsw (.inr hlm))
    have hlen : i < σ'.length := by
      rw [J4.len]
      exact (List.getElem?_eq_some_iff.mp hi).1
    refine wpAny_mono (su.run [] s5 _ H' { nx := fun σ6 H6 => σ6 = (σ'.set i (some (.ref a))).set j (some (.ref a)) ∧ H6 = H', rt := fun _ _ => False, bk := fun _ _ => False, ct := fun _ _ => False } S5 ⟨.ref a, List.getElem?_set_self hlen, rfl, rfl⟩) (fun f s6 hsp => ?_) (fun _ _ z => False.elim z)
    cases f with
    | next =>
      obtain ⟨σ6, H6, S6, rfl, rfl⟩ := hsp
      refine gone_ok (X := X.suite a ((a, oe4) :: (X.pn ++ pins))) S6 hN hi hln fun s7 S7 => ?_
      have J7 : Inv X pins _ H6 s7 := S7.unsuite ok
      obtain ⟨pe, pn, _⟩ := S7.pin (a, oe4) (List.mem_append_left _ List.mem_cons_self)
      refine ⟨_, _, RG.Inv.track J7 n0 pn nL (fun x c e z => ?_) (fun p hp z => ?_) (ex_ok pe hz4 hd4), hnx a na⟩
      · obtain ⟨v, o, q, _⟩ := J.cell x c e
        rw [z, nI] at q
        cases q
      · obtain ⟨q, _⟩ := J.pin p hp
        rw [z, nI] at q
        cases q
    | brk => obtain ⟨_, _, _, z⟩ := hsp; exact z.elim
    | cont => obtain ⟨_, _, _, z⟩ := hsp; exact z.elim
    | ret u => obtain ⟨_, _, _, _, _, z⟩ := hsp; exact z.elim
  · cases f with
    | next =>
      obtain ⟨σ', H', J', q⟩ := hsp
      exact wpAny_execs_nil ⟨σ', H', J'.ofTry ok, q⟩
    | brk =>
      obtain ⟨σ', H', J', q⟩ := hsp
      exact ⟨σ', H', J'.ofTry ok, q⟩
    | cont =>
      obtain ⟨σ', H', J', q⟩ := hsp
      exact ⟨σ', H', J'.ofTry ok, q⟩
    | ret u =>
      obtain ⟨v, σ', H', J', r, q⟩ := hsp
      exact ⟨v, σ', H', J'.ofTry ok, r, q⟩
end
end RG

set_option Elab.async false
set_option linter.all false
set_option maxRecDepth 100000
set_option maxHeartbeats 4000000
namespace RG
open PySem PySem.Spec PyProof.Rows L2
/-- what an exception's class must say, so that its instances may be asked -/
structure ExcK (K : PySem.W.Frag) (C : Addr) : Prop where
  cl : (PySem.W.clsIn K C).isSome = true
  ga : PySem.W.findIn K (.ref C) "__getattribute__" = some (some (.builtin "BaseException.__getattribute__"))
  gg : PySem.W.findIn K (.ref C) "__getattr__" = some none
  sub : PySem.W.subIn K (.ref C) (.type "BaseException") = some true
  ha : PySem.W.findIn K (.ref C) "__class__" = some (some (.builtin "object.__class__"))
  hn : PySem.W.specialIn K (.builtin "object.__class__") "__get__" = some (some (.builtin "getset_descriptor.__get__"))
  ht : PySem.W.takesIn K (.builtin "object.__class__") = some true
  hm : PySem.W.mroIn K C (.type "object") = some true
def excKB (K : PySem.W.Frag) (C : Addr) : Bool := (PySem.W.clsIn K C).isSome && (decide (PySem.W.findIn K (.ref C) "__getattribute__" = some (some (.builtin "BaseException.__getattribute__"))) && (decide (PySem.W.findIn K (.ref C) "__getattr__" = some none) && (decide (PySem.W.subIn K (.ref C) (.type "BaseException") = some true) &&
  (decide (PySem.W.findIn K (.ref C) "__class__" = some (some (.builtin "object.__class__"))) && (decide (PySem.W.specialIn K (.builtin "object.__class__") "__get__" = some (some (.builtin "getset_descriptor.__get__"))) && (decide (PySem.W.takesIn K (.builtin "object.__class__") = some true) && decide (PySem.W.mroIn K C (.type "object") = some true)))))))
theorem excKB_ok {K : PySem.W.Frag} {C : Addr} (h : excKB K C = true) : ExcK K C := by
  obtain ⟨h1, h⟩ := He.ba h
  obtain ⟨h2, h⟩ := He.ba h
  obtain ⟨h3, h⟩ := He.ba h
  obtain ⟨h4, h⟩ := He.ba h
  obtain ⟨h5, h⟩ := He.ba h
  obtain ⟨h6, h⟩ := He.ba h
  obtain ⟨h7, h8⟩ := He.ba h
  exact ⟨h1, of_decide_eq_true h2, of_decide_eq_true h3, of_decide_eq_true h4, of_decide_eq_true h5, of_decide_eq_true h6, of_decide_eq_true h7, of_decide_eq_true h8⟩
/-- an exception's dict, if it has one -/
def DictAt (H : Hp) : Option Addr → Prop
  | none => True
  | some dd => ∃ fs, H dd = some (.xd fs)
section
variable {X : Cx} {CX : CXT} {k : Nat} {f C : Addr} {fd : FuncData} {ps : List Str} {sp : Sp} {m : Str} {pos apos : Pos} {e o : Expr} {es : List Expr} {ta : TE} {t : TA}
theorem ex_inst {pins : List (Addr × Obj)} {σ : L2.St} {H : Hp} {s : Shared} {a C : Addr} {d : Option Addr} (I : Inv X pins σ H s) (ea : H a = some (EX (.ref C) d a)) (hd : DictAt H d) : ∃ oe od, PySem.W.InstAt s.heap a oe C od ∧ (∀ dd fs, d = some dd → H dd = some (.xd fs) → ∃ o2 mA, od = some o2 ∧ s.heap.Ns1 dd mA ∧ s.heap.get? dd = some o2 ∧ (∀ x, RelO (fs.lookup x) (mA x))) := by
  obtain ⟨⟨oe, vs, h1, h2, h3⟩, _, _⟩ := (show ObjOk X.prog X.w H s.heap a (EX (.ref C) d a) from I.hok a _ ea)
  cases d with
  | none => exact ⟨oe, none, ⟨h1, h2.1, by unfold PySem.W.notCls; rw [h3] <;> rfl, by rw [h2.2]; trivial⟩, fun dd fs e => nomatch e⟩
  | some dd =>
    obtain ⟨fs, hfs⟩ := hd
    obtain ⟨mA, hns, hr⟩ := (show ObjOk X.prog X.w H s.heap dd (.xd fs) from I.hok dd _ hfs)
    obtain ⟨od, _, _, ho, _⟩ := id hns
    refine ⟨oe, some od, ⟨h1, h2.1, by unfold PySem.W.notCls; rw [h3] <;> rfl, by rw [h2.2]; exact ho⟩, fun dd' fs' e hf => ?_⟩
    cases e
    rw [hfs] at hf
    cases hf
    exact ⟨od, mA, rfl, hns, ho, hr⟩
/-- isinstance(x, c), x a kept exception -/
def rIsX (K : PySem.W.Frag) : List V → Hp → VK → Prop := fun xs H Q => ∃ (a C : Addr) (d : Option Addr) (c : V) (cv : Value) (b : Bool), xs = [.ref a, c] ∧ H a = some (EX (.ref C) d a) ∧ DictAt H d ∧ ExcK K C ∧ (∀ u, RelV c u → u = cv) ∧ PySem.W.kitOne K (.ref C) cv = some b ∧ Q (.bl b) H
theorem call_isX : CallR X (.builtin "isinstance") (rIsX X.K) := by
  rintro pins s σ H xs us Q I r ⟨a, C, d, c, cv, b, rfl, ea, hd, T, hcv, e, q⟩
  cases r with
  | cons rx rr =>
    cases rr with
    | cons rt rr =>
      cases rr
      cases rx
      have ec := hcv _ rt
      subst ec
      obtain ⟨oe, od, J, _⟩ := ex_inst I ea hd
      exact PySem.W.kia_one (PySem.W.kitx_exc T.cl T.ga T.gg T.sub T.ha T.hn T.ht T.hm) I.kIn J e (fun z => nomatch z) fun tk => ⟨.bl b, H, I.kept (t' := tk) fun _ _ z => z, rfl, q⟩
/-- x.f, x a kept exception -/
def tXn (K : PySem.W.Frag) (f : Str) (te : TE) : TE := fun σ H Q => te σ H fun x H1 => ∃ (a C dd : Addr) (fs : List (Str × V)) (v : V), x = .ref a ∧ H1 a = some (EX (.ref C) (some dd) a) ∧ H1 dd = some (.xd fs) ∧ ExcK K C ∧ PySem.W.hasDictIn K C = true ∧ PySem.W.findIn K (.ref C) f = some none ∧ fs.lookup f = some v ∧ Q v H1
theorem pe_xn {K : PySem.W.Frag} {n : Str} (he : PE X e ta) (hK : X.K = K := by rfl) (hb : attributeBase e n X.env (eval e X.env) = eval e X.env := by rfl) : PE X (.Attribute e n pos) (tXn K n ta) := by
  subst hK
  refine ⟨fun pins s σ H Q I h => ?_⟩
  refine attr_of hb (thn (he.run pins s σ H _ I h) fun u s1 ⟨x, H1, I1, rx, a, C, dd, fs, v, ex, ea, ed, T, hdC, hno, l, q⟩ => ?_)
  subst ex
  obtain rfl : u = Value.ref a := rx
  obtain ⟨oe, od, J, hj⟩ := ex_inst I1 ea ⟨fs, ed⟩
  obtain ⟨o2, mA, rfl, hns, ho, hr⟩ := hj dd fs rfl ed
  obtain ⟨od3, ho3, hl⟩ := lookIn_ns hns
  rw [ho] at ho3
  cases ho3
  obtain ⟨u, hu, ru⟩ := RelO.some_of (v := v) (o := mA n) (by rw [← l]; exact hr n)
  exact HandSPX.exc_get I1.kIn J T.ga T.gg T.sub (PySem.W.findObj_own hdC hno rfl (by rw [hl, hu])) (handed_of ru) ⟨v, H1, I1.tok _, ru, q⟩
/-- o.m(e, ..), what it lets out told at the slots -/
def tMethS (C : Addr) (m : Str) (sp : Sp) (E : L2.St → XK) (ta : TE) (t : TA) : TE := fun σ H Q => ta σ H fun x H1 => ∃ a dx fs, x = .ref a ∧ H1 a = some (.ins C dx fs) ∧ fs.lookup m = none ∧ t σ H1 fun vs H2 => sp (x :: vs) H2 Q (E σ)
theorem pe_methS {E : L2.St → XK} {pl : Sem Bool} (he : PE X o ta) (c : Cls X.K C) (hm : Meth X.K C m f) (F : FnOk X.prog X.w X.K X.mg X.base CX k f fd ps sp) (hr : Room k X.A) (hb : Binds X.K fd ps []) (hx : ∀ σ, PassesAt CX X σ (E σ)) (ha : PA X (e :: es) t)
    (hst : starEach (e :: es) X.env = (false, eval e X.env) :: starEach es X.env := by rfl) (hpl : (backTo pos (starEach es X.env)).any (·.1) = false := by rfl)
    (ht : eval (.Call (.Attribute o m apos) (e :: es) [] pos) X.env = (do
      let ov ← eval o X.env
      standAt apos.atName
      let (f, first) ← holding [ov] (getMethod ov m pl)
      callWith pos f first (backTo pos (starEach (e :: es) X.env)) (backToKw pos (keywordEach [] X.env))) := by rfl) : PE X (.Call (.Attribute o m apos) (e :: es) [] pos) (tMethS C m sp E ta t) := by
  refine ⟨fun pins s σ H Q I h => ?_⟩
  refine PySem.W.methodCall_KW (pl := pl) (thn (he.run pins s σ H _ I h) fun u s1 ⟨x, H1, I1, rx, a, dx, fs, ex, ea, l, q⟩ => ?_) ht
  subst ex
  obtain rfl : u = Value.ref a := rx
  refine getmeth_ok I1 ea c hm l ?_
  refine PySem.W.callWith_K (first := [.ref a]) (h₀ := X.base) I.ok.mod.kin hm.kp (thn (ha.run pos pins s1 σ H1 _ I1 q) fun us s2 ⟨vs, H2, I2, r, q2⟩ => ⟨I2.kIn, ?_⟩) hst hpl
  exact run_fnS (us := .ref a :: us) (vs := .ref a :: vs) F hr hb (hx σ) I2 (.cons rfl r) q2
end
/-- a method of Prices with all of its arguments -/
structure MetOkR (P : Program) (w : World) (K : PySem.W.Frag) (mg : Str → Option Value) (base : Heap) (CX : CXT) (m : Str) (ps : List Str) (k : Nat) (sp : Sp) : Prop where
  ex : ∃ f fd, Meth K (He.ga K "Prices") m f ∧ Binds K fd ps [] ∧ FnOk P w K mg base CX k f fd ps sp
theorem pe_mdS {X : Cx} {CX : CXT} {k : Nat} {ps : List Str} {sp : Sp} {m : Str} {pos apos : Pos} {e o : Expr} {es : List Expr} {ta : TE} {t : TA} {K : PySem.W.Frag} {E : L2.St → XK} {pl : Sem Bool} (he : PE X o ta) (c : Cls K (He.ga K "Prices")) (D : MetOkR X.prog X.w K X.mg X.base CX m ps k sp) (hr : Room k X.A) (hx : ∀ σ, PassesAt CX X σ (E σ)) (ha : PA X (e :: es) t) (hK : X.K = K := by rfl)
    (hst : starEach (e :: es) X.env = (false, eval e X.env) :: starEach es X.env := by rfl) (hpl : (backTo pos (starEach es X.env)).any (·.1) = false := by rfl)
    (ht : eval (.Call (.Attribute o m apos) (e :: es) [] pos) X.env = (do
      let ov ← eval o X.env
      standAt apos.atName
      let (f, first) ← holding [ov] (getMethod ov m pl)
      callWith pos f first (backTo pos (starEach (e :: es) X.env)) (backToKw pos (keywordEach [] X.env))) := by rfl) : PE X (.Call (.Attribute o m apos) (e :: es) [] pos) (tMethS (He.ga K "Prices") m sp E ta t) := by
  subst hK
  obtain ⟨f, fd, hm, hb, F⟩ := D.ex
  exact pe_methS he c hm F hr hb hx ha hst hpl ht
end RG

set_option Elab.async false
set_option linter.all false
set_option maxRecDepth 100000
set_option maxHeartbeats 1000000
namespace RG
open PySem PySem.Spec PyProof.Rows L2
/-- what the exceptions' classes say of one another -/
structure HX (K : PySem.W.Frag) : Prop where
  nn : ExcK K (He.ga K "NoNumber")
  nb : ExcK K (He.ga K "NotBehind")
  ul : ExcK K (He.ga K "Unlike")
  hdN : PySem.W.hasDictIn K (He.ga K "NoNumber") = true
  noN : PySem.W.findIn K (.ref (He.ga K "NoNumber")) "number" = some none
  nn_nn : PySem.W.kitOne K (.ref (He.ga K "NoNumber")) (.ref (He.ga K "NoNumber")) = some true
  nb_nn : PySem.W.kitOne K (.ref (He.ga K "NotBehind")) (.ref (He.ga K "NoNumber")) = some false
  ul_nn : PySem.W.kitOne K (.ref (He.ga K "Unlike")) (.ref (He.ga K "NoNumber")) = some false
  nn_le : PySem.W.kitOne K (.ref (He.ga K "NoNumber")) (.type "LookupError") = some true
  nb_nb : PySem.W.kitOne K (.ref (He.ga K "NotBehind")) (.ref (He.ga K "NotBehind")) = some true
  ul_nb : PySem.W.kitOne K (.ref (He.ga K "Unlike")) (.ref (He.ga K "NotBehind")) = some false
  nb_ve : PySem.W.kitOne K (.ref (He.ga K "NotBehind")) (.type "ValueError") = some true
  ul_ve : PySem.W.kitOne K (.ref (He.ga K "Unlike")) (.type "ValueError") = some true
  e_nn : PySem.W.exmAny K (.ref (He.ga K "NoNumber")) [.ref (He.ga K "NoNumber"), .ref (He.ga K "NotBehind"), .ref (He.ga K "Unlike")] = some true
  e_nb : PySem.W.exmAny K (.ref (He.ga K "NotBehind")) [.ref (He.ga K "NoNumber"), .ref (He.ga K "NotBehind"), .ref (He.ga K "Unlike")] = some true
  e_ul : PySem.W.exmAny K (.ref (He.ga K "Unlike")) [.ref (He.ga K "NoNumber"), .ref (He.ga K "NotBehind"), .ref (He.ga K "Unlike")] = some true
variable {P : Program} {w : World} {K : PySem.W.Frag} {mg : Str → Option Value} {base : Heap}
/-! ### heard -/
def heardF (n : Nat) (lo hi : Option Tr) (pp : Nat → Nat → Nat → Int) (k : Int) : PyData := match limF n lo hi with
  | .error .behind => .list [.str "behind", .bool true]
  | .error .unlike => .list [.str "unlike", .bool true]
  | .ok l => if 0 ≤ k ∧ k < lenG (tpB pp (tpL l) 1) 1 n then (((GD (tpB pp (tpL l) 1) 1 n)[k.toNat]?).map Tr.tp).getD .none else .list [.str "number", .int k, .bool true]
def spHeard (K : PySem.W.Frag) : Sp := fun vs H Q _ => ∃ (n : Nat) (k : Int) (lo hi : Option Tr) (sv lv hv : V) (pp : Nat → Nat → Nat → Int), vs = [sv, .int k, lv, hv] ∧ 1 ≤ n ∧ n ≤ 6 ∧ HostAt K H sv n pp ∧ OpT K H lv lo ∧ OpT K H hv hi ∧ (∀ l, limF n lo hi = .ok l → l.length + 1 = n) ∧
  ∀ v H', Ex H H' → Dp K H' v (heardF n lo hi pp k) → Q v H'
theorem ok_heard (T : Txt K mg) (Z : HX K) (R_cheapest : MetOkR P w K mg base (L2.CX P w) "cheapest" p_P_cheapest 40 (spCheapest K)) : DefOk P w K mg base CX0 "_law_heard" p_L_heard 41 (spHeard K) := by
  obtain ⟨fd, F⟩ := T.F_L_heard
  refine ⟨⟨_, fd, T.g_L_heard, F.kp, F.bindsN (ps := p_L_heard) (fun _ _ _ _ _ _ us hl => match us, hl with | [_, _, _, _], _ => rfl), F.ok sc_L_heard (fun vs H Q E h => ?_) fun cdv A outer s H vs Q E hr h => ?_⟩⟩
  · obtain ⟨n, k, lo, hi, sv, lv, hv, pp, rfl, _⟩ := h
    rfl
  obtain ⟨n, k, lo, hi, sv, lv, hv, pp, rfl, hn1, hn, hh, hlo, hhi, hll, q⟩ := h
  refine ⟨_, PSs.nox (pss_cons (ps_asg (pe_tup (pa_cons pe_non (pa_cons pe_non pa_nil))) (pg_tup rfl (pgs_cons (pg_name (i := 4) sc_L_heard.nd rfl (Or.inl rfl)) (pgs_cons (pg_name (i := 5) sc_L_heard.nd rfl (Or.inl rfl)) pgs_nil)))) (pss_cons (ps_try_keep (i := 6) (j := 5) (c1 := He.ga K "NoNumber") (c2 := He.ga K "NotBehind") (c3 := He.ga K "Unlike") rfl rfl rfl sc_L_heard.nd rfl rfl rfl rfl rfl rfl rfl rfl T.g_NoNumber T.g_NotBehind T.g_Unlike (by decide) (by decide) (by decide) (by decide) (by decide) (by rfl) (by rfl) fun W pn xe tk ps => (pss_one (ps_set (i := 4) sc_L_heard.nd rfl (Or.inl rfl) (pe_mdS (K := K) (E := WE W) (pv 0) T.cP R_cheapest (hr.mono (by omega)) (fun σ => passAt tk σ) (pa_cons (pv 1) (pa_cons (pv 2) (pa_cons (pv 3) pa_nil))))))) (pss_cons (ps_if (pt_cmpR op_isN (pv 5) pe_non (nomark _)) (pss_one (ps_ret (pv 4))) pss_nil) (pss_cons (ps_if (pt_val (pe_callB (r := rIsX K) call_isX rfl T.f_isinstance b_isinstance (pa_cons (pv 5) (pa_cons (pe_glob (v := .ref (He.ga K "NoNumber")) rfl T.g_NoNumber rfl) pa_nil)))) (pss_one (ps_ret (pe_lst (pa_cons pe_str (pa_cons (pe_xn (K := K) (pv 5)) (pa_cons (pe_callB (r := rIsX K) call_isX rfl T.f_isinstance b_isinstance (pa_cons (pv 5) (pa_cons (pe_bltn (v := .ty "LookupError") rfl T.f_LookupError b_LookupError rfl) pa_nil))) pa_nil)))))) pss_nil) (pss_one (ps_ret (pe_lst (pa_cons (pe_ifExp (pt_val (pe_callB (r := rIsX K) call_isX rfl T.f_isinstance b_isinstance (pa_cons (pv 5) (pa_cons (pe_glob (v := .ref (He.ga K "NotBehind")) rfl T.g_NotBehind rfl) pa_nil)))) pe_str pe_str) (pa_cons (pe_callB (r := rIsX K) call_isX rfl T.f_isinstance b_isinstance (pa_cons (pv 5) (pa_cons (pe_bltn (v := .ty "ValueError") rfl T.f_ValueError b_ValueError rfl) pa_nil))) pa_nil))))))))), ?_⟩
  obtain ⟨x, dx, s, w, d, rfl, hx, hp⟩ := id hh
  refine ⟨(by show 2 ≤ sizeLine; decide), fun p0 hp0 => ⟨p0, _, rfl, SqT.of upd_same, rfl, _, _, rfl, _, _, rfl, rfl, ?_⟩⟩
  have e0 := Evl.Ex.new (o := .tup [V.non, V.non]) hp0
  have hx0 := e0 _ _ hx
  refine ⟨_, rfl, x, dx, _, rfl, hx0, nometh (by decide +kernel), _, rfl, _, rfl, _, rfl, n, k, lo, hi, _, lv, hv, pp, rfl, hn1, hn, hh.ex e0, hlo.ex e0, hhi.ex e0, ?_⟩
  cases hl : limF n lo hi with
  | error b =>
    intro H1 e1
    cases b with
    | unlike =>
      refine ⟨Z.e_ul, fun a ha => ?_⟩
      refine ⟨_, rfl, rfl, _, rfl, ifF rfl ?_⟩
      refine ⟨_, rfl, a, _, none, _, _, _, rfl, upd_same, trivial, Z.ul, (fun u h => h), Z.ul_nn, _, rfl, ifF rfl ?_⟩
      refine ⟨_, rfl, a, _, none, _, _, _, rfl, upd_same, trivial, Z.ul, (fun u h => h), Z.ul_nb, _, rfl, ifF rfl ?_⟩
      refine ⟨_, rfl, a, _, none, _, _, _, rfl, upd_same, trivial, Z.ul, (fun u h => h), Z.ul_ve, (by show 2 ≤ sizeLine; decide), fun p hp => ?_⟩
      refine q _ _ (((e0.trans e1).trans (Evl.Ex.new ha)).trans (Evl.Ex.new hp)) ?_
      unfold heardF
      rw [hl]
      exact .lst (SqL.of upd_same) (.cons (.str _) (.cons (.bl _) .nil))
    | behind =>
      refine ⟨Z.e_nb, fun a ha => ?_⟩
      refine ⟨_, rfl, rfl, _, rfl, ifF rfl ?_⟩
      refine ⟨_, rfl, a, _, none, _, _, _, rfl, upd_same, trivial, Z.nb, (fun u h => h), Z.nb_nn, _, rfl, ifF rfl ?_⟩
      refine ⟨_, rfl, a, _, none, _, _, _, rfl, upd_same, trivial, Z.nb, (fun u h => h), Z.nb_nb, _, rfl, ifT rfl ?_⟩
      refine ⟨_, rfl, a, _, none, _, _, _, rfl, upd_same, trivial, Z.nb, (fun u h => h), Z.nb_ve, (by show 2 ≤ sizeLine; decide), fun p hp => ?_⟩
      refine q _ _ (((e0.trans e1).trans (Evl.Ex.new ha)).trans (Evl.Ex.new hp)) ?_
      unfold heardF
      rw [hl]
      exact .lst (SqL.of upd_same) (.cons (.str _) (.cons (.bl _) .nil))
  | ok l =>
    have hf : ∀ t, 0 ≤ k → (GD (tpB pp (tpL l) 1) 1 n)[k.toNat]? = some t → heardF n lo hi pp k = t.tp := fun t h1 h2 => by
      unfold heardF
      rw [hl]
      have h3 := (List.getElem?_eq_some_iff.mp h2).1
      show (if 0 ≤ k ∧ k < lenG (tpB pp (tpL l) 1) 1 n then _ else _) = _
      rw [if_pos ⟨h1, by unfold lenG; omega⟩, h2]
      rfl
    have hf2 : (k < 0 ∨ lenG (tpB pp (tpL l) 1) 1 n ≤ k) → heardF n lo hi pp k = .list [.str "number", .int k, .bool true] := fun h => by
      unfold heardF
      rw [hl]
      exact if_neg (by omega)
    refine ⟨hll l hl, fun t h1 h2 v H1 e1 hv => ?_, fun h d1 H1 e1 hd => ?_⟩
    · refine ⟨_, rfl, rfl, _, rfl, ifT rfl ⟨_, rfl, q _ _ (e0.trans e1) ?_⟩⟩
      rw [hf t h1 h2]
      exact hv
    · refine ⟨Z.e_nn, fun a ha => ?_⟩
      have had : a ≠ d1 := fun z => by rw [z, upd_same] at ha; cases ha
      have hd2 : (upd (upd H1 d1 (.xd [(("number" : Str), V.int k)])) a (EX (.ref (He.ga K "NoNumber")) (some d1) a)) d1 = some (.xd [(("number" : Str), V.int k)]) := by rw [upd_ne (fun z => had z.symm), upd_same]
      refine ⟨_, rfl, rfl, _, rfl, ifF rfl ?_⟩
      refine ⟨_, rfl, a, _, some d1, _, _, _, rfl, upd_same, ⟨_, hd2⟩, Z.nn, (fun u h => h), Z.nn_nn, _, rfl, ifT rfl ?_⟩
      refine ⟨_, rfl, a, _, d1, _, V.int k, rfl, upd_same, hd2, Z.nn, Z.hdN, Z.noN, (by simp [List.lookup]), ?_⟩
      refine ⟨_, rfl, a, _, some d1, _, _, _, rfl, upd_same, ⟨_, hd2⟩, Z.nn, (fun u h => h), Z.nn_le, (by show 3 ≤ sizeLine; decide), fun p hp => ?_⟩
      refine q _ _ ((((e0.trans e1).trans (Evl.Ex.new hd)).trans (Evl.Ex.new ha)).trans (Evl.Ex.new hp)) ?_
      rw [hf2 h]
      exact .lst (SqL.of upd_same) (.cons (.str _) (.cons (.int _) (.cons (.bl _) .nil)))
end RG

set_option Elab.async false
set_option linter.all false
set_option maxRecDepth 100000
set_option maxHeartbeats 400000
namespace RG
/-! ### trees within limits -/
def okT (l : List (Nat × Nat)) (t : Tr) : Bool := t.trip.all fun z => okj l z.2.1 z.2.2
theorem okT_nd (l : List (Nat × Nat)) (x y : Tr) : okT l (.nd x y) = (okT l x && (okj l x.lst y.lst && okT l y)) := by
  show (x.trip ++ (x.fst, x.lst, y.lst) :: y.trip).all _ = _
  rw [List.all_append, List.all_cons]
  rfl
theorem GD_okT (l : List (Nat × Nat)) {a b : Nat} (h : a ≤ b) : GD (tpL l) a b = (GD allT a b).filter (okT l) := by
  refine gd_ind allT_ok (P := fun a b => GD (tpL l) a b = (GD allT a b).filter (okT l)) (fun a => ?_) (fun a b hab ih => ?_) (b - a) a b h (Nat.le_refl _)
  · rw [GD_self, GD_self]
    rfl
  · rw [GD_eq (tpL_ok l) hab, GD_eq allT_ok hab, filter_flatMap]
    have step : ∀ j ∈ tpL l a b, ((GD (tpL l) a j).flatMap fun x => (GD (tpL l) (j + 1) b).map (Tr.nd x)) = (((GD allT a j).flatMap fun x => (GD allT (j + 1) b).map (Tr.nd x)).filter (okT l)) := fun j hB => by
      have hj : j ∈ allT a b := (List.mem_filter.mp hB).1
      have hok : okj l j b = true := (List.mem_filter.mp hB).2
      obtain ⟨h1, h2⟩ := allT_ok a b j hj
      rw [(ih j hj).1, (ih j hj).2, filter_flatMap]
      have key : ∀ x ∈ GD allT a j, ∀ y ∈ GD allT (j + 1) b, okT l (.nd x y) = (okT l x && okT l y) := fun x hx y hy => by
        rw [okT_nd, span_lst (GD_span allT_ok h1 x hx), span_lst (GD_span allT_ok (by omega) y hy), hok, Bool.true_and]
      have e1 : ∀ x ∈ GD allT a j, okT l x = true → ((GD allT (j + 1) b).filter (okT l)).map (Tr.nd x) = ((GD allT (j + 1) b).map (Tr.nd x)).filter (okT l) := fun x hx hb => by
        rw [List.filter_map]
        congr 1
        refine List.filter_congr fun y hy => ?_
        show okT l y = okT l (.nd x y)
        rw [key x hx y hy, hb, Bool.true_and]
      rw [flatMap_congr (g := fun x => ((GD allT (j + 1) b).map (Tr.nd x)).filter (okT l)) fun x hx => e1 x (List.mem_filter.mp hx).1 (List.mem_filter.mp hx).2]
      refine flatMap_filter _ _ fun x hx hp => ?_
      refine List.filter_eq_nil_iff.mpr fun t ht => ?_
      obtain ⟨y, hy, rfl⟩ := List.mem_map.mp ht
      rw [key x hx y hy, hp, Bool.false_and]
      decide
    rw [flatMap_congr step]
    show ((allT a b).filter fun j => okj l j b).flatMap _ = _
    refine flatMap_filter _ _ fun j hj hp => ?_
    refine List.filter_eq_nil_iff.mpr fun t ht => ?_
    obtain ⟨x, hx, ht⟩ := List.mem_flatMap.mp ht
    obtain ⟨y, hy, rfl⟩ := List.mem_map.mp ht
    obtain ⟨h1, h2⟩ := allT_ok a b j hj
    rw [okT_nd, span_lst (GD_span allT_ok h1 x hx), span_lst (GD_span allT_ok (by omega) y hy), hp, Bool.false_and, Bool.and_false]
    decide
theorem span_joins : ∀ {t : Tr} {a b : Nat}, Span t a b → t.trip.map (fun z => z.2.1) = allT a b
  | .lf n, a, b, h => by
    show [] = allT a b
    unfold allT
    rw [show b - a = 0 by have := h.2; omega]
    rfl
  | .nd x y, a, b, ⟨j, h1, h2, hx, hy⟩ => by
    show (x.trip ++ (x.fst, x.lst, y.lst) :: y.trip).map _ = _
    rw [List.map_append, List.map_cons, span_joins hx, span_joins hy]
    show allT a j ++ x.lst :: allT (j + 1) b = allT a b
    rw [span_lst hx]
    unfold allT
    rw [show b - a = (j - a) + (1 + (b - (j + 1))) by omega, List.range_add, List.map_append, List.range_add, List.map_append, List.map_append]
    congr 1
    show j :: _ = [a + (j - a + 0)] ++ _
    rw [show a + (j - a + 0) = j by omega]
    show j :: _ = j :: _
    congr 1
    rw [List.map_map, List.map_map]
    refine List.map_congr_left fun i _ => ?_
    show j + 1 + i = a + (j - a + (1 + i))
    omega
theorem span_rch {t : Tr} {n : Nat} (h : Span t 1 n) : t.rch.length + 1 = n ∨ (t.rch.length = 0 ∧ n = 1) := by
  have := span_len h
  have h1 := span_le h
  show (t.trip.map _).length + 1 = n ∨ _
  rw [List.length_map, this]
  omega
/-- the i-th triple is of the join i + 1 -/
theorem trip_at {t : Tr} {n i : Nat} {z : Nat × Nat × Nat} (h : Span t 1 n) (hz : t.trip[i]? = some z) : z.2.1 = i + 1 ∧ t.rch[i]? = some z.2.2 := by
  have e := span_joins h
  have h1 : (t.trip.map fun z => z.2.1)[i]? = some z.2.1 := by rw [List.getElem?_map, hz]; rfl
  rw [e] at h1
  unfold allT at h1
  have hi : i < n - 1 := by
    have := (List.getElem?_eq_some_iff.mp h1).1
    rw [List.length_map, List.length_range] at this
    exact this
  rw [List.getElem?_map, List.getElem?_range hi] at h1
  refine ⟨?_, by show (t.trip.map _)[i]? = _; rw [List.getElem?_map, hz]; rfl⟩
  have : 1 + i = z.2.1 := Option.some.inj h1
  omega
theorem okT_inside {l : List (Nat × Nat)} {t : Tr} {n : Nat} (h : Span t 1 n) (hl : l.length + 1 = n) : okT l t = insideF l t := by
  rw [Bool.eq_iff_iff]
  unfold okT insideF
  rw [List.all_eq_true, List.all_eq_true]
  have hlen := span_len h
  constructor
  · intro hk z hz
    obtain ⟨i, hi⟩ := List.getElem?_of_mem hz
    obtain ⟨z1, z2⟩ := zip_get hi
    have hi3 := (List.getElem?_eq_some_iff.mp z1).1
    have hti : i < t.trip.length := by omega
    obtain ⟨e1, e2⟩ := trip_at h (List.getElem?_eq_getElem hti)
    have hk2 := hk _ (List.getElem_mem hti)
    rw [e2] at z2
    have z2 := Option.some.inj z2
    unfold okj at hk2
    rw [e1, Nat.add_sub_cancel, z1] at hk2
    rw [← z2]
    exact hk2
  · intro hk z hz
    obtain ⟨i, hi⟩ := List.getElem?_of_mem hz
    have hti := (List.getElem?_eq_some_iff.mp hi).1
    obtain ⟨e1, e2⟩ := trip_at h hi
    have hli : i < l.length := by omega
    have hm : (l[i], z.2.2) ∈ l.zip t.rch := List.mem_of_getElem? (i := i) (by rw [List.getElem?_zip_eq_some]; exact ⟨List.getElem?_eq_getElem hli, e2⟩)
    have hk2 := hk _ hm
    unfold okj
    rw [e1, Nat.add_sub_cancel, List.getElem?_eq_getElem hli]
    exact hk2
theorem GD_inside {l : List (Nat × Nat)} {n : Nat} (hn : 1 ≤ n) (hl : l.length + 1 = n) : GD (tpL l) 1 n = (GD allT 1 n).filter (insideF l) := by
  rw [GD_okT l hn]
  exact List.filter_congr fun t ht => okT_inside (GD_span allT_ok hn t ht) hl
/-! ### the law's own rows -/
def okLow : Option Tr → Tr → Bool
  | some u, t => goesF u t
  | none, _ => true
def okHigh : Option Tr → Tr → Bool
  | some u, t => goesF t u
  | none, _ => true
def OpS (n : Nat) : Option Tr → Prop
  | some u => Span u 1 n
  | none => True
theorem lowR_len {n : Nat} {o : Option Tr} (h : OpS n o) (hn : 1 ≤ n) : (lowR n o).length + 1 = n := by
  cases o with
  | none => show ((List.range (n - 1)).map _).length + 1 = n; rw [List.length_map, List.length_range]; omega
  | some u => show (u.trip.map _).length + 1 = n; rw [List.length_map, span_len (show Span u 1 n from h)]; omega
theorem highR_len {n : Nat} {o : Option Tr} (h : OpS n o) (hn : 1 ≤ n) : (highR n o).length + 1 = n := by
  cases o with
  | none => show (List.replicate (n - 1) n).length + 1 = n; rw [List.length_replicate]; omega
  | some u => show (u.trip.map _).length + 1 = n; rw [List.length_map, span_len (show Span u 1 n from h)]; omega
theorem badO_no {n : Nat} {o : Option Tr} (h : OpS n o) : badO n o = false := by
  cases o with
  | none => rfl
  | some u => show (u.lst != n) = false; rw [span_lst (show Span u 1 n from h)]; simp
theorem rows_len {n : Nat} {lo hi : Option Tr} (h1 : OpS n lo) (h2 : OpS n hi) (hn : 1 ≤ n) : (rowsF n lo hi).length + 1 = n := by
  have e1 := lowR_len h1 hn
  have e2 := highR_len h2 hn
  unfold rowsF
  rw [List.length_zip]
  omega
/-- pointwise -/
def leL (xs ys : List Nat) : Bool := (xs.zip ys).all fun z => decide (z.1 ≤ z.2)
theorem leL_iff {xs ys : List Nat} (h : xs.length = ys.length) : leL xs ys = true ↔ ∀ (i : Nat) x y, xs[i]? = some x → ys[i]? = some y → x ≤ y := by
  unfold leL
  rw [List.all_eq_true]
  constructor
  · intro h i x y hx hy
    exact of_decide_eq_true (h (x, y) (List.mem_of_getElem? (i := i) (by rw [List.getElem?_zip_eq_some]; exact ⟨hx, hy⟩)))
  · intro h z hz
    obtain ⟨i, hi⟩ := List.getElem?_of_mem hz
    obtain ⟨z1, z2⟩ := zip_get hi
    exact decide_eq_true (h i _ _ z1 z2)
theorem inside_iff {n : Nat} {lo hi : Option Tr} (h1 : OpS n lo) (h2 : OpS n hi) (hn : 1 ≤ n) {t : Tr} (ht : Span t 1 n) : insideF (rowsF n lo hi) t = (leL (lowR n lo) t.rch && leL t.rch (highR n hi)) := by
  have e1 := lowR_len h1 hn
  have e2 := highR_len h2 hn
  have e3 : t.rch.length + 1 = n := by show (t.trip.map _).length + 1 = n; rw [List.length_map, span_len ht]; omega
  rw [Bool.eq_iff_iff, Bool.and_eq_true_iff, leL_iff (by omega), leL_iff (by omega)]
  unfold insideF rowsF
  rw [List.all_eq_true]
  constructor
  · intro h
    have key : ∀ (i : Nat) x y z, (lowR n lo)[i]? = some x → t.rch[i]? = some y → (highR n hi)[i]? = some z → x ≤ y ∧ y ≤ z := fun i x y z hx hy hz => by
      have k := h ((x, z), y) (List.mem_of_getElem? (i := i) (by rw [List.getElem?_zip_eq_some, List.getElem?_zip_eq_some]; exact ⟨⟨hx, hz⟩, hy⟩))
      have k := Bool.and_eq_true_iff.mp k
      exact ⟨of_decide_eq_true k.1, of_decide_eq_true k.2⟩
    refine ⟨fun i x y hx hy => ?_, fun i x y hx hy => ?_⟩
    · have hi := (List.getElem?_eq_some_iff.mp hx).1
      exact (key i x y _ hx hy (List.getElem?_eq_getElem (by omega))).1
    · have hi := (List.getElem?_eq_some_iff.mp hx).1
      exact (key i _ x y (List.getElem?_eq_getElem (by omega)) hx hy).2
  · rintro ⟨h1, h2⟩ z hz
    obtain ⟨i, hi⟩ := List.getElem?_of_mem hz
    obtain ⟨z1, z2⟩ := zip_get hi
    obtain ⟨z3, z4⟩ := zip_get z1
    rw [decide_eq_true (h1 i _ _ z3 z2), decide_eq_true (h2 i _ _ z2 z4)]
    rfl
theorem low_le {n : Nat} {t : Tr} (ht : Span t 1 n) (o : Option Tr) : leL (lowR n o) t.rch = okLow o t := by
  cases o with
  | some u => rfl
  | none =>
    show leL _ _ = true
    have e3 := span_len ht
    refine (leL_iff (by show ((List.range (n - 1)).map _).length = (t.trip.map _).length; rw [List.length_map, List.length_range, List.length_map, e3])).mpr fun i x y hx hy => ?_
    have hi : i < t.trip.length := by
      have := (List.getElem?_eq_some_iff.mp hy).1
      rwa [show t.rch.length = t.trip.length from List.length_map _] at this
    obtain ⟨a1, a2⟩ := trip_at ht (List.getElem?_eq_getElem hi)
    obtain ⟨_, _, b3, _⟩ := span_trip ht _ (List.getElem_mem hi)
    rw [a2] at hy
    have hy := Option.some.inj hy
    have hx2 : ((List.range (n - 1)).map (· + 2))[i]? = some x := hx
    rw [List.getElem?_map, List.getElem?_range (by omega)] at hx2
    have hx2 : i + 2 = x := Option.some.inj hx2
    omega
theorem high_le {n : Nat} {t : Tr} (ht : Span t 1 n) (o : Option Tr) : leL t.rch (highR n o) = okHigh o t := by
  cases o with
  | some u => rfl
  | none =>
    show leL _ _ = true
    have e3 := span_len ht
    refine (leL_iff (by show (t.trip.map _).length = (List.replicate (n - 1) n).length; rw [List.length_replicate, List.length_map, e3])).mpr fun i x y hx hy => ?_
    have hi : i < t.trip.length := by
      have := (List.getElem?_eq_some_iff.mp hx).1
      rwa [show t.rch.length = t.trip.length from List.length_map _] at this
    obtain ⟨a1, a2⟩ := trip_at ht (List.getElem?_eq_getElem hi)
    obtain ⟨_, _, _, b4⟩ := span_trip ht _ (List.getElem_mem hi)
    rw [a2] at hx
    have hx := Option.some.inj hx
    have hy2 : (List.replicate (n - 1) n)[i]? = some y := hy
    have := List.mem_of_getElem? hy2
    rw [List.mem_replicate] at this
    omega
/-- the law's rows are the program's trees -/
def lawRows (n : Nat) (lo hi : Option Tr) : List Tr := ((GD allT 1 n).filter (okLow lo)).filter (okHigh hi)
theorem lawRows_eq {n : Nat} {lo hi : Option Tr} (h1 : OpS n lo) (h2 : OpS n hi) (hn : 1 ≤ n) : lawRows n lo hi = GD (tpL (rowsF n lo hi)) 1 n := by
  rw [GD_inside hn (rows_len h1 h2 hn)]
  unfold lawRows
  rw [List.filter_filter]
  refine List.filter_congr fun t ht => ?_
  have hs := GD_span allT_ok hn t ht
  rw [inside_iff h1 h2 hn hs, low_le hs, high_le hs, Bool.and_comm]
end RG

set_option Elab.async false
set_option linter.all false
set_option maxRecDepth 100000
set_option maxHeartbeats 400000
namespace RG
open PySem PySem.Spec
theorem span_mem : ∀ {t : Tr} {a b : Nat}, Span t a b → t ∈ GD allT a b
  | .lf n, a, b, ⟨h1, h2⟩ => by
    subst h1 h2
    rw [GD_self]
    exact List.mem_singleton_self _
  | .nd x y, a, b, ⟨j, h1, h2, hx, hy⟩ => by
    refine (mem_GD allT_ok (by omega)).mpr ⟨j, List.mem_map.mpr ⟨j - a, List.mem_range.mpr (by omega), by omega⟩, x, span_mem hx, y, span_mem hy, rfl⟩
theorem some_tree : ∀ (k a b : Nat), a ≤ b → b - a ≤ k → ∃ t, Span t a b
  | 0, a, b, h, h2 => ⟨.lf a, rfl, by omega⟩
  | k + 1, a, b, h, h2 => by
    by_cases e : a = b
    · exact ⟨.lf a, rfl, e⟩
    · obtain ⟨t, ht⟩ := some_tree k (a + 1) b (by omega) (by omega)
      exact ⟨.nd (.lf a) t, a, Nat.le_refl _, by omega, ⟨rfl, rfl⟩, ht⟩
theorem leL_refl (xs : List Nat) : leL xs xs = true := (leL_iff rfl).mpr fun i x y hx hy => by
  rw [hx] at hy
  rw [Option.some.inj hy]
  exact Nat.le_refl _
theorem lim_cases {n : Nat} {lo hi : Option Tr} (h1 : OpS n lo) (h2 : OpS n hi) (hn : 1 ≤ n) : (limF n lo hi = .error .behind ∧ lawRows n lo hi = []) ∨ (limF n lo hi = .ok (rowsF n lo hi) ∧ lawRows n lo hi ≠ []) := by
  have bo : ¬ (badO n lo || badO n hi) = true := by rw [badO_no h1, badO_no h2]; decide
  have e1 := lowR_len h1 hn
  have e2 := highR_len h2 hn
  by_cases c : ((rowsF n lo hi).any fun p => decide (p.2 < p.1)) = true
  · refine .inl ⟨by unfold limF; rw [if_neg bo, if_pos c], ?_⟩
    obtain ⟨p, hp, hlt⟩ := List.any_eq_true.mp c
    have hlt := of_decide_eq_true hlt
    refine List.eq_nil_iff_forall_not_mem.mpr fun t ht => ?_
    obtain ⟨ht1, hh⟩ := List.mem_filter.mp ht
    obtain ⟨ht0, hl⟩ := List.mem_filter.mp ht1
    have hs := GD_span allT_ok hn t ht0
    have e3 : t.rch.length + 1 = n := by show (t.trip.map _).length + 1 = n; rw [List.length_map, span_len hs]; omega
    rw [← low_le hs] at hl
    rw [← high_le hs] at hh
    obtain ⟨i, hi⟩ := List.getElem?_of_mem hp
    obtain ⟨z1, z2⟩ := zip_get hi
    have hi2 := (List.getElem?_eq_some_iff.mp z1).1
    have k1 := (leL_iff (by omega)).mp hl i _ _ z1 (List.getElem?_eq_getElem (by omega))
    have k2 := (leL_iff (by omega)).mp hh i _ _ (List.getElem?_eq_getElem (by omega)) z2
    omega
  · refine .inr ⟨by unfold limF; rw [if_neg bo, if_neg c], ?_⟩
    have le : leL (lowR n lo) (highR n hi) = true := (leL_iff (by omega)).mpr fun i x y hx hy => by
      refine Nat.le_of_not_lt fun hlt => c (List.any_eq_true.mpr ⟨(x, y), List.mem_of_getElem? (i := i) ?_, decide_eq_true hlt⟩)
      unfold rowsF
      rw [List.getElem?_zip_eq_some]
      exact ⟨hx, hy⟩
    obtain ⟨t, hs, hl, hh⟩ : ∃ t, Span t 1 n ∧ okLow lo t = true ∧ okHigh hi t = true := by
      cases lo with
      | some u =>
        have hu : Span u 1 n := h1
        exact ⟨u, hu, leL_refl _, by rw [← high_le hu]; exact le⟩
      | none =>
        cases hi with
        | some u =>
          exact ⟨u, h2, rfl, leL_refl _⟩
        | none =>
          obtain ⟨t, ht⟩ := some_tree (n - 1) 1 n hn (Nat.le_refl _)
          exact ⟨t, ht, rfl, rfl⟩
    intro e
    have hm : t ∈ lawRows n lo hi := List.mem_filter.mpr ⟨List.mem_filter.mpr ⟨span_mem hs, hl⟩, hh⟩
    rw [e] at hm
    cases hm
/-! ### trees as data -/
theorem eqv_tr : ∀ t u : Tr, PyData.eqv t.tp u.tp = decide (t = u)
  | .lf n, .lf m => by
    show ((n : Int) == (m : Int)) = _
    rw [Bool.eq_iff_iff, beq_iff_eq, decide_eq_true_iff, Tr.lf.injEq]
    omega
  | .lf n, .nd x y => rfl
  | .nd x y, .lf n => rfl
  | .nd x y, .nd z w => by
    show (PyData.eqv x.tp z.tp && (PyData.eqv y.tp w.tp && true)) = _
    rw [eqv_tr x z, eqv_tr y w, Bool.and_true, Bool.eq_iff_iff]
    simp
theorem any_tr (t : Tr) (l : List Tr) : ((l.map Tr.tp).any fun z => PyData.eqv z t.tp) = decide (t ∈ l) := by
  rw [Bool.eq_iff_iff, List.any_eq_true, decide_eq_true_iff]
  constructor
  · rintro ⟨d, hd, he⟩
    obtain ⟨u, hu, rfl⟩ := List.mem_map.mp hd
    rw [eqv_tr] at he
    rw [← of_decide_eq_true he]
    exact hu
  · intro h
    exact ⟨_, List.mem_map.mpr ⟨t, h, rfl⟩, by rw [eqv_tr]; exact decide_eq_true rfl⟩
theorem tp_depth : ∀ t : Tr, t.tp.depth ≤ t.ht + 1
  | .lf n => by show PyData.depth (.int n) ≤ _; simp [PyData.depth]
  | .nd x y => by
    have h1 := tp_depth x
    have h2 := tp_depth y
    show (PyData.tuple [x.tp, y.tp]).depth ≤ max x.ht y.ht + 1 + 1
    simp only [PyData.depth, PyData.depthAll]
    omega
theorem tp_sm : ∀ (t : Tr) (k : Nat), t.ht < k → Sm k t.tp
  | .lf n, k + 1, _ => trivial
  | .nd x y, k + 1, h => by
    have h : max x.ht y.ht + 1 < k + 1 := h
    refine ⟨by show 2 < 100000; decide, fun d hd => ?_⟩
    rcases List.mem_cons.mp hd with rfl | hd
    · exact tp_sm x k (by omega)
    · rw [List.mem_singleton.mp hd]
      exact tp_sm y k (by omega)
theorem ffn_tr : ∀ (t : Tr) (k a b : Nat), Span t a b → t.ht < k → ffn k t.tp (a : Int) = some ((b : Int) + 1)
  | .lf n, k + 1, a, b, ⟨h1, h2⟩, _ => by
    subst h1 h2
    show (if (n : Int) = n then some ((n : Int) + 1) else none) = _
    rw [if_pos rfl]
  | .nd x y, k + 1, a, b, ⟨j, h1, h2, hx, hy⟩, h => by
    have h : max x.ht y.ht + 1 < k + 1 := h
    show (ffn k x.tp a).bind (ffn k y.tp) = _
    rw [ffn_tr x k a j hx (by omega)]
    show ffn k y.tp ((j : Int) + 1) = _
    rw [show (j : Int) + 1 = ((j + 1 : Nat) : Int) by omega]
    exact ffn_tr y k (j + 1) b hy (by omega)
theorem isGr_tr {t : Tr} {n : Nat} (h : Span t 1 n) (hn : n ≤ 20) : isGr t.tp = true := by
  have := span_ht h
  unfold isGr
  rw [show (1 : Int) = ((1 : Nat) : Int) from rfl, ffn_tr t 30 1 n h (by omega)]
  rfl
end RG

set_option Elab.async false
set_option linter.all false
set_option maxRecDepth 100000
set_option maxHeartbeats 1000000
namespace RG
open PySem PySem.Spec PyProof.Rows L2
variable {P : Program} {w : World} {K : PySem.W.Frag} {mg : Str → Option Value} {base : Heap}
/-! ### asked_right -/
theorem lay_tr : ∀ t : Tr, t.tp.canLay0 = true
  | .lf n => rfl
  | .nd x y => by
    show (PyData.tuple [x.tp, y.tp]).canLay0 = true
    simp only [PyData.canLay0, PyData.canLayAll0, lay_tr x, lay_tr y, Bool.and_true]
theorem lay_trs : ∀ l : List Tr, PyData.canLayAll0 (l.map Tr.tp) = true
  | [] => rfl
  | t :: l => by
    show (t.tp.canLay0 && PyData.canLayAll0 (l.map Tr.tp)) = true
    rw [lay_tr t, lay_trs l]
    rfl
theorem depth_trs (k : Nat) : ∀ l : List Tr, (∀ t ∈ l, t.ht ≤ k) → PyData.depthAll (l.map Tr.tp) ≤ k + 1
  | [], _ => Nat.zero_le _
  | t :: l, h => by
    have h1 := tp_depth t
    have h2 := h t List.mem_cons_self
    have h3 := depth_trs k l fun u hu => h u (List.mem_cons_of_mem _ hu)
    show PyData.depthAll (t.tp :: l.map Tr.tp) ≤ _
    simp only [PyData.depthAll]
    omega
theorem shaped_tr {t : Tr} (h : t.ht ≤ 20) : SeqAt.shaped t.tp = true := by
  have := tp_depth t
  show (t.tp.canLay0 && decide (t.tp.depth ≤ 64)) = true
  rw [lay_tr, decide_eq_true (by omega)]
  rfl
theorem shaped_trs {l : List Tr} (h : ∀ t ∈ l, t.ht ≤ 20) : SeqAt.shaped (.list (l.map Tr.tp)) = true := by
  have := depth_trs 20 l h
  show ((PyData.list (l.map Tr.tp)).canLay0 && decide ((PyData.list (l.map Tr.tp)).depth ≤ 64)) = true
  simp only [PyData.canLay0, PyData.depth, lay_trs, Bool.true_and]
  exact decide_eq_true (by omega)
theorem dpa_of {H : Hp} : ∀ {vs : List V} {l : List Tr}, Paired (RTr K H) vs l → DpAll K H vs (l.map Tr.tp)
  | _, _, .nil => .nil
  | _, _, .cons h t => .cons h (dpa_of t)
theorem sm_trs {l : List Tr} {k : Nat} (hl : l.length < 100000) (h : ∀ t ∈ l, t.ht < k) : Sm (k + 1) (.list (l.map Tr.tp)) := by
  refine ⟨by rw [List.length_map]; exact hl, fun d hd => ?_⟩
  obtain ⟨t, ht, rfl⟩ := List.mem_map.mp hd
  exact tp_sm t k (h t ht)
theorem all42 : ∀ {n : Nat}, 1 ≤ n → n ≤ 6 → (GD allT 1 n).length ≤ 42
  | 1, _, _ => by decide +kernel
  | 2, _, _ => by decide +kernel
  | 3, _, _ => by decide +kernel
  | 4, _, _ => by decide +kernel
  | 5, _, _ => by decide +kernel
  | 6, _, _ => by decide +kernel
theorem best1 (pp : Nat → Nat → Nat → Int) (tp : Nat → Nat → List Nat) (a b : Nat) : bestV pp tp 1 a b = lmin ((GD tp a b).map (price pp)) := by
  unfold bestV
  have e : ((GD tp a b).map fun t => 1 * price pp t) = (GD tp a b).map (price pp) := List.map_congr_left fun t _ => by omega
  rw [e]
  cases lmin ((GD tp a b).map (price pp)) with
  | none => rfl
  | some m => show some (1 * m) = some m; rw [Int.one_mul]
theorem zip_filter (f : Tr → Int) (m : Int) : ∀ l : List Tr, (((l.zip (l.map f)).filter fun z => decide (z.2 = m)).map fun z => z.1) = l.filter fun t => decide (m = f t)
  | [] => rfl
  | t :: l => by
    show (((t, f t) :: l.zip (l.map f)).filter _).map _ = _
    rw [List.filter_cons, List.filter_cons]
    by_cases c : f t = m
    · rw [if_pos (decide_eq_true c), if_pos (decide_eq_true c.symm), List.map_cons, zip_filter f m l]
    · rw [if_neg (by rw [decide_eq_false c]; decide), if_neg (by rw [decide_eq_false (fun e => c e.symm)]; decide), zip_filter f m l]
theorem dpa_bl {H : Hp} : ∀ {vs : List V} {l : List Bool}, vs = l.map V.bl → DpAll K H vs (l.map PyData.bool)
  | _, [], rfl => .nil
  | _, b :: l, rfl => .cons (.bl b) (dpa_bl rfl)
def spAsked (K : PySem.W.Frag) : Sp := fun vs H Q _ => ∃ (n : Nat) (lo hi : Option Tr) (l : List (Nat × Nat)) (sv cv lv hv : V) (pr pe : Addr) (c : Costs) (vr ve : List V), vs = [sv, cv, lv, hv, .ref pr, .ref pe] ∧ 1 ≤ n ∧ n ≤ 6 ∧ HostAt K H sv n c.pp ∧ CostAt K H cv n c ∧ OpT K H lv lo ∧ OpT K H hv hi ∧ LimOk n lo hi l ∧
  H pr = some (.lst vr) ∧ Paired (RTr K H) vr (GD (tpL l) 1 n) ∧ GD (tpL l) 1 n ≠ [] ∧ H pe = some (.lst ve) ∧ Paired (RTr K H) ve (GD allT 1 n) ∧ ∀ H', Ex H H' → Q (.bl true) H'
theorem ok_asked (T : Txt K mg) (D_L_pays : DefOk P w K mg base CX0 "_law_pays" p_L_pays 11 (spPays K)) (M_least2 : MetOk P w K mg base CX0 "least" p_P_least [] 39 (spEnd K 1)) (M_greatest2 : MetOk P w K mg base CX0 "greatest" p_P_greatest [] 39 (spEnd K (-1)))
    (M_how_many2 : MetOk P w K mg base CX0 "how_many" p_P_how_many [] 40 (spHowMany K)) (M_mean2 : MetOk P w K mg base CX0 "mean" p_P_mean [] 40 (spMean K)) (M_cheapest3 : MetOk P w K mg base (L2.CX P w) "cheapest" p_P_cheapest [] 40 (spCheapest K))
    (M_is_cheapest3 : MetOk P w K mg base CX0 "is_cheapest" p_P_is_cheapest [] 40 (spIsCheap K)) (D_L_same : DefOk P w K mg base CX0 "_law_same" p_L_same 10 (spSame K 10)) (D_L_fraction : DefOk P w K mg base CX0 "_law_fraction" p_L_fraction 1 spFrac)
    (D_L_heard : DefOk P w K mg base CX0 "_law_heard" p_L_heard 41 (spHeard K)) : DefOk P w K mg base CX0 "_law_asked_right" p_L_asked_right 43 (spAsked K) := by
  obtain ⟨fd, F⟩ := T.F_L_asked_right
  refine ⟨⟨_, fd, T.g_L_asked_right, F.kp, F.bindsN (ps := p_L_asked_right) (fun _ _ _ _ _ _ us hl => match us, hl with | [_, _, _, _, _, _], _ => rfl), F.ok sc_L_asked_right (fun vs H Q E h => ?_) fun cdv A outer s H vs Q E hr h => ?_⟩⟩
  · obtain ⟨n, lo, hi, l, sv, cv, lv, hv, pr, pe, c, vr, ve, rfl, _⟩ := h
    rfl
  obtain ⟨n, lo, hi, l, sv, cv, lv, hv, pr, pe, c, vr, ve, rfl, hn1, hn, hh, hc, hlo, hhi, hl, hr1, hrp, hne, he1, hep, q⟩ := h
  refine ⟨_, PSs.nox (pss_cons (ps_set (i := 6) sc_L_asked_right.nd rfl (Or.inr rfl) (pe_lc (own := [("_law_own", 9)]) (g := (gName 9)) rfl sc_L_asked_right.nd (pi_list (pv 4)) (blkOk_by (own := [("_law_own", 9)]) (N := n_L_asked_right) (sc := (defScope s_L_asked_right)) (by decide +kernel)) (fun _ _ _ _ _ => (by exact (pg_name (i := 9) sc_L_asked_right.nd rfl (Or.inl rfl)))) (fun _ _ _ _ _ => pts_nil) (fun _ _ _ _ _ => (pe_d D_L_pays (hr.mono (by omega)) pass0 (pa_cons (pv 9) (pa_cons (pv 1) pa_nil)))))) (pss_cons (ps_set (i := 7) sc_L_asked_right.nd rfl (Or.inr rfl) (pe_lc (own := [("_law_own", 9), ("_law_price", 10)]) (g := (gTup K 2 (gCons (gName 9) (gCons (gName 10) gNil)))) rfl sc_L_asked_right.nd (pi_zip rfl T.f_zip (pa_cons (pv 4) (pa_cons (pv 6) pa_nil))) (blkOk_by (own := [("_law_own", 9), ("_law_price", 10)]) (N := n_L_asked_right) (sc := (defScope s_L_asked_right)) (by decide +kernel)) (fun _ _ _ _ _ => (by exact (pg_tup rfl (pgs_cons (pg_name (i := 9) sc_L_asked_right.nd rfl (Or.inl rfl)) (pgs_cons (pg_name (i := 10) sc_L_asked_right.nd rfl (Or.inl rfl)) pgs_nil))))) (fun _ _ _ _ _ => (pts_one (pt_cmpR op_eq (pv 10) (pe_callB (r := rMin K) (cr_min rfl) rfl T.f_min b_min (pa_cons (pv 6) pa_nil)) (nomark _)))) (fun _ _ _ _ _ => (pv 9)))) (pss_cons (ps_set (i := 8) sc_L_asked_right.nd rfl (Or.inl rfl) (pe_lst (pa_cons (pe_md (K := K) (pv 0) T.cP M_least2 (hr.mono (by omega)) pass0 (pa_cons (pv 2) (pa_cons (pv 3) pa_nil))) (pa_cons (pe_md (K := K) (pv 0) T.cP M_greatest2 (hr.mono (by omega)) pass0 (pa_cons (pv 2) (pa_cons (pv 3) pa_nil))) (pa_cons (pe_md (K := K) (pv 0) T.cP M_how_many2 (hr.mono (by omega)) pass0 (pa_cons (pv 2) (pa_cons (pv 3) pa_nil))) pa_nil))))) (pss_cons (ps_expr (pe_bm PySem.F.plainAttrs_list PySem.F.slot_list_append PySem.F.type_list_append mt_append (pv 8) (pa_cons (pe_md (K := K) (pv 0) T.cP M_mean2 (hr.mono (by omega)) pass0 (pa_cons (pv 2) (pa_cons (pv 3) pa_nil))) pa_nil))) (pss_cons (ps_if (pt_not (pt_val (pe_d D_L_same (hr.mono (by omega)) pass0 (pa_cons (pv 8) (pa_cons (pe_lst (pa_cons (pe_callB (r := rMin K) (cr_min rfl) rfl T.f_min b_min (pa_cons (pv 6) pa_nil)) (pa_cons (pe_callB (r := rMax K) (cr_max rfl) rfl T.f_max b_max (pa_cons (pv 6) pa_nil)) (pa_cons (pe_callB (r := Evl.rLenS K) call_len_seq rfl T.f_len b_len (pa_cons (pv 7) pa_nil)) (pa_cons (pe_d D_L_fraction (hr.mono (by omega)) pass0 (pa_cons (pe_callB (r := rSum K) (cr_sum rfl) rfl T.f_sum b_sum (pa_cons (pv 6) pa_nil)) (pa_cons (pe_callB (r := Evl.rLenS K) call_len_seq rfl T.f_len b_len (pa_cons (pv 6) pa_nil)) pa_nil))) pa_nil))))) pa_nil))))) (pss_one (ps_ret pe_bl)) pss_nil) (pss_cons (ps_if (pt_not (pt_val (pe_d D_L_same (hr.mono (by omega)) pass0 (pa_cons (pe_lc (own := [("_law_k", 11)]) (g := (gName 11)) rfl sc_L_asked_right.nd (pi_range1 rfl T.f_range (pa_cons (pe_callB (r := Evl.rLenS K) call_len_seq rfl T.f_len b_len (pa_cons (pv 7) pa_nil)) pa_nil)) (blkOk_by (own := [("_law_k", 11)]) (N := n_L_asked_right) (sc := (defScope s_L_asked_right)) (by decide +kernel)) (fun _ _ _ _ _ => (by exact (pg_name (i := 11) sc_L_asked_right.nd rfl (Or.inl rfl)))) (fun _ _ _ _ _ => pts_nil) (fun _ _ _ _ _ => (pe_md (K := K) (pv 0) T.cP M_cheapest3 (hr.mono (by omega)) passL (pa_cons (pv 11) (pa_cons (pv 2) (pa_cons (pv 3) pa_nil)))))) (pa_cons (pv 7) pa_nil))))) (pss_one (ps_ret pe_bl)) pss_nil) (pss_cons (ps_if (pt_not (pt_val (pe_d D_L_same (hr.mono (by omega)) pass0 (pa_cons (pe_d D_L_heard (hr.mono (by omega)) pass0 (pa_cons (pv 0) (pa_cons (pe_callB (r := Evl.rLenS K) call_len_seq rfl T.f_len b_len (pa_cons (pv 7) pa_nil)) (pa_cons (pv 2) (pa_cons (pv 3) pa_nil))))) (pa_cons (pe_lst (pa_cons pe_str (pa_cons (pe_callB (r := Evl.rLenS K) call_len_seq rfl T.f_len b_len (pa_cons (pv 7) pa_nil)) (pa_cons pe_bl pa_nil)))) pa_nil))))) (pss_one (ps_ret pe_bl)) pss_nil) (pss_one (ps_ret (pe_d D_L_same (hr.mono (by omega)) pass0 (pa_cons (pe_lc (own := [("_law_own", 9)]) (g := (gName 9)) rfl sc_L_asked_right.nd (pi_list (pv 5)) (blkOk_by (own := [("_law_own", 9)]) (N := n_L_asked_right) (sc := (defScope s_L_asked_right)) (by decide +kernel)) (fun _ _ _ _ _ => (by exact (pg_name (i := 9) sc_L_asked_right.nd rfl (Or.inl rfl)))) (fun _ _ _ _ _ => pts_nil) (fun _ _ _ _ _ => (pe_md (K := K) (pv 0) T.cP M_is_cheapest3 (hr.mono (by omega)) pass0 (pa_cons (pv 9) (pa_cons (pv 2) (pa_cons (pv 3) pa_nil)))))) (pa_cons (pe_lc (own := [("_law_own", 9)]) (g := (gName 9)) rfl sc_L_asked_right.nd (pi_list (pv 5)) (blkOk_by (own := [("_law_own", 9)]) (N := n_L_asked_right) (sc := (defScope s_L_asked_right)) (by decide +kernel)) (fun _ _ _ _ _ => (by exact (pg_name (i := 9) sc_L_asked_right.nd rfl (Or.inl rfl)))) (fun _ _ _ _ _ => pts_nil) (fun _ _ _ _ _ => (pe_cmpR (r := rInD K) (op_inD (hr2 hr)) (pv 9) (pv 7) (by rfl)))) pa_nil)))))))))))), ?_⟩
  -- mathematics
  have ok := tpL_ok l
  have hspan := GD_span ok hn1
  have hEspan := GD_span allT_ok hn1
  have eR := GD_inside hn1 hl.2
  have hE42 := all42 hn1 hn
  have hR42 : (GD (tpL l) 1 n).length ≤ 42 := by
    rw [eR]
    exact Nat.le_trans (List.length_filter_le _ _) hE42
  obtain ⟨m, hm⟩ : ∃ m, bestV c.pp (tpL l) 1 1 n = some m := by
    cases e : bestV c.pp (tpL l) 1 1 n with
    | none => exact absurd (bestV_none.mp e) hne
    | some m => exact ⟨m, rfl⟩
  obtain ⟨M, hM⟩ : ∃ M, bestV c.pp (tpL l) (-1) 1 n = some M := by
    cases e : bestV c.pp (tpL l) (-1) 1 n with
    | none => exact absurd (bestV_none.mp e) hne
    | some m => exact ⟨m, rfl⟩
  have hmin : ∀ m', m' ∈ (GD (tpL l) 1 n).map (price c.pp) → (∀ y, y ∈ (GD (tpL l) 1 n).map (price c.pp) → m' ≤ y) → m' = m := fun m' h1 h2 => by
    have h3 := lmin_some.mpr ⟨h1, h2⟩
    rw [← best1, hm] at h3
    exact (Option.some.inj h3).symm
  have hmax : ∀ m', m' ∈ (GD (tpL l) 1 n).map (price c.pp) → (∀ y, y ∈ (GD (tpL l) 1 n).map (price c.pp) → y ≤ m') → m' = M := fun m' h1 h2 => by
    obtain ⟨t, ht, rfl⟩ := List.mem_map.mp h1
    have h3 := (bestV_some (pp := c.pp) (tp := tpL l) (s := -1) (.inr rfl) (a := 1) (b := n) (m := price c.pp t)).mpr ⟨⟨t, ht, rfl⟩, fun u hu => by
      have := h2 _ (List.mem_map.mpr ⟨u, hu, rfl⟩)
      omega⟩
    rw [hM] at h3
    exact (Option.some.inj h3).symm
  have eB : GD (tpB c.pp (tpL l) 1) 1 n = (GD (tpL l) 1 n).filter fun t => decide (m = price c.pp t) := by
    rw [GD_best (.inl rfl) ok hn1, hm]
    refine List.filter_congr fun t _ => ?_
    rw [decide_eq_decide]
    exact ⟨fun h => Option.some.inj h, fun h => by rw [h]⟩
  have hsz : (GD (tpB c.pp (tpL l) 1) 1 n).length ≤ 42 := by
    rw [eB]
    exact Nat.le_trans (List.length_filter_le _ _) hR42
  -- pays
  refine ⟨_, rfl, pr, rfl, ⟨_, SqL.of hr1⟩, fun D1 hD1 => ?_⟩
  refine lc_map (γ := Int) (price c.pp) (src_list (mono_tr (K := K)) (SqL.of hr1) hrp) monoT_int (by omega) (fun i t x H1 hz e1 hx Ky ky => ?_) gm_name hD1 fun ys1 H1 e1 hy1 py1 => ?_
  · exact ⟨rfl, _, rfl, _, rfl, n, x, cv, t, c, rfl, hx, hspan t (List.mem_of_getElem? hz), hn, hc.ex e1, fun H2 e2 => ky _ _ e2 rfl⟩
  have ey1 := paired_int py1
  have hr2 := e1 _ _ hr1
  have hrp2 := Paired.mapP hrp fun _ _ z => mono_tr (K := K) _ _ _ _ e1 z
  -- best
  refine ⟨_, rfl, _, rfl, pr, D1, _, _, rfl, SqL.of hr2, SqL.of hy1, fun D2 hD2 => ?_⟩
  refine lc_src (γ := Tr) (fun z : Tr × Int => decide (z.2 = m)) (fun z => z.1) (src_zipL (mono_tr (K := K)) mono_int (SqL.of hr2) hrp2 (SqL.of hy1) py1) (monoT_tr (K := K)) (by rw [List.length_zip]; omega) (fun i z x H2 hz e2 hx Ky Kn ky kn => ?_) hD2 fun ys2 H2 e2 hy2 py2 => ?_
  · obtain ⟨q2, x2, y2, rfl, hq2, r1, rfl⟩ := hx
    refine gtup2 rfl hq2 ⟨rfl, ?_⟩
    refine ⟨_, rfl, _, rfl, D1, _, rfl, by rw [← ey1]; exact SqL.of (e2 _ _ hy1), by rw [List.length_map]; exact List.length_pos_iff.mpr hne, fun m' hm1 hm2 => ?_⟩
    rw [hmin m' hm1 hm2]
    refine ⟨rfl, _, rfl, ite2 (fun cc => ?_) (fun cc => ?_)⟩
    · have c1 : V.int z.2 = V.int m := of_decide_eq_true cc
      injection c1 with c2
      exact ⟨_, rfl, ky (decide_eq_true c2) _ _ (exr _) r1⟩
    · have c1 : ¬ V.int z.2 = V.int m := of_decide_eq_false (Bool.eq_false_iff.mpr cc)
      exact kn (decide_eq_false fun e => c1 (by rw [e])) _ (exr _)
  rw [zip_filter, ← eB] at py2
  have n2 := py2.length
  have e02 := e1.trans e2
  -- got
  have hh2 := hh.ex e02
  obtain ⟨x, dx, s0, w0, d0, rfl, hx, _⟩ := id hh2
  have meth : ∀ {H'}, Ex H2 H' → ∃ dx', H' x = some (.ins (He.ga K "Prices") dx' (hostF n s0 w0 d0)) := fun {H'} e => ⟨dx, e _ _ hx⟩
  have hlo2 := hlo.ex e02
  have hhi2 := hhi.ex e02
  refine ⟨_, rfl, x, dx, _, rfl, hx, nometh (by decide +kernel), _, rfl, _, rfl, n, lo, hi, l, _, lv, hv, c.pp, rfl, hn1, by omega, hh2, hlo2, hhi2, hl, fun H3 e3 => ?_⟩
  rw [hm]
  refine ⟨_, rfl, x, dx, _, rfl, e3 _ _ hx, nometh (by decide +kernel), _, rfl, _, rfl, n, lo, hi, l, _, lv, hv, c.pp, rfl, hn1, by omega, hh2.ex e3, hlo2.ex e3, hhi2.ex e3, hl, fun H4 e4 => ?_⟩
  rw [hM]
  have e24 := e3.trans e4
  refine ⟨_, rfl, x, dx, _, rfl, e24 _ _ hx, nometh (by decide +kernel), _, rfl, _, rfl, n, lo, hi, l, _, lv, hv, c.pp, rfl, hn1, hn, hh2.ex e24, hlo2.ex e24, hhi2.ex e24, hl, fun H5 e5 => ⟨(by show 3 ≤ sizeLine; decide), fun pg hpg => ?_⟩⟩
  have e25 := e24.trans e5
  have e6 := e25.trans (Evl.Ex.new (o := .lst [optV (some m), optV (some M), V.int (lenG (tpB c.pp (tpL l) 1) 1 n)]) hpg)
  refine ⟨_, rfl, .inl ⟨rfl, _, SqL.of upd_same⟩, ?_⟩
  refine ⟨_, rfl, x, dx, _, rfl, e6 _ _ hx, nometh (by decide +kernel), _, rfl, _, rfl, n, lo, hi, l, _, lv, hv, c.pp, rfl, hn1, hn, hh2.ex e6, hlo2.ex e6, hhi2.ex e6, hl, List.length_pos_iff.mpr hne, fun pm H7 e7 hpm => ?_⟩
  have hpg7 := e7 _ _ (upd_same (H := H5) (a := pg) (o := .lst [optV (some m), optV (some M), V.int (lenG (tpB c.pp (tpL l) 1) 1 n)]))
  refine ⟨pg, _, _, rfl, rfl, hpg7, sz_lt' (by show 3 < 100000; decide), ?_⟩
  have hpg2 : H2 pg = none := by
    cases h : H2 pg with
    | none => rfl
    | some o =>
      have := e25 _ _ h
      rw [hpg] at this
      cases this
  have e8 : Ex H2 (upd H7 pg (.lst ([optV (some m), optV (some M), V.int (lenG (tpB c.pp (tpL l) 1) 1 n)] ++ [V.ref pm]))) := Evl.Ex.mut (e6.trans e7) hpg2
  have hpm8 : (upd H7 pg (.lst ([optV (some m), optV (some M), V.int (lenG (tpB c.pp (tpL l) 1) 1 n)] ++ [V.ref pm]))) pm = _ := (upd_ne (fun e => by rw [e, hpg7] at hpm; cases hpm)).trans hpm
  subst ey1
  have hD1 : H2 D1 = some (.lst (((GD (tpL l) 1 n).map (price c.pp)).map V.int)) := e2 _ _ hy1
  have hl1 : (((GD (tpL l) 1 n).map (price c.pp)).map V.int).length = (GD (tpL l) 1 n).length := by rw [List.length_map, List.length_map]
  have hpos : 0 < (GD (tpL l) 1 n).length := List.length_pos_iff.mpr hne
  -- the four
  refine ⟨_, rfl, _, rfl, D1, _, rfl, SqL.of (e8 _ _ hD1), by rw [List.length_map]; exact hpos, fun m' h1 h2 => ?_⟩
  rw [hmin m' h1 h2]
  refine ⟨_, rfl, D1, _, rfl, SqL.of (e8 _ _ hD1), by rw [List.length_map]; exact hpos, fun m' h1 h2 => ?_⟩
  rw [hmax m' h1 h2]
  refine ⟨_, rfl, D2, _, rfl, .inl (SqL.of (e8 _ _ hy2)), ?_⟩
  refine ⟨_, rfl, D1, _, rfl, SqL.of (e8 _ _ hD1), _, rfl, D1, _, rfl, .inl (SqL.of (e8 _ _ hD1)), _, _, rfl, by rw [hl1]; exact hpos, by rw [hl1]; omega, fun pf H9 e9 hpf => ⟨(by show 4 ≤ sizeLine; decide), fun pl hpl => ?_⟩⟩
  rw [hl1] at hpf
  have e10 := e9.trans (Evl.Ex.new (o := .lst [V.int m, V.int M, V.int (ys2.length : Int), V.ref pf]) hpl)
  have e210 := e8.trans e10
  refine ⟨_, _, .list [.int m, .int M, .int (lenG (tpB c.pp (tpL l) 1) 1 n), .tuple [.int (frac (sumG c.pp (tpL l) 1 n) (GD (tpL l) 1 n).length).1, .int (frac (sumG c.pp (tpL l) 1 n) (GD (tpL l) 1 n).length).2]], rfl,
    .lst (SqL.of (e10 _ _ upd_same)) (.cons (.int m) (.cons (.int M) (.cons (.int _) (.cons (.tup (SqT.of (e10 _ _ hpm8)) (.cons (.int _) (.cons (.int _) .nil))) .nil)))),
    .lst (SqL.of upd_same) (.cons (.int m) (.cons (.int M) (.cons (by rw [n2]; exact .int _) (.cons (.tup (SqT.of ((Evl.Ex.new (o := .lst [V.int m, V.int M, V.int (ys2.length : Int), V.ref pf]) hpl) _ _ hpf)) (.cons (.int _) (.cons (.int _) .nil))) .nil)))), ?_, fun H11 e11 => ⟨_, rfl, ifF rfl ?_⟩⟩
  · refine ⟨by show 4 < 100000; decide, fun d hd => ?_⟩
    simp only [List.mem_cons, List.not_mem_nil, or_false] at hd
    rcases hd with rfl | rfl | rfl | rfl
    · trivial
    · trivial
    · trivial
    · refine ⟨by show 2 < 100000; decide, fun d hd => ?_⟩
      simp only [List.mem_cons, List.not_mem_nil, or_false] at hd
      rcases hd with rfl | rfl <;> trivial
  have e211 := e210.trans e11
  -- each of the cheapest
  have hy2' := e211 _ _ hy2
  have hB11 : Paired (RTr K H11) ys2 (GD (tpB c.pp (tpL l) 1) 1 n) := Paired.mapP py2 fun _ _ z => mono_tr (K := K) _ _ _ _ e211 z
  refine ⟨_, rfl, D2, _, rfl, .inl (SqL.of hy2'), _, rfl, by rw [n2]; omega, by rw [n2]; omega, fun D3 hD3 => ?_⟩
  have et : ((ys2.length : Nat) : Int).toNat = (GD (tpB c.pp (tpL l) 1) 1 n).length := by rw [n2]; omega
  rw [et]
  refine lc_map (γ := Tr) (fun z : Int => (GD (tpB c.pp (tpL l) 1) 1 n).getD z.toNat (.lf 0)) src_rng (monoT_tr (K := K)) (by rw [List.length_map, List.length_range]; omega) (fun i z v H12 hz e12 hv Ky ky => ?_) gm_name hD3 fun ys3 H12 e12 hy3 py3 => ?_
  · obtain rfl : v = .int z := hv
    have hib := (List.getElem?_eq_some_iff.mp hz).1
    rw [List.length_map, List.length_range] at hib
    rw [List.getElem?_map, List.getElem?_range hib] at hz
    have hz2 : (0 : Int) + (i : Int) = z := Option.some.inj hz
    have e := e211.trans e12
    refine ⟨rfl, _, rfl, x, dx, _, rfl, e _ _ hx, nometh (by decide +kernel), _, rfl, _, rfl, _, rfl, n, z, lo, hi, _, lv, hv, c.pp, rfl, hn1, hn, hh2.ex e, hlo2.ex e, hhi2.ex e, ?_⟩
    rw [hl.1]
    have hz3 : z.toNat = i := by omega
    refine ⟨hl.2, fun t h1 h2 v H' e' r => ?_, fun bad => ?_⟩
    · refine ky v H' e' ?_
      rw [List.getD_eq_getElem?_getD, h2]
      exact r
    · exfalso
      unfold lenG at bad
      omega
  have eB3 : ((List.range (GD (tpB c.pp (tpL l) 1) 1 n).length).map fun k : Nat => (0 : Int) + (k : Int)).map (fun z : Int => (GD (tpB c.pp (tpL l) 1) 1 n).getD z.toNat (.lf 0)) = GD (tpB c.pp (tpL l) 1) 1 n := by
    refine List.ext_getElem (by rw [List.length_map, List.length_map, List.length_range]) fun j h1 h2 => ?_
    rw [List.getElem_map, List.getElem_map, List.getElem_range, List.getD_eq_getElem?_getD, show ((0 : Int) + (j : Int)).toNat = j by omega, List.getElem?_eq_getElem h2]
    rfl
  rw [eB3] at py3
  have hBht : ∀ t ∈ GD (tpB c.pp (tpL l) 1) 1 n, t.ht < 7 := fun t ht => by
    rw [eB] at ht
    have := span_ht (hspan t (List.mem_filter.mp ht).1)
    omega
  have e212 := e211.trans e12
  refine ⟨_, rfl, _, _, .list ((GD (tpB c.pp (tpL l) 1) 1 n).map Tr.tp), rfl, .lst (SqL.of hy3) (dpa_of py3), .lst (SqL.of (e212 _ _ hy2)) (dpa_of (Paired.mapP py2 fun _ _ z => mono_tr (K := K) _ _ _ _ e212 z)), sm_trs (by omega) (fun t ht => Nat.lt_of_lt_of_le (hBht t ht) (by decide)), fun H13 e13 => ⟨_, rfl, ifF rfl ?_⟩⟩
  have e213 := e212.trans e13
  refine ⟨_, rfl, _, rfl, D2, _, rfl, .inl (SqL.of (e213 _ _ hy2)), _, rfl, _, rfl, n, (ys2.length : Int), lo, hi, _, lv, hv, c.pp, rfl, hn1, hn, hh2.ex e213, hlo2.ex e213, hhi2.ex e213, (fun l' h => by rw [hl.1] at h; cases h; exact hl.2), fun v1 H14 e14 r1 => ?_⟩
  have eH : heardF n lo hi c.pp (ys2.length : Int) = .list [.str "number", .int (ys2.length : Int), .bool true] := by
    unfold heardF
    rw [hl.1]
    exact if_neg (by unfold lenG; omega)
  rw [eH] at r1
  refine ⟨_, rfl, D2, _, rfl, .inl (SqL.of (e14 _ _ (e213 _ _ hy2))), (by show 3 ≤ sizeLine; decide), fun p1 hp1 => ?_⟩
  have e15 := Evl.Ex.new (o := .lst [V.str "number", V.int (ys2.length : Int), V.bl true]) hp1
  refine ⟨_, _, _, rfl, dp_ex e15 r1, .lst (SqL.of upd_same) (.cons (.str _) (.cons (.int _) (.cons (.bl _) .nil))), ?_, fun H16 e16 => ⟨_, rfl, ifF rfl ?_⟩⟩
  · refine ⟨by show 3 < 100000; decide, fun d hd => ?_⟩
    simp only [List.mem_cons, List.not_mem_nil, or_false] at hd
    rcases hd with rfl | rfl | rfl <;> trivial
  have e216 := ((e213.trans e14).trans e15).trans e16
  have hev16 := e216 _ _ (e02 _ _ he1)
  have hevp := Paired.mapP hep fun _ _ z => mono_tr (K := K) _ _ _ _ (e02.trans e216) z
  have hem : ∀ t, t ∈ GD (tpB c.pp (tpL l) 1) 1 n ↔ (t ∈ GD allT 1 n ∧ insideF l t = true) ∧ m = price c.pp t := fun t => by
    rw [eB, List.mem_filter, eR, List.mem_filter, decide_eq_true_iff]
  refine ⟨_, rfl, pe, rfl, ⟨_, SqL.of hev16⟩, fun D4 hD4 => ?_⟩
  refine lc_map (γ := Bool) (fun t : Tr => decide (t ∈ GD (tpB c.pp (tpL l) 1) 1 n)) (src_list (mono_tr (K := K)) (SqL.of hev16) hevp) monoT_bl (by omega) (fun i t y H17 hz e17 hy Ky ky => ?_) gm_name hD4 fun ys4 H18 e18 hy4 py4 => ?_
  · have hte := List.mem_of_getElem? hz
    have hts := hEspan t hte
    have e := e216.trans e17
    refine ⟨rfl, _, rfl, x, dx, _, rfl, e _ _ hx, nometh (by decide +kernel), _, rfl, _, rfl, _, rfl, n, lo, hi, l, _, y, lv, hv, t.tp, c.pp, decide (t ∈ GD (tpB c.pp (tpL l) 1) 1 n), rfl, hn1, hn, hh2.ex e, hlo2.ex e, hhi2.ex e, hl, hy, ?_, ⟨m, hm⟩, .inr ⟨t, n, rfl, isGr_tr hts (by omega), hts, by omega, fun h => absurd rfl h, fun _ => ?_⟩, fun H' e' => ky _ _ e' rfl⟩
    · have h1 := tp_depth t
      have h2 := span_ht hts
      omega
    · rw [Bool.eq_iff_iff, decide_eq_true_iff, hem, hm, Bool.and_eq_true, decide_eq_true_iff, Option.some.injEq]
      exact ⟨fun h => ⟨h.1.2, h.2⟩, fun h => ⟨⟨hte, h.1⟩, h.2⟩⟩
  refine ⟨_, rfl, pe, rfl, ⟨_, SqL.of (e18 _ _ hev16)⟩, fun D5 hD5 => ?_⟩
  have hevp18 := Paired.mapP hevp fun _ _ z => mono_tr (K := K) _ _ _ _ e18 z
  refine lc_map (γ := Bool) (fun t : Tr => decide (t ∈ GD (tpB c.pp (tpL l) 1) 1 n)) (src_list (mono_tr (K := K)) (SqL.of (e18 _ _ hev16)) hevp18) monoT_bl (by omega) (fun i t y H19 hz e19 hy Ky ky => ?_) gm_name hD5 fun ys5 H20 e20 hy5 py5 => ?_
  · have hts := hEspan t (List.mem_of_getElem? hz)
    have h2 := span_ht hts
    have e := (e216.trans e18).trans e19
    refine ⟨rfl, _, rfl, _, rfl, t.tp, (GD (tpB c.pp (tpL l) 1) 1 n).map Tr.tp, hy, .lst (SqL.of (e _ _ hy2)) (dpa_of (Paired.mapP py2 fun _ _ z => mono_tr (K := K) _ _ _ _ e z)), shaped_tr (by omega), shaped_trs (fun u hu => by have := hBht u hu; omega), ?_⟩
    rw [any_tr]
    exact ky _ _ (exr _) rfl
  refine ⟨_, _, .list (((GD allT 1 n).map fun t => decide (t ∈ GD (tpB c.pp (tpL l) 1) 1 n)).map PyData.bool), rfl, .lst (SqL.of (e20 _ _ hy4)) (dpa_bl (paired_bl py4)), .lst (SqL.of hy5) (dpa_bl (paired_bl py5)), ?_, fun H21 e21 => ?_⟩
  · refine ⟨by rw [List.length_map, List.length_map]; omega, fun d hd => ?_⟩
    obtain ⟨b, _, rfl⟩ := List.mem_map.mp hd
    trivial
  exact q _ (((e02.trans (e216.trans e18)).trans e20).trans e21)
end RG

set_option Elab.async false
set_option linter.all false
set_option maxRecDepth 100000
set_option maxHeartbeats 1000000
namespace RG
open PySem PySem.Spec PyProof.Rows L2
variable {P : Program} {w : World} {K : PySem.W.Frag} {mg : Str → Option Value} {base : Heap}
/-! ### right -/
theorem HostAt.box {b : Addr} {m n : Nat} {H H' : Hp} {v : V} {pp : Nat → Nat → Nat → Int} (e : ExB b H H') (hb : BoxAt H b m) (h : HostAt K H v n pp) : HostAt K H' v n pp := by
  obtain ⟨ys, hy⟩ := hb.lst
  obtain ⟨x, dx, s, w, d, h1, h2, ⟨p, kvs, h3, h4, h5⟩⟩ := h
  exact ⟨x, dx, s, w, d, h1, e _ _ (fun z => by rw [z, hy] at h2; cases h2) h2, p, kvs, h3, e _ _ (fun z => by rw [z, hy] at h4; cases h4) h4, h5⟩
theorem CostAt.box {b : Addr} {m n : Nat} {H H' : Hp} {v : V} {c : Costs} (e : ExB b H H') (hb : BoxAt H b m) (h : CostAt K H v n c) : CostAt K H' v n c := by
  obtain ⟨ys, hy⟩ := hb.lst
  obtain ⟨p, sv, wv, bv, h1, h2, h3, h4, ⟨q, vs, h5, h6, h7, h8⟩⟩ := h
  exact ⟨p, sv, wv, bv, h1, sqt_exb e hy h2, h3.box e hb, h4.box e hb, q, vs, h5, sqt_exb e hy h6, Paired.mapP h7 fun v z ⟨r, g1, g2⟩ => ⟨r, g1, e _ _ (fun z => by rw [z, hy] at g2; cases g2) g2⟩, h8⟩
def OpD (K : PySem.W.Frag) (H : Hp) (v : V) : Option Tr → Prop
  | none => v = .non
  | some t => RTr K H v t
theorem OpD.box {b : Addr} {m : Nat} {H H' : Hp} {v : V} {o : Option Tr} (e : ExB b H H') (hb : BoxAt H b m) (h : OpD K H v o) : OpD K H' v o := by
  obtain ⟨ys, hy⟩ := hb.lst
  cases o with
  | none => exact h
  | some t => exact RTr.exb e hy h
theorem OpD.ex {H H' : Hp} {v : V} {o : Option Tr} (e : Ex H H') (h : OpD K H v o) : OpD K H' v o := by
  cases o with
  | none => exact h
  | some t => exact mono_tr (K := K) _ _ _ _ e h
theorem tr_non {H : Hp} {t : Tr} (h : RTr K H .non t) : False := by
  cases t <;> cases h
theorem OpD.op {n : Nat} {H : Hp} {v : V} {o : Option Tr} (hn : n ≤ 6) (hs : OpS n o) (h : OpD K H v o) : OpT K H v o := by
  cases o with
  | none => exact h
  | some t =>
    have h1 := span_ht (show Span t 1 n from hs)
    have h2 := span_len (show Span t 1 n from hs)
    exact ⟨trm_tp h, by omega, by omega⟩
theorem pair_exb {b : Addr} {m : Nat} {H H' : Hp} {vs : List V} {l : List Tr} (e : ExB b H H') (hb : BoxAt H b m) (p : Paired (RTr K H) vs l) : Paired (RTr K H') vs l := by
  obtain ⟨ys, hy⟩ := hb.lst
  exact Paired.mapP p fun _ _ z => RTr.exb e hy z
theorem GD_pos {n : Nat} (hn : 1 ≤ n) : 0 < (GD allT 1 n).length := by
  obtain ⟨t, ht⟩ := some_tree (n - 1) 1 n hn (Nat.le_refl _)
  exact List.length_pos_iff.mpr fun e => by
    have := span_mem ht
    rw [e] at this
    cases this
def spRight (K : PySem.W.Frag) : Sp := fun vs H Q _ => ∃ (b : Addr), vs = [.ref b] ∧ BoxAt H b 160 ∧ ∀ H', ExB b H H' → Q (.bl true) H'
theorem ok_right (T : Txt K mg) (D_L_take : DefOk P w K mg base CX0 "_law_take" p_L_take 1 spTake) (D_L_costs : DefOk P w K mg base CX0 "_law_costs" p_L_costs 3 (spCosts K)) (D_L_every : DefOk P w K mg base CX0 "_law_every" p_L_every 6 (spEvery K 6))
    (D_L_host : DefOk P w K mg base CX0 "_law_host" p_L_host 5 (spHost K)) (D_L_of : DefOk P w K mg base CX0 "_law_of" p_L_of 2 (spOne K)) (D_L_goes : DefOk P w K mg base CX0 "_law_goes" p_L_goes 12 (spGoes K)) (D_L_same : DefOk P w K mg base CX0 "_law_same" p_L_same 10 (spSame K 10))
    (D_L_heard : DefOk P w K mg base CX0 "_law_heard" p_L_heard 41 (spHeard K)) (D_L_mixed : DefOk P w K mg base CX0 "_law_mixed" p_L_mixed 9 (spMixed K 8)) (D_L_asked_right : DefOk P w K mg base CX0 "_law_asked_right" p_L_asked_right 43 (spAsked K)) : DefOk P w K mg base CX0 "_law_right" p_L_right 44 (spRight K) := by
  obtain ⟨fd, F⟩ := T.F_L_right
  refine ⟨⟨_, fd, T.g_L_right, F.kp, F.bindsN (ps := p_L_right) (fun _ _ _ _ _ _ us hl => match us, hl with | [_], _ => rfl), F.ok sc_L_right (fun vs H Q E h => ?_) fun cdv A outer s H vs Q E hr h => ?_⟩⟩
  · obtain ⟨b, rfl, _⟩ := h
    rfl
  obtain ⟨b, rfl, hb, q⟩ := h
  refine ⟨_, PSs.nox (pss_cons (ps_for PassesOwn.never rfl (pi_range1 rfl T.f_range (pa_cons pe_int pa_nil)) (pg_name (i := 1) sc_L_right.nd rfl (Or.inl rfl)) (pss_cons (ps_set (i := 2) sc_L_right.nd rfl (Or.inl rfl) (pe_op op_add pe_int (pe_d D_L_take (hr.mono (by omega)) pass0 (pa_cons (pv 0) (pa_cons pe_int pa_nil))))) (pss_cons (ps_par (i := 3) (j := 4) rfl sc_L_right.nd rfl rfl (by decide) rfl rfl (pa_cons (pe_d D_L_costs (hr.mono (by omega)) pass0 (pa_cons (pv 0) (pa_cons (pv 2) pa_nil))) (pa_cons (pe_d D_L_every (hr.mono (by omega)) pass0 (pa_cons pe_int (pa_cons (pv 2) pa_nil))) pa_nil)) (by rfl)) (pss_cons (ps_set (i := 5) sc_L_right.nd rfl (Or.inl rfl) (pe_d D_L_host (hr.mono (by omega)) pass0 (pa_cons (pv 2) (pa_cons (pv 3) pa_nil)))) (pss_cons (ps_set (i := 6) sc_L_right.nd rfl (Or.inr rfl) (pe_ifExp (pt_cmpR op_gt (pe_d D_L_take (hr.mono (by omega)) pass0 (pa_cons (pv 0) (pa_cons pe_int pa_nil))) pe_int (nomark _)) (pe_d D_L_of (hr.mono (by omega)) pass0 (pa_cons (pv 0) (pa_cons (pv 4) pa_nil))) pe_non)) (pss_cons (ps_set (i := 7) sc_L_right.nd rfl (Or.inr rfl) (pe_ifExp (pt_cmpR op_gt (pe_d D_L_take (hr.mono (by omega)) pass0 (pa_cons (pv 0) (pa_cons pe_int pa_nil))) pe_int (nomark _)) (pe_d D_L_of (hr.mono (by omega)) pass0 (pa_cons (pv 0) (pa_cons (pv 4) pa_nil))) pe_non)) (pss_cons (ps_setLc (i := 8) (own := [("_law_own", 9)]) (g := (gName 9)) rfl sc_L_right.nd rfl rfl (sw_true rfl rfl rfl (by decide +kernel)) (pi_list (pv 4)) (blkOk_by (own := [("_law_own", 9)]) (N := n_L_right) (sc := (defScope s_L_right)) (by decide +kernel)) (fun _ _ _ _ _ => (by exact (pg_name (i := 9) sc_L_right.nd rfl (Or.inl rfl)))) (fun _ _ _ _ _ => (pts_one (PW.pt (pw_or (pt_cmpR op_isN (pv 6) pe_non (nomark _)) (pw_or1 (pt_val (pe_d D_L_goes (hr.mono (by omega)) pass0 (pa_cons (pv 6) (pa_cons (pv 9) pa_nil))))))))) (fun _ _ _ _ _ => (pv 9))) (pss_cons (ps_setLc (i := 8) (own := [("_law_own", 9)]) (g := (gName 9)) rfl sc_L_right.nd rfl rfl (sw_true rfl rfl rfl (by decide +kernel)) (pi_list (pv 8)) (blkOk_by (own := [("_law_own", 9)]) (N := n_L_right) (sc := (defScope s_L_right)) (by decide +kernel)) (fun _ _ _ _ _ => (by exact (pg_name (i := 9) sc_L_right.nd rfl (Or.inl rfl)))) (fun _ _ _ _ _ => (pts_one (PW.pt (pw_or (pt_cmpR op_isN (pv 7) pe_non (nomark _)) (pw_or1 (pt_val (pe_d D_L_goes (hr.mono (by omega)) pass0 (pa_cons (pv 9) (pa_cons (pv 7) pa_nil))))))))) (fun _ _ _ _ _ => (pv 9))) (pss_one (ps_if (pt_cmpR (r := rEqD K) (op_eqD (hu64 hr)) (pv 8) (pe_lst pa_nil) (nomark _)) (pss_one (ps_if (pt_not (pt_val (pe_d D_L_same (hr.mono (by omega)) pass0 (pa_cons (pe_d D_L_heard (hr.mono (by omega)) pass0 (pa_cons (pv 5) (pa_cons pe_int (pa_cons (pv 6) (pa_cons (pv 7) pa_nil))))) (pa_cons (pe_lst (pa_cons pe_str (pa_cons pe_bl pa_nil))) pa_nil))))) (pss_one (ps_ret pe_bl)) pss_nil)) (pss_one (ps_if (pt_not (pt_val (pe_d D_L_asked_right (hr.mono (by omega)) pass0 (pa_cons (pv 5) (pa_cons (pv 3) (pa_cons (pv 6) (pa_cons (pe_d D_L_mixed (hr.mono (by omega)) pass0 (pa_cons (pv 0) (pa_cons (pv 7) pa_nil))) (pa_cons (pv 8) (pa_cons (pv 4) pa_nil))))))))) (pss_one (ps_ret pe_bl)) pss_nil)))))))))))) (pss_one (ps_ret pe_bl))), ?_⟩
  refine ⟨4, rfl, by decide, by decide, ?_⟩
  rw [show ((4 : Int)).toNat = 4 from rfl]
  refine for_range (fun i σ H' => ExB b H H' ∧ BoxAt H' b (40 * (4 - i)) ∧ ∃ y1 y2 y3 y4 y5 y6 y7 y8 y9, σ = [some (.ref b), y1, y2, y3, y4, y5, y6, y7, y8, y9]) ⟨.refl, hb, _, _, _, _, _, _, _, _, _, rfl⟩ ?_ ?_
  rotate_left
  · rintro σ H' ⟨e, _, y1, y2, y3, y4, y5, y6, y7, y8, y9, rfl⟩
    exact q _ e
  rintro i σ H0 hi ⟨e0, b0, y1, y2, y3, y4, y5, y6, y7, y8, y9, rfl⟩
  obtain ⟨m, hm⟩ : ∃ m, 40 * (4 - i) = m + 40 := ⟨40 * (4 - i) - 40, by omega⟩
  have hm2 : m = 40 * (4 - (i + 1)) := by omega
  rw [hm] at b0
  rw [← hm2]
  refine ⟨_, rfl, b, 6, m + 39, rfl, by decide, by decide, b0, fun r1 H1 hr1 e1 b1 => ?_⟩
  refine ⟨_, _, rfl, rfl, ?_⟩
  dsimp only [gName]
  rw [show (1 : Int) + (r1 : Int) = ((r1 + 1 : Nat) : Int) by omega]
  obtain ⟨n, hn0⟩ : ∃ n, n = r1 + 1 := ⟨_, rfl⟩
  rw [← hn0]
  have hn1 : 1 ≤ n := by omega
  have hn : n ≤ 6 := by omega
  refine ⟨_, rfl, _, rfl, b, n, m + 14, rfl, hn1, hn, b1, fun cv c H2 e2 b2 hc2 => ?_⟩
  refine ⟨_, rfl, 1, n, rfl, by decide, hn1, hn, by omega, fun pe ve H3 e3 hpe2 hpe hep3 => ?_⟩
  have hpb : pe ≠ b := b2.new hpe2
  have b3 := b2.ex e3
  refine ⟨_, _, rfl, ?_⟩
  have hc3 := hc2.ex e3
  refine ⟨_, rfl, _, rfl, n, cv, c, rfl, hn, hc3, fun sv H4 e4 hh4 => ?_⟩
  have b4 := b3.ex e4
  have hc4 := hc3.ex e4
  have hpe4 := e4 _ _ hpe
  have hep4 := Paired.mapP hep3 fun _ _ z => mono_tr (K := K) _ _ _ _ e4 z
  have hvl : ve.length = (GD allT 1 n).length := hep3.length
  have h42 := all42 hn1 hn
  have hpos := GD_pos hn1
  dsimp only [gName, tSeq, tAsg]
  refine teCut (fun v H' => ExB b H4 H' ∧ BoxAt H' b (m + 12) ∧ ∃ o, OpD K H' v o ∧ OpS n o) (fun Q' k2 => ?_) ?_
  · refine ⟨_, rfl, b, 3, m + 13, rfl, by decide, by decide, b4, fun r H5 hr e5 b5 => ⟨_, _, rfl, rfl, _, rfl, ite2 (fun c => ?_) (fun c => ?_)⟩⟩
    · refine ⟨_, rfl, _, rfl, b, pe, ve, m + 12, rfl, hpb, SqL.of (e5 _ _ hpb hpe4), by omega, by omega, b5, fun j v H6 hj e6 b6 => ?_⟩
      obtain ⟨t, ht, hr⟩ := paired_get (pair_exb (e5.trans e6) b4 hep4) hj
      exact k2 _ _ ⟨e5.trans e6, b6, some t, hr, GD_span allT_ok hn1 t (List.mem_of_getElem? ht)⟩
    · exact k2 _ _ ⟨e5, b5.le (by omega), none, rfl, trivial⟩
  rintro lv H5 ⟨e5, b5, lo, hlo5, hsl⟩
  refine teCut (fun v H' => ExB b H5 H' ∧ BoxAt H' b (m + 10) ∧ ∃ o, OpD K H' v o ∧ OpS n o) (fun Q' k2 => ?_) ?_
  · refine ⟨_, rfl, b, 2, m + 11, rfl, by decide, by decide, b5, fun r H6 hr e6 b6 => ⟨_, _, rfl, rfl, _, rfl, ite2 (fun c => ?_) (fun c => ?_)⟩⟩
    · refine ⟨_, rfl, _, rfl, b, pe, ve, m + 10, rfl, hpb, SqL.of (e6 _ _ hpb (e5 _ _ hpb hpe4)), by omega, by omega, b6, fun j v H7 hj e7 b7 => ?_⟩
      obtain ⟨t, ht, hr⟩ := paired_get (pair_exb ((e5.trans e6).trans e7) b4 hep4) hj
      exact k2 _ _ ⟨e6.trans e7, b7, some t, hr, GD_span allT_ok hn1 t (List.mem_of_getElem? ht)⟩
    · exact k2 _ _ ⟨e6, b6.le (by omega), none, rfl, trivial⟩
  rintro hv H6 ⟨e6, b6, hi2, hhi6, hsh⟩
  have e46 := e5.trans e6
  have hlo6 := hlo5.box e6 b5
  have hc6 := hc4.box e46 b4
  have hh6 := hh4.box e46 b4
  have hpe6 := e46 _ _ hpb hpe4
  have hep6 := pair_exb e46 b4 hep4
  -- rows
  refine ⟨_, rfl, pe, rfl, ⟨_, SqL.of hpe6⟩, fun D1 hD1 => ?_⟩
  refine lc_src (γ := Tr) (okLow lo) id (src_list (mono_tr (K := K)) (SqL.of hpe6) hep6) (monoT_tr (K := K)) (by omega) (fun i t x H7 hz e7 hx Ky Kn ky kn => ?_) hD1 fun ys1 H7 e7 hy1 py1 => ?_
  · have hts := GD_span allT_ok hn1 t (List.mem_of_getElem? hz)
    have h1 := span_ht hts
    have h2 := span_len hts
    refine ⟨rfl, _, rfl, rfl, _, rfl, ite2 (fun c => ?_) (fun c => ?_)⟩
    · have c1 : lv = V.non := of_decide_eq_true c
      cases lo with
      | some u => exact (tr_non (K := K) (c1 ▸ hlo6)).elim
      | none => exact iteT ⟨_, rfl, ky rfl _ _ (exr _) hx⟩
    · have c1 : ¬ lv = V.non := of_decide_eq_false (Bool.eq_false_iff.mpr c)
      cases lo with
      | none => exact absurd hlo6 c1
      | some u =>
        have h3 := span_ht (show Span u 1 n from hsl)
        have h4 := span_len (show Span u 1 n from hsl)
        refine ⟨_, rfl, _, rfl, _, _, u, t, rfl, mono_tr (K := K) _ _ _ _ e7 hlo6, hx, by omega, by omega, by omega, by omega, fun H' e' => ⟨_, rfl, ite2 (fun cc => ?_) (fun cc => ?_)⟩⟩
        · exact ⟨_, rfl, ky cc _ _ e' (mono_tr (K := K) _ _ _ _ e' hx)⟩
        · exact kn (Bool.eq_false_iff.mpr cc) _ e'
  rw [List.map_id] at py1
  have e07 := e46.trans (ExB.of e7)
  have b7 := b6.ex e7
  have n1 := py1.length
  have m1 : ((GD allT 1 n).filter (okLow lo)).length ≤ 42 := Nat.le_trans (List.length_filter_le _ _) h42
  have hlo7 := hlo6.ex e7
  have hhi7 := hhi6.ex e7
  refine ⟨_, rfl, D1, rfl, ⟨_, SqL.of hy1⟩, fun D2 hD2 => ?_⟩
  refine lc_src (γ := Tr) (okHigh hi2) id (src_list (mono_tr (K := K)) (SqL.of hy1) py1) (monoT_tr (K := K)) (by omega) (fun i t x H8 hz e8 hx Ky Kn ky kn => ?_) hD2 fun ys2 H8 e8 hy2 py2 => ?_
  · have hts := GD_span allT_ok hn1 t (List.mem_filter.mp (List.mem_of_getElem? hz)).1
    have h1 := span_ht hts
    have h2 := span_len hts
    refine ⟨rfl, _, rfl, rfl, _, rfl, ite2 (fun c => ?_) (fun c => ?_)⟩
    · have c1 : hv = V.non := of_decide_eq_true c
      cases hi2 with
      | some u => exact (tr_non (K := K) (c1 ▸ hhi6)).elim
      | none => exact iteT ⟨_, rfl, ky rfl _ _ (exr _) hx⟩
    · have c1 : ¬ hv = V.non := of_decide_eq_false (Bool.eq_false_iff.mpr c)
      cases hi2 with
      | none => exact absurd hhi6 c1
      | some u =>
        have h3 := span_ht (show Span u 1 n from hsh)
        have h4 := span_len (show Span u 1 n from hsh)
        refine ⟨_, rfl, _, rfl, _, _, t, u, rfl, hx, mono_tr (K := K) _ _ _ _ e8 hhi7, by omega, by omega, by omega, by omega, fun H' e' => ⟨_, rfl, ite2 (fun cc => ?_) (fun cc => ?_)⟩⟩
        · exact ⟨_, rfl, ky cc _ _ e' (mono_tr (K := K) _ _ _ _ e' hx)⟩
        · exact kn (Bool.eq_false_iff.mpr cc) _ e'
  rw [List.map_id] at py2
  have py2 : Paired (RTr K H8) ys2 (lawRows n lo hi2) := py2
  have e68 := (ExB.of (x := b) e7).trans (ExB.of e8)
  have b8 := b7.ex e8
  have hlo8 := hlo7.ex e8
  have hhi8 := hhi7.ex e8
  have hc8 := hc6.box e68 b6
  have hh8 := hh6.box e68 b6
  have hpe8 := e68 _ _ hpb hpe6
  have hep8 := pair_exb e68 b6 hep6
  have hD2b : D2 ≠ b := b7.new hD2
  have m2 : (lawRows n lo hi2).length ≤ 42 := Nat.le_trans (List.length_filter_le _ _) m1
  have hrows := lawRows_eq hsl hsh hn1
  have hht : ∀ t ∈ lawRows n lo hi2, t.ht ≤ 20 := fun t ht => by
    have := span_ht (GD_span allT_ok hn1 t (List.mem_filter.mp (List.mem_filter.mp ht).1).1)
    omega
  -- rows == []
  refine ⟨_, rfl, (by show 0 ≤ sizeLine; decide), fun p hp => ?_⟩
  have e9 := Evl.Ex.new (o := .lst []) hp
  refine ⟨.list ((lawRows n lo hi2).map Tr.tp), .list [], .lst (SqL.of (e9 _ _ hy2)) (dpa_of (Paired.mapP py2 fun _ _ z => mono_tr (K := K) _ _ _ _ e9 z)), .lst (SqL.of upd_same) .nil, shaped_trs hht, rfl, _, rfl, ?_⟩
  have b9 := b8.ex e9
  have e09 : ExB b H (upd H8 p (.lst [])) := (((((e0.trans e1).trans e2).trans (ExB.of (e3.trans e4))).trans e46).trans e68).trans (ExB.of e9)
  have hlo9 := (hlo8.ex e9).op hn hsl
  have hhi9 := (hhi8.ex e9).op hn hsh
  have hh9 := hh8.ex e9
  rcases lim_cases hsl hsh hn1 with ⟨k1, k2⟩ | ⟨k1, k2⟩
  · rw [k2]
    refine ifT rfl ?_
    refine ⟨_, rfl, _, rfl, _, rfl, n, 0, lo, hi2, sv, lv, hv, c.pp, rfl, hn1, hn, hh9, hlo9, hhi9, (fun l h => by rw [k1] at h; cases h), fun v1 H10 e10 r1 => ?_⟩
    have eH : heardF n lo hi2 c.pp 0 = .list [.str "behind", .bool true] := by
      unfold heardF
      rw [k1]
    rw [eH] at r1
    refine ⟨(by show 2 ≤ sizeLine; decide), fun p1 hp1 => ?_⟩
    have e11 := Evl.Ex.new (o := .lst [V.str "behind", V.bl true]) hp1
    refine ⟨_, _, _, rfl, dp_ex e11 r1, .lst (SqL.of upd_same) (.cons (.str _) (.cons (.bl _) .nil)), ?_, fun H16 e16 => ⟨_, rfl, ifF rfl ?_⟩⟩
    · refine ⟨by show 2 < 100000; decide, fun d hd => ?_⟩
      simp only [List.mem_cons, List.not_mem_nil, or_false] at hd
      rcases hd with rfl | rfl <;> trivial
    exact ⟨e09.trans (ExB.of ((e10.trans e11).trans e16)), (((b9.ex e10).ex e11).ex e16).le (by omega), _, _, _, _, _, _, _, _, _, rfl⟩
  · refine ifF (by cases hq : lawRows n lo hi2 with | nil => exact absurd hq k2 | cons t l => rfl) ?_
    have hc9 := hc8.ex e9
    have hlen := rows_len hsl hsh hn1
    have hpe9 := e9 _ _ hpe8
    have hep9 := Paired.mapP hep8 fun _ _ z => mono_tr (K := K) _ _ _ _ e9 z
    have hy9 := e9 _ _ hy2
    have py9 := Paired.mapP py2 fun _ _ z => mono_tr (K := K) _ _ _ _ e9 z
    rw [hrows] at k2 py9
    have fin : ∀ (hv' : V) H' (Q' : VK), ExB b (upd H8 p (.lst [])) H' → BoxAt H' b m → OpT K H' hv' hi2 → (∀ H'', Ex H' H'' → Q' (.bl true) H'') → spAsked K [sv, cv, lv, hv', .ref D2, .ref pe] H' Q' E0 := fun hv' H' Q' e b' ho k => by
      obtain ⟨ys, hys⟩ := b9.lst
      exact ⟨n, lo, hi2, _, sv, cv, lv, hv', D2, pe, c, ys2, ve, rfl, hn1, hn, hh9.box e b9, hc9.box e b9, ((hlo8.ex e9).box e b9).op hn hsl, ho, ⟨k1, hlen⟩, e _ _ hD2b hy9, pair_exb e b9 py9, k2, e _ _ hpb hpe9, pair_exb e b9 hep9, k⟩
    refine ⟨_, rfl, _, rfl, _, rfl, _, rfl, _, rfl, b, hv, m, rfl, by decide, ?_⟩
    cases hi2 with
    | none =>
      refine .inl ⟨hhi8, fun H10 e10 => ?_⟩
      refine ⟨_, rfl, _, rfl, ?_⟩
      dsimp only [tNil]
      refine fin _ H10 _ (ExB.of e10) ((b9.ex e10).le (by omega)) rfl fun H11 e11 => ⟨_, rfl, ifF rfl ?_⟩
      exact ⟨e09.trans (ExB.of (e10.trans e11)), ((b9.ex e10).ex e11).le (by omega), _, _, _, _, _, _, _, _, _, rfl⟩
    | some u =>
      have g1 := span_ht (show Span u 1 n from hsh)
      have g2 := span_len (show Span u 1 n from hsh)
      refine .inr ⟨u, mono_tr (K := K) _ _ _ _ e9 hhi8, by omega, b9.le (by omega), fun v' H10 e10 b10 t10 => ?_⟩
      refine ⟨_, rfl, _, rfl, ?_⟩
      dsimp only [tNil]
      refine fin _ H10 _ e10 b10 ⟨t10, by omega, by omega⟩ fun H11 e11 => ⟨_, rfl, ifF rfl ?_⟩
      exact ⟨(e09.trans e10).trans (ExB.of e11), b10.ex e11, _, _, _, _, _, _, _, _, _, rfl⟩
end RG

set_option Elab.async false
set_option linter.all false
set_option maxRecDepth 100000
set_option maxHeartbeats 1000000
namespace RG
open PySem PySem.Spec PyProof.Rows L2
variable {P : Program} {w : World} {K : PySem.W.Frag} {mg : Str → Option Value} {base : Heap}
/-! ### law -/
def spHand : Sp := fun vs H Q _ => vs = [] ∧ ∀ H', Ex H H' → Q (.bl true) H'
def spLaw (K : PySem.W.Frag) : Sp := fun vs H Q _ => ∃ (p : Addr) (ns : List Int), vs = [.ref p] ∧ SqL K H p (ns.map V.int) ∧ ∀ H', Q (.bl true) H'
theorem ok_law (T : Txt K mg) {fd : FuncData} (F : FunD K "law" "law" (defArgs s_law) (defBody s_law) (defScope s_law) (d_law.dvs K) (d_law.kws K) (He.fAd K ("law", none)) fd) (D_L_by_hand_right : DefOk P w K mg base CX0 "_law_by_hand_right" p_L_by_hand_right 45 spHand) (D_L_cells : DefOk P w K mg base CX0 "_law_cells" p_L_cells 1 (spCells K)) (D_L_box : DefOk P w K mg base CX0 "_law_box" p_L_box 1 (spBox K)) (D_L_right : DefOk P w K mg base CX0 "_law_right" p_L_right 44 (spRight K)) : FnOk P w K mg base CX0 46 (He.fAd K ("law", none)) fd p_law (spLaw K) := by
  refine F.ok sc_law (fun vs H Q E h => ?_) fun cdv A outer s H vs Q E hr h => ?_
  · obtain ⟨p, ns, rfl, _⟩ := h
    rfl
  obtain ⟨p, ns, rfl, hp, q⟩ := h
  refine ⟨_, PSs.nox (pss_cons (ps_if (pt_not (pt_val (pe_d0 D_L_by_hand_right (hr.mono (by omega)) pass0))) (pss_one (ps_ret pe_bl)) pss_nil) (pss_cons (ps_set (i := 1) sc_law.nd rfl (Or.inr rfl) (pe_d D_L_cells (hr.mono (by omega)) pass0 (pa_cons (pv 0) (pa_cons pe_int pa_nil)))) (pss_one (ps_ret (pe_callB (r := rAll K) (cr_all rfl) rfl T.f_all b_all (pa_cons (pe_lc (own := [("_law_k", 2)]) (g := (gName 2)) rfl sc_law.nd (pi_range1 rfl T.f_range (pa_cons (pe_callB (r := Evl.rLenS K) call_len_seq rfl T.f_len b_len (pa_cons (pv 1) pa_nil)) pa_nil)) (blkOk_by (own := [("_law_k", 2)]) (N := n_law) (sc := (defScope s_law)) (by decide +kernel)) (fun _ _ _ _ _ => (by exact (pg_name (i := 2) sc_law.nd rfl (Or.inl rfl)))) (fun _ _ _ _ _ => pts_nil) (fun _ _ _ _ _ => (pe_d D_L_right (hr.mono (by omega)) pass0 (pa_cons (pe_d D_L_box (hr.mono (by omega)) pass0 (pa_cons (pv 1) (pa_cons (pv 2) pa_nil))) pa_nil)))) pa_nil)))))), ?_⟩
  refine ⟨rfl, fun H0 e0 => ⟨_, rfl, ifF rfl ?_⟩⟩
  refine ⟨_, rfl, p, ns, rfl, Evl.ex_l e0 hp, fun c ms H1 e1 hc h1 h3 => ?_⟩
  have hl : (List.map V.int ms).length = ms.length := List.length_map _
  refine ⟨_, rfl, c, _, rfl, .inl (SqL.of hc), _, rfl, by omega, by omega, fun D hD => ?_⟩
  have et : (((List.map V.int ms).length : Nat) : Int).toNat = ms.length := by omega
  rw [et]
  refine lc_map (γ := Bool) (fun _ : Int => true) src_rng monoT_bl (by rw [List.length_map, List.length_range]; omega) (fun i z v H2 hz e2 hv Ky ky => ?_) gm_name hD fun ys H2 e2 hy py => ?_
  · obtain rfl : v = .int z := hv
    have hib := (List.getElem?_eq_some_iff.mp hz).1
    rw [List.length_map, List.length_range] at hib
    rw [List.getElem?_map, List.getElem?_range hib] at hz
    have hz2 : (0 : Int) + (i : Int) = z := Option.some.inj hz
    rw [Int.zero_add] at hz2
    subst hz2
    refine ⟨rfl, _, rfl, _, rfl, c, ms, i, rfl, SqL.of (e2 _ _ hc), fun b H3 hb e3 b3 => ⟨b, rfl, b3.le (by decide), fun H4 e4 => ky _ _ (fun z o h => ?_) rfl⟩⟩
    exact e4 _ _ (fun e => by rw [e, hb] at h; cases h) (e3 _ _ h)
  refine ⟨D, _, rfl, by rw [← paired_bl py]; exact SqL.of hy, ?_⟩
  have ea : (((List.range ms.length).map fun k : Nat => (0 : Int) + (k : Int)).map fun _ : Int => true).all id = true := by
    rw [List.all_eq_true]
    intro x hx
    obtain ⟨_, _, rfl⟩ := List.mem_map.mp hx
    rfl
  rw [ea]
  exact q _
end RG

set_option Elab.async false
set_option linter.all false
set_option maxRecDepth 100000
set_option maxHeartbeats 400000
namespace RG
open PySem PySem.Spec PyProof.Rows L2
variable {P : Program} {w : World} {K : PySem.W.Frag} {mg : Str → Option Value} {base : Heap}
/-! ### the methods as they are called with all their arguments -/
theorem m_greatest2 (T : Txt K mg) (h : ∃ fd, FunD K "greatest" "Prices.greatest" (defArgs s_P_greatest) (defBody s_P_greatest) (defScope s_P_greatest) (d_P_greatest.dvs K) (d_P_greatest.kws K) (He.fAd K ("Prices", some "greatest")) fd ∧ FnOk P w K mg base CX0 39 (He.fAd K ("Prices", some "greatest")) fd p_P_greatest (spEnd K (-1))) :
    MetOk P w K mg base CX0 "greatest" p_P_greatest [] 39 (spEnd K (-1)) := by
  obtain ⟨fd, F, G⟩ := h
  obtain ⟨ds, hv, hb⟩ := F.binds1 (ps := p_P_greatest) 3 2 (by intro h; cases h) rfl (fun T kV doc pm an cdv ct us its l1 l2 => match us, l1, its, l2 with | [_, _, _], _, [_, _], _ => ⟨_, rfl, rfl⟩)
  exact ⟨⟨_, fd, ds, T.m_greatest, hb, hv, G⟩⟩
theorem m_how_many2 (T : Txt K mg) (h : ∃ fd, FunD K "how_many" "Prices.how_many" (defArgs s_P_how_many) (defBody s_P_how_many) (defScope s_P_how_many) (d_P_how_many.dvs K) (d_P_how_many.kws K) (He.fAd K ("Prices", some "how_many")) fd ∧ FnOk P w K mg base CX0 40 (He.fAd K ("Prices", some "how_many")) fd p_P_how_many (spHowMany K)) :
    MetOk P w K mg base CX0 "how_many" p_P_how_many [] 40 (spHowMany K) := by
  obtain ⟨fd, F, G⟩ := h
  obtain ⟨ds, hv, hb⟩ := F.binds1 (ps := p_P_how_many) 3 2 (by intro h; cases h) rfl (fun T kV doc pm an cdv ct us its l1 l2 => match us, l1, its, l2 with | [_, _, _], _, [_, _], _ => ⟨_, rfl, rfl⟩)
  exact ⟨⟨_, fd, ds, T.m_how_many, hb, hv, G⟩⟩
theorem m_mean2 (T : Txt K mg) (h : ∃ fd, FunD K "mean" "Prices.mean" (defArgs s_P_mean) (defBody s_P_mean) (defScope s_P_mean) (d_P_mean.dvs K) (d_P_mean.kws K) (He.fAd K ("Prices", some "mean")) fd ∧ FnOk P w K mg base CX0 40 (He.fAd K ("Prices", some "mean")) fd p_P_mean (spMean K)) :
    MetOk P w K mg base CX0 "mean" p_P_mean [] 40 (spMean K) := by
  obtain ⟨fd, F, G⟩ := h
  obtain ⟨ds, hv, hb⟩ := F.binds1 (ps := p_P_mean) 3 2 (by intro h; cases h) rfl (fun T kV doc pm an cdv ct us its l1 l2 => match us, l1, its, l2 with | [_, _, _], _, [_, _], _ => ⟨_, rfl, rfl⟩)
  exact ⟨⟨_, fd, ds, T.m_mean, hb, hv, G⟩⟩
theorem m_cheapest3 (T : Txt K mg) (h : ∃ fd, FunD K "cheapest" "Prices.cheapest" (defArgs s_P_cheapest) (defBody s_P_cheapest) (defScope s_P_cheapest) (d_P_cheapest.dvs K) (d_P_cheapest.kws K) (He.fAd K ("Prices", some "cheapest")) fd ∧ FnOk P w K mg base (L2.CX P w) 40 (He.fAd K ("Prices", some "cheapest")) fd p_P_cheapest (spCheapest K)) :
    MetOk P w K mg base (L2.CX P w) "cheapest" p_P_cheapest [] 40 (spCheapest K) ∧ MetOkR P w K mg base (L2.CX P w) "cheapest" p_P_cheapest 40 (spCheapest K) := by
  obtain ⟨fd, F, G⟩ := h
  obtain ⟨ds, hv, hb⟩ := F.binds1 (ps := p_P_cheapest) 4 3 (by intro h; cases h) rfl (fun T kV doc pm an cdv ct us its l1 l2 => match us, l1, its, l2 with | [_, _, _, _], _, [_, _, _], _ => ⟨_, rfl, rfl⟩)
  refine ⟨⟨⟨_, fd, ds, T.m_cheapest, hb, hv, G⟩⟩, ⟨⟨_, fd, T.m_cheapest, ?_, G⟩⟩⟩
  cases hv
  exact hb
theorem m_is_cheapest3 (T : Txt K mg) (h : ∃ fd, FunD K "is_cheapest" "Prices.is_cheapest" (defArgs s_P_is_cheapest) (defBody s_P_is_cheapest) (defScope s_P_is_cheapest) (d_P_is_cheapest.dvs K) (d_P_is_cheapest.kws K) (He.fAd K ("Prices", some "is_cheapest")) fd ∧ FnOk P w K mg base CX0 40 (He.fAd K ("Prices", some "is_cheapest")) fd p_P_is_cheapest (spIsCheap K)) :
    MetOk P w K mg base CX0 "is_cheapest" p_P_is_cheapest [] 40 (spIsCheap K) := by
  obtain ⟨fd, F, G⟩ := h
  obtain ⟨ds, hv, hb⟩ := F.binds1 (ps := p_P_is_cheapest) 4 2 (by intro h; cases h) rfl (fun T kV doc pm an cdv ct us its l1 l2 => match us, l1, its, l2 with | [_, _, _, _], _, [_, _], _ => ⟨_, rfl, rfl⟩)
  exact ⟨⟨_, fd, ds, T.m_is_cheapest, hb, hv, G⟩⟩
/-! with fewer of them given -/
theorem m_least0 (T : Txt K mg) (h : ∃ fd, FunD K "least" "Prices.least" (defArgs s_P_least) (defBody s_P_least) (defScope s_P_least) (d_P_least.dvs K) (d_P_least.kws K) (He.fAd K ("Prices", some "least")) fd ∧ FnOk P w K mg base CX0 39 (He.fAd K ("Prices", some "least")) fd p_P_least (spEnd K 1)) :
    MetOk P w K mg base CX0 "least" p_P_least [.non, .non] 39 (spEnd K 1) := by
  obtain ⟨fd, F, G⟩ := h
  obtain ⟨ds, hv, hb⟩ := F.binds1 (ps := p_P_least) 1 0 (by intro h; cases h) rfl (fun T kV doc pm an cdv ct us its l1 l2 => match us, l1, its, l2 with | [_], _, [_, _], _ => ⟨_, rfl, rfl⟩)
  exact ⟨⟨_, fd, ds, T.m_least, hb, hv, G⟩⟩
theorem m_greatest1 (T : Txt K mg) (h : ∃ fd, FunD K "greatest" "Prices.greatest" (defArgs s_P_greatest) (defBody s_P_greatest) (defScope s_P_greatest) (d_P_greatest.dvs K) (d_P_greatest.kws K) (He.fAd K ("Prices", some "greatest")) fd ∧ FnOk P w K mg base CX0 39 (He.fAd K ("Prices", some "greatest")) fd p_P_greatest (spEnd K (-1))) :
    MetOk P w K mg base CX0 "greatest" p_P_greatest [.non] 39 (spEnd K (-1)) := by
  obtain ⟨fd, F, G⟩ := h
  obtain ⟨ds, hv, hb⟩ := F.binds1 (ps := p_P_greatest) 2 1 (by intro h; cases h) rfl (fun T kV doc pm an cdv ct us its l1 l2 => match us, l1, its, l2 with | [_, _], _, [_, _], _ => ⟨_, rfl, rfl⟩)
  exact ⟨⟨_, fd, ds, T.m_greatest, hb, hv, G⟩⟩
theorem m_greatest0 (T : Txt K mg) (h : ∃ fd, FunD K "greatest" "Prices.greatest" (defArgs s_P_greatest) (defBody s_P_greatest) (defScope s_P_greatest) (d_P_greatest.dvs K) (d_P_greatest.kws K) (He.fAd K ("Prices", some "greatest")) fd ∧ FnOk P w K mg base CX0 39 (He.fAd K ("Prices", some "greatest")) fd p_P_greatest (spEnd K (-1))) :
    MetOk P w K mg base CX0 "greatest" p_P_greatest [.non, .non] 39 (spEnd K (-1)) := by
  obtain ⟨fd, F, G⟩ := h
  obtain ⟨ds, hv, hb⟩ := F.binds1 (ps := p_P_greatest) 1 0 (by intro h; cases h) rfl (fun T kV doc pm an cdv ct us its l1 l2 => match us, l1, its, l2 with | [_], _, [_, _], _ => ⟨_, rfl, rfl⟩)
  exact ⟨⟨_, fd, ds, T.m_greatest, hb, hv, G⟩⟩
theorem m_mean0 (T : Txt K mg) (h : ∃ fd, FunD K "mean" "Prices.mean" (defArgs s_P_mean) (defBody s_P_mean) (defScope s_P_mean) (d_P_mean.dvs K) (d_P_mean.kws K) (He.fAd K ("Prices", some "mean")) fd ∧ FnOk P w K mg base CX0 40 (He.fAd K ("Prices", some "mean")) fd p_P_mean (spMean K)) :
    MetOk P w K mg base CX0 "mean" p_P_mean [.non, .non] 40 (spMean K) := by
  obtain ⟨fd, F, G⟩ := h
  obtain ⟨ds, hv, hb⟩ := F.binds1 (ps := p_P_mean) 1 0 (by intro h; cases h) rfl (fun T kV doc pm an cdv ct us its l1 l2 => match us, l1, its, l2 with | [_], _, [_, _], _ => ⟨_, rfl, rfl⟩)
  exact ⟨⟨_, fd, ds, T.m_mean, hb, hv, G⟩⟩
theorem m_how_many0 (T : Txt K mg) (h : ∃ fd, FunD K "how_many" "Prices.how_many" (defArgs s_P_how_many) (defBody s_P_how_many) (defScope s_P_how_many) (d_P_how_many.dvs K) (d_P_how_many.kws K) (He.fAd K ("Prices", some "how_many")) fd ∧ FnOk P w K mg base CX0 40 (He.fAd K ("Prices", some "how_many")) fd p_P_how_many (spHowMany K)) :
    MetOk P w K mg base CX0 "how_many" p_P_how_many [.non, .non] 40 (spHowMany K) := by
  obtain ⟨fd, F, G⟩ := h
  obtain ⟨ds, hv, hb⟩ := F.binds1 (ps := p_P_how_many) 1 0 (by intro h; cases h) rfl (fun T kV doc pm an cdv ct us its l1 l2 => match us, l1, its, l2 with | [_], _, [_, _], _ => ⟨_, rfl, rfl⟩)
  exact ⟨⟨_, fd, ds, T.m_how_many, hb, hv, G⟩⟩
theorem m_cheapest0 (T : Txt K mg) (h : ∃ fd, FunD K "cheapest" "Prices.cheapest" (defArgs s_P_cheapest) (defBody s_P_cheapest) (defScope s_P_cheapest) (d_P_cheapest.dvs K) (d_P_cheapest.kws K) (He.fAd K ("Prices", some "cheapest")) fd ∧ FnOk P w K mg base (L2.CX P w) 40 (He.fAd K ("Prices", some "cheapest")) fd p_P_cheapest (spCheapest K)) :
    MetOk P w K mg base (L2.CX P w) "cheapest" p_P_cheapest [.int 0, .non, .non] 40 (spCheapest K) := by
  obtain ⟨fd, F, G⟩ := h
  obtain ⟨ds, hv, hb⟩ := F.binds1 (ps := p_P_cheapest) 1 0 (by intro h; cases h) rfl (fun T kV doc pm an cdv ct us its l1 l2 => match us, l1, its, l2 with | [_], _, [_, _, _], _ => ⟨_, rfl, rfl⟩)
  exact ⟨⟨_, fd, ds, T.m_cheapest, hb, hv, G⟩⟩
theorem m_cheapest1 (T : Txt K mg) (h : ∃ fd, FunD K "cheapest" "Prices.cheapest" (defArgs s_P_cheapest) (defBody s_P_cheapest) (defScope s_P_cheapest) (d_P_cheapest.dvs K) (d_P_cheapest.kws K) (He.fAd K ("Prices", some "cheapest")) fd ∧ FnOk P w K mg base (L2.CX P w) 40 (He.fAd K ("Prices", some "cheapest")) fd p_P_cheapest (spCheapest K)) :
    MetOk P w K mg base (L2.CX P w) "cheapest" p_P_cheapest [.non, .non] 40 (spCheapest K) := by
  obtain ⟨fd, F, G⟩ := h
  obtain ⟨ds, hv, hb⟩ := F.binds1 (ps := p_P_cheapest) 2 1 (by intro h; cases h) rfl (fun T kV doc pm an cdv ct us its l1 l2 => match us, l1, its, l2 with | [_, _], _, [_, _, _], _ => ⟨_, rfl, rfl⟩)
  exact ⟨⟨_, fd, ds, T.m_cheapest, hb, hv, G⟩⟩
theorem m_is_cheapest1 (T : Txt K mg) (h : ∃ fd, FunD K "is_cheapest" "Prices.is_cheapest" (defArgs s_P_is_cheapest) (defBody s_P_is_cheapest) (defScope s_P_is_cheapest) (d_P_is_cheapest.dvs K) (d_P_is_cheapest.kws K) (He.fAd K ("Prices", some "is_cheapest")) fd ∧ FnOk P w K mg base CX0 40 (He.fAd K ("Prices", some "is_cheapest")) fd p_P_is_cheapest (spIsCheap K)) :
    MetOk P w K mg base CX0 "is_cheapest" p_P_is_cheapest [.non, .non] 40 (spIsCheap K) := by
  obtain ⟨fd, F, G⟩ := h
  obtain ⟨ds, hv, hb⟩ := F.binds1 (ps := p_P_is_cheapest) 2 0 (by intro h; cases h) rfl (fun T kV doc pm an cdv ct us its l1 l2 => match us, l1, its, l2 with | [_, _], _, [_, _], _ => ⟨_, rfl, rfl⟩)
  exact ⟨⟨_, fd, ds, T.m_is_cheapest, hb, hv, G⟩⟩
end RG

set_option Elab.async false
set_option linter.all false
set_option maxRecDepth 100000
set_option maxHeartbeats 400000
namespace RG
open PySem PySem.Spec PyProof.Rows L2
variable {P : Program} {w : World} {K : PySem.W.Frag} {mg : Str → Option Value} {base : Heap}
/-! ### hosts by so many arguments, and by a word -/
abbrev InitOk (P : Program) (w : World) (K : PySem.W.Frag) (mg : Str → Option Value) (base : Heap) : Prop :=
  ∃ fd, FunD K "__init__" "Prices.__init__" (defArgs s_P_init) (defBody s_P_init) (defScope s_P_init) (d_P_init.dvs K) (d_P_init.kws K) (He.fAd K ("Prices", some "__init__")) fd ∧ FnOk P w K mg base CX0 3 (He.fAd K ("Prices", some "__init__")) fd p_P_init (spInit K)
theorem mk1 (h : InitOk P w K mg base) : MkOk P w K mg base (d_P_init.dvs K) 3 (spInit K) := by
  obtain ⟨fd, F, G⟩ := h
  obtain ⟨ds, hv, hb⟩ := F.binds1 (ps := p_P_init) 2 0 (by intro h; cases h) rfl (fun T kV doc pm an cdv ct us its l1 l2 => match us, l1, its, l2 with | [_, _], _, [_, _, _], _ => ⟨_, rfl, rfl⟩)
  exact ⟨⟨fd, ds, hb, hv, G⟩⟩
theorem mk2 (h : InitOk P w K mg base) : MkOk P w K mg base ((d_P_init.dvs K).drop 1) 3 (spInit K) := by
  obtain ⟨fd, F, G⟩ := h
  obtain ⟨ds, hv, hb⟩ := F.binds1 (ps := p_P_init) 3 1 (by intro h; cases h) rfl (fun T kV doc pm an cdv ct us its l1 l2 => match us, l1, its, l2 with | [_, _, _], _, [_, _, _], _ => ⟨_, rfl, rfl⟩)
  exact ⟨⟨fd, ds, hb, hv, G⟩⟩
/-- a host by a word -/
structure MkWOk (P : Program) (w : World) (K : PySem.W.Frag) (mg : Str → Option Value) (base : Heap) (ks : List Str) (gV : List V → List V → List V) (k : Nat) (sp : Sp) : Prop where
  ex : ∃ fd g, KBn K fd p_P_init 2 ks g gV ∧ FnOk P w K mg base CX0 k (He.fAd K ("Prices", some "__init__")) fd p_P_init sp
theorem vals_app {vs zs : List V} {us ws : List Value} (h : Vals vs us) (g : Vals zs ws) : Vals (vs ++ zs) (us ++ ws) := by
  induction h with
  | nil => exact g
  | cons r _ ih => exact .cons r ih
theorem vals_take {vs : List V} {us : List Value} (h : Vals vs us) : ∀ n, Vals (vs.take n) (us.take n) := by
  induction h with
  | nil => intro n; rw [List.take_nil, List.take_nil]; exact .nil
  | cons r _ ih =>
    intro n
    cases n with
    | zero => exact .nil
    | succ n => exact .cons r (ih n)
theorem mk_weights (h : InitOk P w K mg base) : MkWOk P w K mg base ["weights"] (fun vs zs => vs ++ ((d_P_init.dvs K).take 1 ++ (zs ++ (d_P_init.dvs K).drop 2))) 3 (spInit K) := by
  obtain ⟨fd, F, G⟩ := h
  obtain ⟨its, hb⟩ := F.kbindsD (ps := p_P_init) 2 ["weights"] (fun us its ws => us ++ (its.take 1 ++ (ws ++ its.drop 2))) (by intro h; cases h)
    (fun a b c => vals_app a (vals_app (vals_take b 1) (vals_app c (b.drop 2))))
    (fun T kV doc pm an cdv ct us its ws l1 l2 l3 => match us, l1, its, l2, ws, l3 with | [_, _], _, [_, _, _], _, [_], _ => ⟨_, rfl, rfl⟩)
  exact ⟨⟨fd, _, hb, G⟩⟩
theorem mk_brackets (h : InitOk P w K mg base) : MkWOk P w K mg base ["brackets"] (fun vs zs => vs ++ ((d_P_init.dvs K).take 2 ++ zs)) 3 (spInit K) := by
  obtain ⟨fd, F, G⟩ := h
  obtain ⟨its, hb⟩ := F.kbindsD (ps := p_P_init) 2 ["brackets"] (fun us its ws => us ++ (its.take 2 ++ ws)) (by intro h; cases h)
    (fun a b c => vals_app a (vals_app (vals_take b 2) c))
    (fun T kV doc pm an cdv ct us its ws l1 l2 l3 => match us, l1, its, l2, ws, l3 with | [_, _], _, [_, _, _], _, [_], _ => ⟨_, rfl, rfl⟩)
  exact ⟨⟨fd, _, hb, G⟩⟩
end RG

set_option Elab.async false
set_option linter.all false
set_option maxRecDepth 100000
set_option maxHeartbeats 400000
namespace RG
open PySem PySem.Spec PyProof.Rows L2
/-! ### a method by words alone -/
/-- o.m(k = v, ..) -/
def tMethW (C : Addr) (m : Str) (n : Nat) (sp : Sp) (gV : List V → List V → List V) (E : XK) (ta : TE) (tk : TA) : TE := fun σ H Q => ta σ H fun x H1 => ∃ a dx fs, x = .ref a ∧ H1 a = some (.ins C dx fs) ∧ fs.lookup m = none ∧ tk σ H1 fun zs H2 => zs.length = n ∧ sp (gV [x] zs) H2 Q E
section
variable {X : Cx} {CX : CXT} {k : Nat} {f C : Addr} {fd : FuncData} {ps ks : List Str} {sp : Sp} {E : XK} {m : Str} {pos apos : Pos} {o : Expr} {kws : List Keyword} {ta : TE} {tk : TA} {g : List Value → List Value → List Value} {gV : List V → List V → List V}
theorem pe_methW {pl : Sem Bool} (he : PE X o ta) (c : Cls X.K C) (hm : Meth X.K C m f) (F : FnOk X.prog X.w X.K X.mg X.base CX k f fd ps sp) (hr : Room k X.A) (hb : KBn X.K fd ps 1 ks g gV) (hx : Passes CX X E) (hkw : PK X kws tk)
    (hall : (backToKw pos (keywordEach kws X.env)).all (·.1.isSome) = true := by rfl) (hks : (backToKw pos (keywordEach kws X.env)).filterMap (·.1) = ks := by rfl)
    (hpl : ((backTo pos (starEach [] X.env)).any (·.1) || (backToKw pos (keywordEach kws X.env)).any (·.1.isNone)) = false := by rfl)
    (ht : eval (.Call (.Attribute o m apos) [] kws pos) X.env = (do
      let ov ← eval o X.env
      standAt apos.atName
      let (f, first) ← holding [ov] (getMethod ov m pl)
      callWith pos f first (backTo pos (starEach [] X.env)) (backToKw pos (keywordEach kws X.env))) := by rfl) : PE X (.Call (.Attribute o m apos) [] kws pos) (tMethW C m ks.length sp gV E ta tk) := by
  refine ⟨fun pins s σ H Q I h => ?_⟩
  refine PySem.W.methodCall_KW (pl := pl) (thn (he.run pins s σ H _ I h) fun u s1 ⟨x, H1, I1, rx, a, dx, fs, ex, ea, l, q⟩ => ?_) ht
  subst ex
  obtain rfl : u = Value.ref a := rx
  refine getmeth_ok I1 ea c hm l ?_
  refine PySem.W.callWith_KW0 (first := [.ref a]) (h₀ := X.base) I.ok.mod.kin hm.kp hall (thn (hkw.run pos pins s1 σ H1 _ I1 q) fun ws s2 ⟨zs, H2, I2, rz, l2, q2⟩ => ⟨I2.kIn, ?_⟩) hpl
  rw [hks]
  exact run_fnN (us := [.ref a]) (vs := [.ref a]) F hr hb hx I2 (.cons rfl .nil) rz rfl l2 q2
end
end RG

set_option Elab.async false
set_option linter.all false
set_option maxRecDepth 100000
set_option maxHeartbeats 400000
namespace RG
open PySem PySem.Spec PyProof.Rows L2
variable {P : Program} {w : World} {K : PySem.W.Frag} {mg : Str → Option Value} {base : Heap}
structure MetWOk (P : Program) (w : World) (K : PySem.W.Frag) (mg : Str → Option Value) (base : Heap) (CX : CXT) (m : Str) (ps ks : List Str) (gV : List V → List V → List V) (k : Nat) (sp : Sp) : Prop where
  ex : ∃ f fd g, Meth K (He.ga K "Prices") m f ∧ KBn K fd ps 1 ks g gV ∧ FnOk P w K mg base CX k f fd ps sp
theorem m_cheapestW (T : Txt K mg) (h : ∃ fd, FunD K "cheapest" "Prices.cheapest" (defArgs s_P_cheapest) (defBody s_P_cheapest) (defScope s_P_cheapest) (d_P_cheapest.dvs K) (d_P_cheapest.kws K) (He.fAd K ("Prices", some "cheapest")) fd ∧ FnOk P w K mg base (L2.CX P w) 40 (He.fAd K ("Prices", some "cheapest")) fd p_P_cheapest (spCheapest K)) :
    MetWOk P w K mg base (L2.CX P w) "cheapest" p_P_cheapest ["high", "low", "number"] (fun vs zs => vs ++ (zs.drop 2 ++ ((zs.drop 1).take 1 ++ zs.take 1))) 40 (spCheapest K) := by
  obtain ⟨fd, F, G⟩ := h
  obtain ⟨its, hb⟩ := F.kbindsD (ps := p_P_cheapest) 1 ["high", "low", "number"] (fun us its ws => us ++ (ws.drop 2 ++ ((ws.drop 1).take 1 ++ ws.take 1))) (by intro h; cases h)
    (fun a b c => vals_app a (vals_app (c.drop 2) (vals_app (vals_take (c.drop 1) 1) (vals_take c 1))))
    (fun T kV doc pm an cdv ct us its ws l1 l2 l3 => match us, l1, its, l2, ws, l3 with | [_], _, [_, _, _], _, [_, _, _], _ => ⟨_, rfl, rfl⟩)
  exact ⟨⟨_, fd, _, T.m_cheapest, hb, G⟩⟩
theorem m_is_cheapestW (T : Txt K mg) (h : ∃ fd, FunD K "is_cheapest" "Prices.is_cheapest" (defArgs s_P_is_cheapest) (defBody s_P_is_cheapest) (defScope s_P_is_cheapest) (d_P_is_cheapest.dvs K) (d_P_is_cheapest.kws K) (He.fAd K ("Prices", some "is_cheapest")) fd ∧ FnOk P w K mg base CX0 40 (He.fAd K ("Prices", some "is_cheapest")) fd p_P_is_cheapest (spIsCheap K)) :
    MetWOk P w K mg base CX0 "is_cheapest" p_P_is_cheapest ["high", "thing"] (fun vs zs => vs ++ (zs.drop 1 ++ (((d_P_is_cheapest.dvs K)).take 1 ++ zs.take 1))) 40 (spIsCheap K) := by
  obtain ⟨fd, F, G⟩ := h
  obtain ⟨its, hb⟩ := F.kbindsD (ps := p_P_is_cheapest) 1 ["high", "thing"] (fun us its ws => us ++ (ws.drop 1 ++ (its.take 1 ++ ws.take 1))) (by intro h; cases h)
    (fun a b c => vals_app a (vals_app (c.drop 1) (vals_app (vals_take b 1) (vals_take c 1))))
    (fun T kV doc pm an cdv ct us its ws l1 l2 l3 => match us, l1, its, l2, ws, l3 with | [_], _, [_, _], _, [_, _], _ => ⟨_, rfl, rfl⟩)
  exact ⟨⟨_, fd, _, T.m_is_cheapest, hb, G⟩⟩
section
variable {X : Cx} {CX : CXT} {k : Nat} {sp : Sp} {E : XK} {m : Str} {ps ks : List Str} {p pos apos : Pos} {e o : Expr} {es : List Expr} {kws : List Keyword} {ta : TE} {t tk : TA} {gV : List V → List V → List V}
theorem pe_mdW {pl : Sem Bool} (he : PE X o ta) (c : Cls K (He.ga K "Prices")) (D : MetWOk X.prog X.w K X.mg X.base CX m ps ks gV k sp) (hr : Room k X.A) (hx : Passes CX X E) (hkw : PK X kws tk) (hK : X.K = K := by rfl)
    (hall : (backToKw pos (keywordEach kws X.env)).all (·.1.isSome) = true := by rfl) (hks : (backToKw pos (keywordEach kws X.env)).filterMap (·.1) = ks := by rfl)
    (hpl : ((backTo pos (starEach [] X.env)).any (·.1) || (backToKw pos (keywordEach kws X.env)).any (·.1.isNone)) = false := by rfl)
    (ht : eval (.Call (.Attribute o m apos) [] kws pos) X.env = (do
      let ov ← eval o X.env
      standAt apos.atName
      let (f, first) ← holding [ov] (getMethod ov m pl)
      callWith pos f first (backTo pos (starEach [] X.env)) (backToKw pos (keywordEach kws X.env))) := by rfl) : PE X (.Call (.Attribute o m apos) [] kws pos) (tMethW (He.ga K "Prices") m ks.length sp gV E ta tk) := by
  subst hK
  obtain ⟨f, fd, g, hm, hb, F⟩ := D.ex
  exact pe_methW he c hm F hr hb hx hkw hall hks hpl ht
theorem pe_mkW (M : Mk K (He.ga K "Prices") (He.ma K (He.ga K "Prices") "__init__")) (hm : X.mg "Prices" = some (.ref (He.ga K "Prices"))) (D : MkWOk X.prog X.w K X.mg X.base ks gV k sp) (hr : Room (k + 1) X.A) (hx : Passes CX0 X E)
    (ha : PA X (e :: es) t) (hkw : PK X kws tk) (hK : X.K = K := by rfl) (hg : Gl X "Prices" := by rfl) (hall : (backToKw pos (keywordEach kws X.env)).all (·.1.isSome) = true := by rfl) (hks : (backToKw pos (keywordEach kws X.env)).filterMap (·.1) = ks := by rfl)
    (hdb : (("Prices" : Str) == ("__debug__" : Str)) = false := by decide) (he : starEach (e :: es) X.env = (false, eval e X.env) :: starEach es X.env := by rfl)
    (hpl : ((backTo pos (starEach (e :: es) X.env)).any (·.1) || (backToKw pos (keywordEach kws X.env)).any (·.1.isNone)) = false := by rfl) :
    PE X (.Call (.Name "Prices" p) (e :: es) kws pos) (tMakeN (He.ga K "Prices") 1 ks.length sp gV E t tk) := by
  subst hK
  obtain ⟨fd, g, hb, F⟩ := D.ex
  exact pe_makeN M F hr hg hm hb hx ha hkw hall hks hdb he hpl
end
end RG

set_option Elab.async false
set_option linter.all false
set_option maxRecDepth 100000
set_option maxHeartbeats 4000000
namespace RG
open PySem PySem.Spec PyProof.Rows L2
/-! ### the values by hand -/
def pM : Nat → Nat → Nat → Int := ppF (some [6, 30, 300, 15, 5]) none (extF [])
def pH : Nat → Nat → Nat → Int := ppF none (some [1, 1, 1, 5]) (extF [])
def pF : Nat → Nat → Nat → Int := ppF none none (extF [])
def tLeft : Tr := .nd (.nd (.nd (.lf 1) (.lf 2)) (.lf 3)) (.lf 4)
def tNear : Tr := .nd (.nd (.lf 1) (.nd (.lf 2) (.lf 3))) (.lf 4)
def tTwos : Tr := .nd (.nd (.lf 1) (.lf 2)) (.nd (.lf 3) (.lf 4))
def tFar : Tr := .nd (.lf 1) (.nd (.nd (.lf 2) (.lf 3)) (.lf 4))
def tRight : Tr := .nd (.lf 1) (.nd (.lf 2) (.nd (.lf 3) (.lf 4)))
theorem lim_0 : LimOk 4 none none (rowsF 4 none none) := ⟨rfl, rfl⟩
theorem lim_twos : LimOk 4 none (some tTwos) (rowsF 4 none (some tTwos)) := ⟨rfl, rfl⟩
theorem lim_near_far : LimOk 4 (some tNear) (some tFar) (rowsF 4 (some tNear) (some tFar)) := ⟨rfl, rfl⟩
theorem lim_near : LimOk 4 (some tNear) none (rowsF 4 (some tNear) none) := ⟨rfl, rfl⟩
theorem v_least0 : bestV pM (tpL (rowsF 4 none none)) 1 1 4 = some 68400 := by decide +kernel
theorem v_great0 : bestV pM (tpL (rowsF 4 none none)) (-1) 1 4 = some 138150 := by decide +kernel
theorem v_least_twos : bestV pM (tpL (rowsF 4 none (some tTwos))) 1 1 4 = some 81450 := by decide +kernel
theorem v_great_twos : bestV pM (tpL (rowsF 4 none (some tTwos))) (-1) 1 4 = some 85500 := by decide +kernel
theorem v_least_near_far : bestV pM (tpL (rowsF 4 (some tNear) (some tFar))) 1 1 4 = some 138150 := by decide +kernel
theorem v_great_near : bestV pM (tpL (rowsF 4 (some tNear) none)) (-1) 1 4 = some 138150 := by decide +kernel
theorem v_many0 : lenG (tpB pM (tpL (rowsF 4 none none)) 1) 1 4 = 1 := by decide +kernel
theorem v_mean0 : frac (sumG pM (tpL (rowsF 4 none none)) 1 4) (GD (tpL (rowsF 4 none none)) 1 4).length = (102330, 1) := by decide +kernel
theorem v_best0 : GD (tpB pM (tpL (rowsF 4 none none)) 1) 1 4 = [tRight] := by decide +kernel
theorem v_flat : GD (tpB pF (tpL (rowsF 4 none none)) 1) 1 4 = [tRight, tFar, tTwos, tNear, tLeft] := by decide +kernel
theorem v_heavy : GD (tpB pH (tpL (rowsF 4 none none)) 1) 1 4 = [tNear, tLeft] := by decide +kernel
/-! ### the calls -/
section
variable {K : PySem.W.Frag} {H : Hp} {v lv hv : V} {n : Nat} {pp : Nat → Nat → Nat → Int} {lo hi : Option Tr} {l : List (Nat × Nat)} {Q : VK} {E : XK}
theorem at_host {m : Str} {R : Prop} (hh : HostAt K H v n pp) (hm : ∀ s w d, (hostF n s w d).lookup m = none) (r : R) : ∃ a dx fs, v = .ref a ∧ H a = some (.ins (He.ga K "Prices") dx fs) ∧ fs.lookup m = none ∧ R := by
  obtain ⟨x, dx, s, w, d, h1, h2, _⟩ := hh
  exact ⟨x, dx, _, h1, h2, hm s w d, r⟩
theorem g_end {s m : Int} (hh : HostAt K H v n pp) (h1 : 1 ≤ n) (h2 : n ≤ 40) (hlo : OpT K H lv lo) (hhi : OpT K H hv hi) (hl : LimOk n lo hi l) (e : bestV pp (tpL l) s 1 n = some m) (k : ∀ H', Ex H H' → Q (.int m) H') : spEnd K s [v, lv, hv] H Q E :=
  ⟨n, lo, hi, l, v, lv, hv, pp, rfl, h1, h2, hh, hlo, hhi, hl, fun H' e' => by rw [e]; exact k H' e'⟩
theorem g_mean {a b : Int} (hh : HostAt K H v n pp) (h1 : 1 ≤ n) (h2 : n ≤ 6) (hlo : OpT K H lv lo) (hhi : OpT K H hv hi) (hl : LimOk n lo hi l) (h0 : 0 < (GD (tpL l) 1 n).length) (e : frac (sumG pp (tpL l) 1 n) (GD (tpL l) 1 n).length = (a, b))
    (k : ∀ u H', Ex H H' → Dp K H' u (.tuple [.int a, .int b]) → Q u H') : spMean K [v, lv, hv] H Q E :=
  ⟨n, lo, hi, l, v, lv, hv, pp, rfl, h1, h2, hh, hlo, hhi, hl, h0, fun p H' e' hp => k _ H' e' (.tup (SqT.of hp) (by rw [e]; exact .cons (.int _) (.cons (.int _) .nil)))⟩
theorem g_many {m : Int} (hh : HostAt K H v n pp) (h1 : 1 ≤ n) (h2 : n ≤ 6) (hlo : OpT K H lv lo) (hhi : OpT K H hv hi) (hl : LimOk n lo hi l) (e : lenG (tpB pp (tpL l) 1) 1 n = m) (k : ∀ H', Ex H H' → Q (.int m) H') : spHowMany K [v, lv, hv] H Q E :=
  ⟨n, lo, hi, l, v, lv, hv, pp, rfl, h1, h2, hh, hlo, hhi, hl, fun H' e' => by rw [e]; exact k H' e'⟩
theorem g_cheap {i : Int} {t : Tr} {ts : List Tr} (hh : HostAt K H v n pp) (h1 : 1 ≤ n) (h2 : n ≤ 6) (hlo : OpT K H lv lo) (hhi : OpT K H hv hi) (hl : LimOk n lo hi l) (e : GD (tpB pp (tpL l) 1) 1 n = ts) (hi0 : 0 ≤ i) (ht : ts[i.toNat]? = some t)
    (k : ∀ u H', Ex H H' → Dp K H' u t.tp → Q u H') : spCheapest K [v, .int i, lv, hv] H Q E := by
  subst e
  refine ⟨n, i, lo, hi, v, lv, hv, pp, rfl, h1, h2, hh, hlo, hhi, ?_⟩
  unfold NumQ
  rw [hl.1]
  refine ⟨hl.2, fun u _ hu w H' e' r => ?_, fun bad => ?_⟩
  · rw [ht] at hu
    cases hu
    exact k w H' e' r
  · exfalso
    have := (List.getElem?_eq_some_iff.mp ht).1
    unfold lenG at bad
    omega
theorem g_isch {xv : V} {d : PyData} {m : Int} {r : Bool} (hh : HostAt K H v n pp) (h1 : 1 ≤ n) (h2 : n ≤ 6) (hlo : OpT K H lv lo) (hhi : OpT K H hv hi) (hl : LimOk n lo hi l) (hx : Dp K H xv d) (hd : d.depth < 30) (e : bestV pp (tpL l) 1 1 n = some m) (hr : IsCh n l pp d r)
    (k : ∀ H', Ex H H' → Q (.bl r) H') : spIsCheap K [v, xv, lv, hv] H Q E :=
  ⟨n, lo, hi, l, v, xv, lv, hv, d, pp, r, rfl, h1, h2, hh, hlo, hhi, hl, hx, hd, ⟨m, e⟩, hr, k⟩
theorem nil_ {σ : L2.St} {R : List V → Hp → Prop} (r : R [] H) : tNil σ H R := r
theorem dpa_ex2 {H H' : Hp} (e : Ex H H') : ∀ {vs : List V} {ds : List PyData}, DpAll K H vs ds → DpAll K H' vs ds
  | _, _, .nil => .nil
  | _, _, .cons h t => .cons (dp_ex e h) (dpa_ex2 e t)
theorem dpa_len2 {H : Hp} : ∀ {vs : List V} {ds : List PyData}, DpAll K H vs ds → vs.length = ds.length
  | _, _, .nil => rfl
  | _, _, .cons _ t => congrArg Nat.succ (dpa_len2 t)
theorem dpa_app2 {H : Hp} {us : List V} {es : List PyData} (b : DpAll K H us es) : ∀ {vs : List V} {ds : List PyData}, DpAll K H vs ds → DpAll K H (vs ++ us) (ds ++ es)
  | _, _, .nil => b
  | _, _, .cons h t => .cons h (dpa_app2 b t)
def LstAt (K : PySem.W.Frag) (H : Hp) (v : V) (ds : List PyData) : Prop := ∃ p xs, v = .ref p ∧ H p = some (.lst xs) ∧ DpAll K H xs ds
theorem LstAt.ex {H H' : Hp} {v : V} {ds : List PyData} (e : Ex H H') (h : LstAt K H v ds) : LstAt K H' v ds := by
  obtain ⟨p, xs, h1, h2, h3⟩ := h
  exact ⟨p, xs, h1, e _ _ h2, dpa_ex2 e h3⟩
theorem LstAt.dp {v : V} {ds : List PyData} (h : LstAt K H v ds) : Dp K H v (.list ds) := by
  obtain ⟨p, xs, rfl, h2, h3⟩ := h
  exact .lst (SqL.of h2) h3
theorem LstAt.new {p : Addr} {xs : List V} {ds : List PyData} (hp : H p = none) (h : DpAll K H xs ds) : Ex H (upd H p (.lst xs)) ∧ LstAt K (upd H p (.lst xs)) (.ref p) ds :=
  have e := Evl.Ex.new (o := .lst xs) hp
  ⟨e, p, xs, rfl, upd_same, dpa_ex2 e h⟩
theorem g_cat {x y : V} {ds es : List PyData} (a : LstAt K H x ds) (b : LstAt K H y es) (hs : ds.length + es.length ≤ sizeLine) (k : ∀ u H', Ex H H' → LstAt K H' u (ds ++ es) → Q u H') : rCat x y H Q := by
  obtain ⟨p, xs, h1, h2, h3⟩ := a
  obtain ⟨r, zs, g1, g2, g3⟩ := b
  refine ⟨p, r, xs, zs, h1, g1, h2, g2, by rw [dpa_len2 h3, dpa_len2 g3]; exact hs, fun u hu => ?_⟩
  obtain ⟨e, f⟩ := LstAt.new hu (dpa_app2 g3 h3)
  exact k _ _ e f
theorem op_no : OpT K H .non none := rfl
theorem op_tr {t : Tr} (h : Dp K H v t.tp) (h1 : t.ht < 30) (h2 : t.trip.length ≤ 1000) : OpT K H v (some t) := ⟨trm_tp h, h1, h2⟩
end
end RG

set_option Elab.async false
set_option linter.all false
set_option maxRecDepth 100000
set_option maxHeartbeats 4000000
namespace RG
open PySem PySem.Spec PyProof.Rows L2
/-! ### what an expression gives, whatever has been added to the heap -/
theorem dp2 {K : PySem.W.Frag} {H : Hp} {v u : V} {x y : Tr} {p : Addr} (a : Dp K H v x.tp) (b : Dp K H u y.tp) (h : H p = none) : Ex H (upd H p (.tup [v, u])) ∧ Dp K (upd H p (.tup [v, u])) (.ref p) (Tr.nd x y).tp :=
  have e := Evl.Ex.new (o := .tup [v, u]) h
  ⟨e, .tup (SqT.of upd_same) (.cons (dp_ex e a) (.cons (dp_ex e b) .nil))⟩
theorem mk_host {K : PySem.W.Frag} {H : Hp} {x dx : Addr} {n : Nat} {sv wv bv : V} {so wo : Option (List Int)} {brs : List (Nat × Nat × Int)} {R : Hp → Prop} {E : XK} (hx : H x = none) (hdx : H dx = none) (hne : dx ≠ x) (hn : n ≤ 40) (hs : OpI K H (n + 1) sv so) (hw : OpI K H n wv wo) (hb : BrAt K H bv n brs)
    (q : ∀ H', Ex H H' → HostAt K H' (.ref x) n (ppF so wo (extF brs)) → R H') : spInit K [.ref x, .int n, sv, wv, bv] (upd (upd H dx (.own x)) x (.ins (He.ga K "Prices") dx [])) (fun v H3 => v = .non ∧ R H3) E := by
  have e1 := (Evl.Ex.new (o := .own x) hdx)
  have hx1 : (upd H dx (.own x)) x = none := by rw [upd_ne (fun e => hne e.symm)]; exact hx
  have e2 := e1.trans (Evl.Ex.new (o := .ins (He.ga K "Prices") dx []) hx1)
  refine ⟨x, dx, n, sv, wv, bv, so, wo, brs, rfl, hn, upd_same, hs.ex e2, hw.ex e2, hb.ex e2, fun H' k hh => ⟨rfl, q H' (fun z o h => ?_) hh⟩⟩
  exact k z o (fun e => by rw [e, hx] at h; cases h) (e2 _ _ h)
theorem opi_new {K : PySem.W.Frag} {H : Hp} {p : Addr} {xs : List Int} {n : Nat} (hl : xs.length = n) (hx : ∀ x ∈ xs, -1000000 < x ∧ x < 1000000) : OpI K (upd H p (.tup (xs.map V.int))) n (.ref p) (some xs) := ⟨p, rfl, SqT.of upd_same, hl, hx⟩
theorem br_none {K : PySem.W.Frag} {H : Hp} {a : Addr} {n : Nat} (h : SqT K H a []) : BrAt K H (.ref a) n [] := ⟨a, [], rfl, h, .nil, Nat.zero_le _, fun _ h => nomatch h⟩
/-- the kinds of things -/
inductive Kd where
  | d (x : PyData)
  | o (t : Option Tr)
  | h (n : Nat) (pp : Nat → Nat → Nat → Int)
  | l (ds : List PyData)
  | s (n : Nat) (xs : Option (List Int))
  | b (n : Nat) (brs : List (Nat × Nat × Int))
def Kd.P (K : PySem.W.Frag) : Kd → V → Hp → Prop
  | .d x, v, H => Dp K H v x
  | .o t, v, H => OpT K H v t
  | Kd.h n pp, v, H => HostAt K H v n pp
  | .l ds, v, H => LstAt K H v ds
  | .s n xs, v, H => OpI K H n v xs
  | .b n brs, v, H => BrAt K H v n brs
theorem Kd.ex {K : PySem.W.Frag} {H H' : Hp} (e : Ex H H') : ∀ {k : Kd} {v : V}, k.P K v H → k.P K v H'
  | .d _, _, z => dp_ex e z
  | .o _, _, z => OpT.ex e z
  | Kd.h _ _, _, z => HostAt.ex e z
  | .l _, _, z => LstAt.ex e z
  | .s _ _, _, z => OpI.ex e z
  | .b _ _, _, z => BrAt.ex e z
abbrev Al (K : PySem.W.Frag) (H : Hp) : List V → List Kd → Prop := Paired (fun v (k : Kd) => k.P K v H)
theorem Al.ex {K : PySem.W.Frag} {H H' : Hp} (e : Ex H H') {vs : List V} {ks : List Kd} (h : Al K H vs ks) : Al K H' vs ks := Paired.mapP h fun _ _ z => Kd.ex e z
def Rd (K : PySem.W.Frag) (k : Kd) (te : TE) (σ : L2.St) (H : Hp) : Prop := ∀ H1, Ex H H1 → ∀ Q : VK, (∀ v H2, Ex H1 H2 → k.P K v H2 → Q v H2) → te σ H1 Q
def RdA (K : PySem.W.Frag) (ks : List Kd) (ta : TA) (σ : L2.St) (H : Hp) : Prop := ∀ H1, Ex H H1 → ∀ Q : List V → Hp → Prop, (∀ vs H2, Ex H1 H2 → Al K H2 vs ks → Q vs H2) → ta σ H1 Q
section
variable {K : PySem.W.Frag} {k : Kd} {ks : List Kd} {ta tb te : TE} {t tk : TA} {σ : L2.St} {H H' : Hp} {E : XK} {dvs : List V} {m : Str} {n : Nat} {pp : Nat → Nat → Nat → Int} {lo hi : Option Tr} {l : List (Nat × Nat)}
theorem rd_var {i : Nat} {v : V} (hs : σ[i]? = some (some v)) (h : k.P K v H) : Rd K k (tVar i) σ H := fun H1 e Q q => ⟨v, hs, q v H1 (exr _) (Kd.ex e h)⟩
theorem rd_int {i : Int} : Rd K (.d (.int i)) (tC (.int i)) σ H := fun H1 e Q q => q _ _ (exr _) (Dp.int i)
theorem rd_bl {i : Bool} : Rd K (.d (.bool i)) (tC (.bl i)) σ H := fun H1 e Q q => q _ _ (exr _) (Dp.bl i)
theorem rd_str {i : Str} : Rd K (.d (.str i)) (tC (.str i)) σ H := fun H1 e Q q => q _ _ (exr _) (Dp.str i)
theorem rd_non : Rd K (.d .none) (tC .non) σ H := fun H1 e Q q => q _ _ (exr _) Dp.non
theorem rd_noO : Rd K (.o none) (tC .non) σ H := fun H1 e Q q => q _ _ (exr _) (rfl : V.non = V.non)
theorem rd_neg {i : Int} (h : Rd K (.d (.int i)) ta σ H) : Rd K (.d (.int (-i))) (tUn (rU fun i => .int (-i)) ta) σ H := fun H1 e Q q => h H1 e _ fun v H2 e2 hv => by
  cases hv
  exact ⟨_, rfl, q _ _ e2 (Dp.int _)⟩
theorem ra_nil : RdA K [] tNil σ H := fun H1 e Q q => q [] H1 (exr _) .nil
theorem ra_cons (h : Rd K k te σ H) (r : RdA K ks t σ H) : RdA K (k :: ks) (tCons te t) σ H := fun H1 e Q q => h H1 e _ fun v H2 e2 hv => r H2 (e.trans e2) _ fun vs H3 e3 hvs => q _ _ (e2.trans e3) (.cons (Kd.ex e3 hv) hvs)
def RdD (K : PySem.W.Frag) (ds : List PyData) (ta : TA) (σ : L2.St) (H : Hp) : Prop := ∀ H1, Ex H H1 → ∀ Q : List V → Hp → Prop, (∀ vs H2, Ex H1 H2 → DpAll K H2 vs ds → Q vs H2) → ta σ H1 Q
theorem rn : RdD K [] tNil σ H := fun H1 e Q q => q [] H1 (exr _) .nil
theorem rc {d : PyData} {ds : List PyData} (h : Rd K (.d d) te σ H) (r : RdD K ds t σ H) : RdD K (d :: ds) (tCons te t) σ H := fun H1 e Q q => h H1 e _ fun v H2 e2 hv => r H2 (e.trans e2) _ fun vs H3 e3 hvs => q _ _ (e2.trans e3) (.cons (dp_ex e3 hv) hvs)
theorem szs {n : Nat} (h : n ≤ 1000) : n ≤ sizeLine := by rw [sizeLine_eq]; omega
theorem rd_tup {ds : List PyData} (h : RdD K ds t σ H) (hz : ds.length ≤ 1000 := by decide +kernel) : Rd K (.d (.tuple ds)) (tTup t) σ H := fun H1 e Q q => h H1 e _ fun vs H2 e2 hv => by
  have a := hv
  refine ⟨szs (by rw [dpa_len a]; exact hz), fun p hp => ?_⟩
  have e3 := Evl.Ex.new (o := .tup vs) hp
  exact q _ _ (e2.trans e3) (Dp.tup (SqT.of upd_same) (dpa_ex e3 a))
theorem rd_lst {ds : List PyData} (h : RdD K ds t σ H) (hz : ds.length ≤ 1000 := by decide +kernel) : Rd K (.l ds) (tLst t) σ H := fun H1 e Q q => h H1 e _ fun vs H2 e2 hv => by
  have a := hv
  refine ⟨szs (by rw [dpa_len a]; exact hz), fun p hp => ?_⟩
  obtain ⟨e3, f⟩ := LstAt.new hp a
  exact q _ _ (e2.trans e3) f
theorem rd_l {ds : List PyData} (h : Rd K (.l ds) te σ H) : Rd K (.d (.list ds)) te σ H := fun H1 e Q q => h H1 e _ fun v H2 e2 hv => q v H2 e2 (LstAt.dp hv)
theorem rd_cat {ds es : List PyData} (a : Rd K (.l ds) ta σ H) (b : Rd K (.l es) tb σ H) (hz : ds.length + es.length ≤ 1000 := by decide +kernel) : Rd K (.l (ds ++ es)) (tOp rCat ta tb) σ H := fun H1 e Q q =>
  a H1 e _ fun x H2 e2 hx => b H2 (e.trans e2) _ fun y H3 e3 hy => g_cat (LstAt.ex e3 hx) hy (szs hz) fun u H4 e4 hu => q u H4 ((e2.trans e3).trans e4) hu
theorem rd_rep {d : PyData} {i : Nat} (a : Rd K (.l [d]) ta σ H) (b : Rd K (.d (.int i)) tb σ H) (hi : i ≤ 1000 := by decide) : Rd K (.l (List.replicate i d)) (tOp rRep ta tb) σ H := fun H1 e Q q =>
  a H1 e _ fun x H2 e2 hx => b H2 (e.trans e2) _ fun y H3 e3 hy => by
    cases hy
    obtain ⟨p, xs, rfl, hp, hd⟩ := LstAt.ex e3 hx
    cases hd with
    | @cons v _ _ _ hv hn =>
      cases hn
      refine ⟨p, _, _, rfl, rfl, hp, by omega, by omega, szs (by simp; omega), fun r hr => ?_⟩
      have er : (List.replicate ((i : Nat) : Int).toNat [v]).flatten = List.replicate i v := by rw [Int.toNat_natCast, List.flatten_replicate_singleton]
      rw [er]
      have key : ∀ j, DpAll K H3 (List.replicate j v) (List.replicate j d) := fun j => by
        induction j with
        | zero => exact .nil
        | succ j ih => exact .cons hv ih
      obtain ⟨e4, f⟩ := LstAt.new hr (key i)
      exact q _ _ ((e2.trans e3).trans e4) f
/-- a tree, by lists or tuples -/
def TrD : PyData → Tr → Prop
  | d, .lf n => d = .int n
  | d, .nd l r => ∃ x y, (d = .list [x, y] ∨ d = .tuple [x, y]) ∧ TrD x l ∧ TrD y r
theorem trm_d : ∀ {t : Tr} {d : PyData} {v : V}, TrD d t → Dp K H v d → TrM K H v t := by
  intro t
  induction t with
  | lf n =>
    intro d v h hv
    cases (show d = .int n from h)
    cases hv
    exact .lf n
  | nd l r il ir =>
    intro d v h hv
    obtain ⟨x, y, h1, h2, h3⟩ := h
    rcases h1 with rfl | rfl
    · cases hv with
      | lst hs ha =>
        cases ha with
        | cons a1 ha =>
          cases ha with
          | cons a2 ha =>
            cases ha
            exact .ls hs (il h2 a1) (ir h3 a2)
    · cases hv with
      | tup hs ha =>
        cases ha with
        | cons a1 ha =>
          cases ha with
          | cons a2 ha =>
            cases ha
            exact .tp hs (il h2 a1) (ir h3 a2)
theorem rd_tm {t : Tr} {d : PyData} (h : Rd K (.d d) te σ H) (ht : TrD d t) (h1 : t.ht < 30 := by decide +kernel) (h2 : t.trip.length ≤ 1000 := by decide +kernel) : Rd K (.o (some t)) te σ H := fun H1 e Q q => h H1 e _ fun v H2 e2 hv => q v H2 e2 ⟨trm_d ht hv, h1, h2⟩
theorem trd_tp : ∀ t : Tr, TrD t.tp t
  | .lf _ => rfl
  | .nd l r => ⟨_, _, .inr rfl, trd_tp l, trd_tp r⟩
theorem rd_tr {t : Tr} (h : Rd K (.d t.tp) te σ H) (h1 : t.ht < 30 := by decide +kernel) (h2 : t.trip.length ≤ 1000 := by decide +kernel) : Rd K (.o (some t)) te σ H := rd_tm h (trd_tp t) h1 h2
/-- calls of methods -/
theorem rd_meth {sp : Sp} {r : Kd} (hh : Rd K (.h n pp) ta σ H) (ha : RdA K ks t σ H) (hm : ∀ s w d, (hostF n s w d).lookup m = none)
    (hs : ∀ x vs H2, HostAt K H2 x n pp → Al K H2 vs ks → ∀ Q : VK, (∀ v H3, Ex H2 H3 → r.P K v H3 → Q v H3) → sp (x :: (vs ++ dvs)) H2 Q E) : Rd K r (tMeth (He.ga K "Prices") m sp dvs E ta t) σ H := fun H1 e Q q =>
  hh H1 e _ fun x H2 e2 hx => at_host hx hm (ha H2 (e.trans e2) _ fun vs H3 e3 hv => hs x vs H3 (HostAt.ex e3 hx) hv Q fun v H4 e4 hr => q v H4 ((e2.trans e3).trans e4) hr)
theorem al_app {vs : List V} {ds : List Kd} (hv : Al K H vs ks) (hd : Al K H dvs ds) : Al K H (vs ++ dvs) (ks ++ ds) := paired_app hv hd
theorem al2 {vs : List V} {a b : Kd} (h : Al K H vs [a, b]) : ∃ x y, vs = [x, y] ∧ a.P K x H ∧ b.P K y H := by
  cases h with
  | cons h1 h =>
    cases h with
    | cons h2 h =>
      cases h
      exact ⟨_, _, rfl, h1, h2⟩
theorem al3 {vs : List V} {a b c : Kd} (h : Al K H vs [a, b, c]) : ∃ x y z, vs = [x, y, z] ∧ a.P K x H ∧ b.P K y H ∧ c.P K z H := by
  cases h with
  | cons h1 h =>
    obtain ⟨y, z, rfl, h2, h3⟩ := al2 h
    exact ⟨_, _, _, rfl, h1, h2, h3⟩
theorem al4 {vs : List V} {a b c d : Kd} (h : Al K H vs [a, b, c, d]) : ∃ x y z u, vs = [x, y, z, u] ∧ a.P K x H ∧ b.P K y H ∧ c.P K z H ∧ d.P K u H := by
  cases h with
  | cons h1 h =>
    obtain ⟨y, z, u, rfl, h2, h3, h4⟩ := al3 h
    exact ⟨_, _, _, _, rfl, h1, h2, h3, h4⟩
theorem rd_end {s c : Int} {ds : List Kd} (hh : Rd K (.h n pp) ta σ H) (ha : RdA K ks t σ H) (hd : ∀ H, Al K H dvs ds) (he : ks ++ ds = [.o lo, .o hi]) (hm : ∀ s w d, (hostF n s w d).lookup m = none) (h1 : 1 ≤ n) (h2 : n ≤ 40) (hl : LimOk n lo hi l) (e : bestV pp (tpL l) s 1 n = some c) :
    Rd K (.d (.int c)) (tMeth (He.ga K "Prices") m (spEnd K s) dvs E ta t) σ H := rd_meth hh ha hm fun x vs H2 hx hv Q q => by
  have a := al_app hv (hd H2)
  rw [he] at a
  obtain ⟨lv, hv, ev, a1, a2⟩ := al2 a
  rw [ev]
  exact g_end hx h1 h2 a1 a2 hl e fun H' e' => q _ _ e' (Dp.int _)
theorem rd_mean {a b : Int} {ds : List Kd} (hh : Rd K (.h n pp) ta σ H) (ha : RdA K ks t σ H) (hd : ∀ H, Al K H dvs ds) (he : ks ++ ds = [.o lo, .o hi]) (hm : ∀ s w d, (hostF n s w d).lookup m = none) (h1 : 1 ≤ n) (h2 : n ≤ 6) (hl : LimOk n lo hi l) (h0 : 0 < (GD (tpL l) 1 n).length) (e : frac (sumG pp (tpL l) 1 n) (GD (tpL l) 1 n).length = (a, b)) :
    Rd K (.d (.tuple [.int a, .int b])) (tMeth (He.ga K "Prices") m (spMean K) dvs E ta t) σ H := rd_meth hh ha hm fun x vs H2 hx hv Q q => by
  have a := al_app hv (hd H2)
  rw [he] at a
  obtain ⟨lv, hv, ev, a1, a2⟩ := al2 a
  rw [ev]
  exact g_mean hx h1 h2 a1 a2 hl h0 e fun u H' e' hu => q _ _ e' hu
theorem rd_many {c : Int} {ds : List Kd} (hh : Rd K (.h n pp) ta σ H) (ha : RdA K ks t σ H) (hd : ∀ H, Al K H dvs ds) (he : ks ++ ds = [.o lo, .o hi]) (hm : ∀ s w d, (hostF n s w d).lookup m = none) (h1 : 1 ≤ n) (h2 : n ≤ 6) (hl : LimOk n lo hi l) (e : lenG (tpB pp (tpL l) 1) 1 n = c) :
    Rd K (.d (.int c)) (tMeth (He.ga K "Prices") m (spHowMany K) dvs E ta t) σ H := rd_meth hh ha hm fun x vs H2 hx hv Q q => by
  have a := al_app hv (hd H2)
  rw [he] at a
  obtain ⟨lv, hv, ev, a1, a2⟩ := al2 a
  rw [ev]
  exact g_many hx h1 h2 a1 a2 hl e fun H' e' => q _ _ e' (Dp.int _)
theorem rd_cheap {i : Int} {x : Tr} {ts : List Tr} {ds : List Kd} (hh : Rd K (.h n pp) ta σ H) (ha : RdA K ks t σ H) (hd : ∀ H, Al K H dvs ds) (he : ks ++ ds = [.d (.int i), .o lo, .o hi]) (hm : ∀ s w d, (hostF n s w d).lookup m = none) (h1 : 1 ≤ n) (h2 : n ≤ 6) (hl : LimOk n lo hi l) (e : GD (tpB pp (tpL l) 1) 1 n = ts) (hi0 : 0 ≤ i) (ht : ts[i.toNat]? = some x) :
    Rd K (.d x.tp) (tMeth (He.ga K "Prices") m (spCheapest K) dvs E ta t) σ H := rd_meth hh ha hm fun y vs H2 hx hv Q q => by
  have a := al_app hv (hd H2)
  rw [he] at a
  obtain ⟨iv, lv, hv, ev, a0, a1, a2⟩ := al3 a
  rw [ev]
  cases a0
  exact g_cheap hx h1 h2 a1 a2 hl e hi0 ht fun u H' e' hu => q _ _ e' hu
theorem rd_isch {d : PyData} {c : Int} {r : Bool} {ds : List Kd} (hh : Rd K (.h n pp) ta σ H) (ha : RdA K ks t σ H) (hd : ∀ H, Al K H dvs ds) (he : ks ++ ds = [.d d, .o lo, .o hi]) (hm : ∀ s w d, (hostF n s w d).lookup m = none) (h1 : 1 ≤ n) (h2 : n ≤ 6) (hl : LimOk n lo hi l) (hx : d.depth < 30) (e : bestV pp (tpL l) 1 1 n = some c) (hr : IsCh n l pp d r) :
    Rd K (.d (.bool r)) (tMeth (He.ga K "Prices") m (spIsCheap K) dvs E ta t) σ H := rd_meth hh ha hm fun y vs H2 hy hv Q q => by
  have a := al_app hv (hd H2)
  rw [he] at a
  obtain ⟨xv, lv, hv, ev, a0, a1, a2⟩ := al3 a
  rw [ev]
  exact g_isch hy h1 h2 a1 a2 hl a0 hx e hr fun H' e' => q _ _ e' (Dp.bl _)
/-- by words alone -/
theorem rd_methW {sp : Sp} {r : Kd} {gV : List V → List V → List V} (hh : Rd K (.h n pp) ta σ H) (ha : RdA K ks tk σ H) (hm : ∀ s w d, (hostF n s w d).lookup m = none)
    (hs : ∀ x zs H2, HostAt K H2 x n pp → Al K H2 zs ks → ∀ Q : VK, (∀ v H3, Ex H2 H3 → r.P K v H3 → Q v H3) → sp (gV [x] zs) H2 Q E) : Rd K r (tMethW (He.ga K "Prices") m ks.length sp gV E ta tk) σ H := fun H1 e Q q =>
  hh H1 e _ fun x H2 e2 hx => at_host hx hm (ha H2 (e.trans e2) _ fun vs H3 e3 hv => ⟨hv.length, hs x vs H3 (HostAt.ex e3 hx) hv Q fun v H4 e4 hr => q v H4 ((e2.trans e3).trans e4) hr⟩)
/-- hosts -/
theorem rd_ints {xs : List Int} {n : Nat} (h : Rd K (.d (.tuple (xs.map PyData.int))) te σ H) (hl : xs.length = n := by rfl) (hx : ∀ x ∈ xs, -1000000 < x ∧ x < 1000000 := by decide) : Rd K (.s n (some xs)) te σ H := fun H1 e Q q => h H1 e _ fun v H2 e2 hv => by
  refine q v H2 e2 ?_
  cases hv with
  | tup hs ha =>
    have key : ∀ {vs : List V} {xs : List Int}, DpAll K H2 vs (xs.map PyData.int) → vs = xs.map V.int := by
      intro vs xs
      induction xs generalizing vs with
      | nil => intro h; cases h; rfl
      | cons x xs ih =>
        intro h
        cases h with
        | cons h1 h2 =>
          cases h1
          rw [ih h2]
          rfl
    rw [key ha] at hs
    exact ⟨_, rfl, hs, hl, hx⟩
theorem rd_mk {so wo : Option (List Int)} {brs : List (Nat × Nat × Int)} {ds : List Kd} (ha : RdA K ks t σ H) (hd : ∀ H, Al K H dvs ds) (he : ks ++ ds = [.d (.int n), .s (n + 1) so, .s n wo, .b n brs]) (h2 : n ≤ 40) :
    Rd K (.h n (ppF so wo (extF brs))) (tMake (He.ga K "Prices") (spInit K) dvs E t) σ H := fun H1 e Q q => ha H1 e _ fun vs H2 e2 hv x dx hx hdx hne => by
  have a := al_app hv (hd H2)
  rw [he] at a
  obtain ⟨nv, sv, wv, bv, ev, a0, a1, a2, a3⟩ := al4 a
  rw [ev]
  cases a0
  exact mk_host hx hdx hne h2 a1 a2 a3 fun H3 e3 hh => q _ _ (e2.trans e3) hh
theorem rd_mkW {so wo : Option (List Int)} {brs : List (Nat × Nat × Int)} {js : List Kd} {gV : List V → List V → List V} (ha : RdA K ks t σ H) (hk : RdA K js tk σ H) (hg : ∀ vs zs (x : V) H, Al K H vs ks → Al K H zs js → ∃ rs, gV (x :: vs) zs = x :: rs ∧ Al K H rs [.d (.int n), .s (n + 1) so, .s n wo, .b n brs]) (h2 : n ≤ 40) :
    Rd K (.h n (ppF so wo (extF brs))) (tMakeN (He.ga K "Prices") ks.length js.length (spInit K) gV E t tk) σ H := fun H1 e Q q => ha H1 e _ fun vs H2 e2 hv => hk H2 (e.trans e2) _ fun zs H3 e3 hz => ⟨hv.length, hz.length, fun x dx hx hdx hne => by
  obtain ⟨rs, er, a⟩ := hg vs zs (.ref x) H3 (Al.ex e3 hv) hz
  rw [er]
  obtain ⟨nv, sv, wv, bv, ev, a0, a1, a2, a3⟩ := al4 a
  rw [ev]
  cases a0
  exact mk_host hx hdx hne h2 a1 a2 a3 fun H4 e4 hh => q _ _ ((e2.trans e3).trans e4) hh⟩
/-- one bracket's price -/
theorem rd_br {a b : Nat} {c : Int} {te3 : TE} (h : Rd K (.d (.int c)) te3 σ H) (n : Nat) (ha : 1 ≤ a ∧ a ≤ n ∧ 1 ≤ b ∧ b ≤ n := by decide) :
    Rd K (.b n [(a, b, c)]) (tTup (tCons (tTup (tCons (tC (.int a)) (tCons (tC (.int b)) (tCons te3 tNil)))) tNil)) σ H := fun H1 e Q q => h H1 e _ fun v H2 e2 hv => by
  cases hv
  refine ⟨(by show 3 ≤ sizeLine; decide), fun p hp => ⟨(by show 1 ≤ sizeLine; decide), fun r hr => ?_⟩⟩
  have e3 := Evl.Ex.new (o := .tup [V.int a, V.int b, V.int c]) hp
  have e4 := Evl.Ex.new (o := .tup [V.ref p]) hr
  refine q _ _ ((e2.trans e3).trans e4) ⟨r, _, rfl, SqT.of upd_same, .cons ⟨p, rfl, e4 _ _ upd_same⟩ .nil, (by show 1 ≤ 100; decide), fun z hz => ?_⟩
  rw [List.mem_singleton] at hz
  rw [hz]
  exact ha
/-- heard -/
theorem rd_heard {c : Int} {d : PyData} (ha : RdA K [.h n pp, .d (.int c), .o lo, .o hi] t σ H) (h1 : 1 ≤ n) (h2 : n ≤ 6) (hl : ∀ l, limF n lo hi = .ok l → l.length + 1 = n) (e : heardF n lo hi pp c = d) : Rd K (.d d) (tCall (spHeard K) [] E t) σ H := fun H1 e1 Q q => ha H1 e1 _ fun vs H2 e2 hv => by
  obtain ⟨sv, cv, lv, ev, rfl, a0, a1, a2, a3⟩ := al4 hv
  cases a1
  exact ⟨n, c, lo, hi, sv, lv, ev, pp, rfl, h1, h2, a0, a2, a3, hl, fun v H3 e3 hd => q v H3 (e2.trans e3) (by rw [e] at hd; exact hd)⟩
theorem rd_eqD {x y : PyData} {b : Bool} (ha : Rd K (.d x) ta σ H) (hb : Rd K (.d y) tb σ H) (h1 : SeqAt.shaped x = true) (h2 : SeqAt.shaped y = true) (h3 : PyData.eqv x y = b) : Rd K (.d (.bool b)) (tOp (rEqD K) ta tb) σ H := fun H1 e Q q =>
  ha H1 e _ fun u H2 e2 hu => hb H2 (e.trans e2) _ fun v H3 e3 hv => ⟨x, y, dp_ex e3 hu, hv, h1, h2, q _ _ (e2.trans e3) (by rw [h3]; exact Dp.bl _)⟩
/-- comprehensions -/
theorem pairD {α : Type} {dat : α → PyData} : ∀ {as : List α} {vs : List V}, DpAll K H vs (as.map dat) → Paired (fun v z => Dp K H v (dat z)) vs as
  | [], _, h => by cases h; exact .nil
  | a :: as, _, h => by
    cases h with
    | cons h1 h2 => exact .cons h1 (pairD h2)
theorem dAll {γ : Type} {U : Hp → V → γ → Prop} {toD : γ → PyData} (hU : ∀ H v x, U H v x → Dp K H v (toD x)) : ∀ {vs : List V} {xs : List γ}, Paired (U H) vs xs → DpAll K H vs (xs.map toD)
  | _, _, .nil => .nil
  | _, _, .cons h t => .cons (hU _ _ _ h) (dAll hU t)
section
variable {α γ : Type} {U : Hp → V → γ → Prop} {as : List α} {dat : α → PyData} {gg : α → γ} {toD : γ → PyData} {i : Nat}
theorem wipe1 {σ : L2.St} {i : Nat} {x : Option V} : wipe (σ.set i x) [i] = wipe σ [i] := by
  show (σ.set i x).set i none = σ.set i none
  rw [List.set_set]
theorem wipe2 {σ : L2.St} {i : Nat} {x : Option V} : (wipe σ [i]).set i x = σ.set i x := by
  show (σ.set i none).set i x = σ.set i x
  rw [List.set_set]
theorem wipe3 {σ : L2.St} {i : Nat} {x : Option V} : wipe ((wipe σ [i]).set i x) [i] = wipe σ [i] := by rw [wipe2, wipe1]
theorem rd_lcL (mU : MonoT U) (hU : ∀ H v x, U H v x → Dp K H v (toD x)) (hl : Rd K (.d (.list (as.map dat))) ta σ H) (hz : as.length < 100000)
    (item : ∀ z, z ∈ as → ∀ v H2, Ex H H2 → Dp K H2 v (dat z) → ∀ Q : VK, (∀ u H3, Ex H2 H3 → U H3 u (gg z) → Q u H3) → te (σ.set i (some v)) H2 Q) : Rd K (.d (.list ((as.map gg).map toD))) (tLc (iList K ta) (gName i) tYes te [i]) σ H := by
  intro H1 e1 Q q
  refine hl H1 e1 _ fun v H2 e2 hv => ?_
  cases hv with
  | @lst a xs _ hs hx =>
    refine ⟨a, rfl, ⟨xs, hs⟩, fun Da hD => ?_⟩
    refine lc_map (R := fun H v z => Dp K H v (dat z)) gg (src_list (fun _ _ _ _ e h => dp_ex e h) hs (pairD hx)) mU hz (fun j z x H4 hi e r Ky ky => ⟨wipe3, by rw [wipe2]; exact item z (List.mem_of_getElem? hi) x H4 ((e1.trans e2).trans e) r Ky ky⟩) gm_name hD fun ys H4 e hy p => ?_
    exact q _ _ (e2.trans e) (Dp.lst (SqL.of hy) (dAll hU p))
theorem rd_lcT (mU : MonoT U) (hU : ∀ H v x, U H v x → Dp K H v (toD x)) (hl : Rd K (.d (.tuple (as.map dat))) ta σ H) (hz : as.length < 100000)
    (item : ∀ z, z ∈ as → ∀ v H2, Ex H H2 → Dp K H2 v (dat z) → ∀ Q : VK, (∀ u H3, Ex H2 H3 → U H3 u (gg z) → Q u H3) → te (σ.set i (some v)) H2 Q) : Rd K (.d (.list ((as.map gg).map toD))) (tLc (iTup K ta) (gName i) tYes te [i]) σ H := by
  intro H1 e1 Q q
  refine hl H1 e1 _ fun v H2 e2 hv => ?_
  cases hv with
  | @tup a xs _ hs hx =>
    refine ⟨a, rfl, ⟨xs, hs⟩, fun Da hD => ?_⟩
    refine lc_map (R := fun H v z => Dp K H v (dat z)) gg (src_tup (fun _ _ _ _ e h => dp_ex e h) hs (pairD hx)) mU hz (fun j z x H4 hi e r Ky ky => ⟨wipe3, by rw [wipe2]; exact item z (List.mem_of_getElem? hi) x H4 ((e1.trans e2).trans e) r Ky ky⟩) gm_name hD fun ys H4 e hy p => ?_
    exact q _ _ (e2.trans e) (Dp.lst (SqL.of hy) (dAll hU p))
theorem rd_lcR {c : Nat} {gg : Int → γ} (mU : MonoT U) (hU : ∀ H v x, U H v x → Dp K H v (toD x)) (hz : c < 100000)
    (item : ∀ z : Nat, z < c → ∀ H2, Ex H H2 → ∀ Q : VK, (∀ u H3, Ex H2 H3 → U H3 u (gg z) → Q u H3) → te (σ.set i (some (.int z))) H2 Q) : Rd K (.d (.list ((((List.range c).map fun i : Nat => (0 : Int) + (i : Int)).map gg).map toD))) (tLc (iRng1 (tCons (tC (.int c)) tNil)) (gName i) tYes te [i]) σ H := by
  intro H1 e1 Q q
  refine ⟨c, rfl, by omega, by omega, fun Da hD => ?_⟩
  rw [Int.toNat_natCast]
  refine lc_map (R := RInt) gg src_rng mU (by rw [List.length_map, List.length_range]; exact hz) (fun j z x H4 hi e r Ky ky => ?_) gm_name hD fun ys H4 e hy p => ?_
  · have h := (List.getElem?_eq_some_iff.mp hi).1
    rw [List.length_map, List.length_range] at h
    rw [List.getElem?_map, List.getElem?_range h] at hi
    have e2 : (0 : Int) + (j : Int) = z := Option.some.inj hi
    rw [Int.zero_add] at e2
    subst e2
    cases (show x = .int (j : Int) from r)
    exact ⟨wipe3, by rw [wipe2]; exact item j h H4 (e1.trans e) Ky ky⟩
  · exact q _ _ e (Dp.lst (SqL.of hy) (dAll hU p))
end
theorem hU_bl : ∀ (H : Hp) (v : V) (x : Bool), RBl H v x → Dp K H v (.bool x) := fun H v x h => by
  cases (show v = .bl x from h)
  exact .bl x
theorem hU_tr : ∀ (H : Hp) (v : V) (x : Tr), RTr K H v x → Dp K H v x.tp := fun H v x h => h
end
/-! ### the slots -/
def Sta (K : PySem.W.Frag) (H0 H : Hp) (σ : L2.St) (ks : List (Option Kd)) : Prop := Ex H0 H ∧ σ.length = ks.length ∧ ∀ (i : Nat) (k : Kd), ks[i]? = some (some k) → ∃ v, σ[i]? = some (some v) ∧ k.P K v H
section
variable {K : PySem.W.Frag} {k : Kd} {ks : List (Option Kd)} {te : TE} {σ : L2.St} {H0 H H' : Hp} {i : Nat} {v : V}
theorem Sta.ex (S : Sta K H0 H σ ks) (e : Ex H H') : Sta K H0 H' σ ks := ⟨S.1.trans e, S.2.1, fun i k h => by
  obtain ⟨v, h1, h2⟩ := S.2.2 i k h
  exact ⟨v, h1, Kd.ex e h2⟩⟩
theorem Sta.rd (S : Sta K H0 H σ ks) (h : ks[i]? = some (some k)) : Rd K k (tVar i) σ H := by
  obtain ⟨v, h1, h2⟩ := S.2.2 i k h
  exact rd_var h1 h2
theorem Sta.set (S : Sta K H0 H σ ks) (i : Nat) (h : k.P K v H) : Sta K H0 H (σ.set i (some v)) (ks.set i (some k)) := ⟨S.1, by rw [List.length_set, List.length_set]; exact S.2.1, fun j k' h' => by
  by_cases c : i = j
  · subst c
    by_cases z : i < ks.length
    · rw [List.getElem?_set_self z] at h'
      cases h'
      exact ⟨v, List.getElem?_set_self (by rw [S.2.1]; exact z), h⟩
    · rw [List.getElem?_eq_none (by rw [List.length_set]; omega)] at h'
      cases h'
  · rw [List.getElem?_set_ne c] at h' ⊢
    exact S.2.2 j k' h'⟩
theorem Sta.step {rest : TS} {D : Ends} {ks' : List (Option Kd)} (S : Sta K H0 H σ ks) (h : Rd K k te σ H) (e : ks.set i (some k) = ks') (q : ∀ σ' H', Sta K H0 H' σ' ks' → rest D σ' H') : tSeq (tAsg te (gName i)) rest D σ H := h H (exr _) _ fun v H' e' hv => q _ _ (by rw [← e]; exact (S.ex e').set i hv)
end
/-! ### checks -/
def smB : Nat → PyData → Bool
  | 0, _ => false
  | n + 1, .list ds => decide (ds.length < 100000) && ds.all (smB n)
  | n + 1, .tuple ds => decide (ds.length < 100000) && ds.all (smB n)
  | _ + 1, _ => true
theorem sm_of : ∀ {n : Nat} {d : PyData}, smB n d = true → Sm n d
  | n + 1, .list ds, h => by
    have h2 := Bool.and_eq_true_iff.mp h
    exact ⟨of_decide_eq_true h2.1, fun d hd => sm_of (List.all_eq_true.mp h2.2 d hd)⟩
  | n + 1, .tuple ds, h => by
    have h2 := Bool.and_eq_true_iff.mp h
    exact ⟨of_decide_eq_true h2.1, fun d hd => sm_of (List.all_eq_true.mp h2.2 d hd)⟩
  | n + 1, .none, _ => trivial
  | n + 1, .bool _, _ => trivial
  | n + 1, .int _, _ => trivial
  | n + 1, .str _, _ => trivial
  | n + 1, .dict _, _ => trivial
def spB : Tr → Nat → Nat → Bool
  | .lf n, a, b => decide (n = a) && decide (a = b)
  | .nd l r, a, b => (decide (a ≤ l.lst) && decide (l.lst < b)) && (spB l a l.lst && spB r (l.lst + 1) b)
theorem sp_of : ∀ {t : Tr} {a b : Nat}, spB t a b = true → Span t a b
  | .lf n, a, b, h => by
    have h2 := Bool.and_eq_true_iff.mp h
    exact ⟨of_decide_eq_true h2.1, of_decide_eq_true h2.2⟩
  | .nd l r, a, b, h => by
    have h2 := Bool.and_eq_true_iff.mp h
    have h3 := Bool.and_eq_true_iff.mp h2.1
    have h4 := Bool.and_eq_true_iff.mp h2.2
    exact ⟨l.lst, of_decide_eq_true h3.1, of_decide_eq_true h3.2, sp_of h4.1, sp_of h4.2⟩
theorem isch_t {n m : Nat} {l : List (Nat × Nat)} {pp : Nat → Nat → Nat → Int} {r : Bool} (t : Tr) (hg : isGr t.tp = true) (hs : spB t 1 m = true) (hm : m ≤ 20) (h1 : (decide (m ≠ n) && r) = false) (h2 : decide (m = n) = true → r = (insideF l t && decide (bestV pp (tpL l) 1 1 n = some (price pp t)))) : IsCh n l pp t.tp r :=
  .inr ⟨t, m, rfl, hg, sp_of hs, hm, fun h => by rw [decide_eq_true h, Bool.true_and] at h1; exact h1, fun h => h2 (decide_eq_true h)⟩
theorem am {α : Type} {P : α → Prop} {a : α} {l : List α} (h : P a) (r : ∀ z, z ∈ l → P z) : ∀ z, z ∈ a :: l → P z := fun z hz => by
  rcases List.mem_cons.mp hz with rfl | m
  · exact h
  · exact r z m
theorem am0 {α : Type} {P : α → Prop} : ∀ z, z ∈ ([] : List α) → P z := fun z hz => nomatch hz
theorem al1 {K : PySem.W.Frag} {H : Hp} {vs : List V} {a : Kd} (h : Al K H vs [a]) : ∃ x, vs = [x] ∧ a.P K x H := by
  cases h with
  | cons h1 h =>
    cases h
    exact ⟨_, rfl, h1⟩
theorem bl_inv {K : PySem.W.Frag} {H : Hp} {v : V} {b : Bool} (h : Dp K H v (.bool b)) : RBl H v b := by
  cases h
  rfl
end RG

set_option Elab.async false
set_option linter.all false
set_option maxRecDepth 100000
set_option maxHeartbeats 4000000
namespace RG
open PySem PySem.Spec PyProof.Rows L2
variable {P : Program} {w : World} {K : PySem.W.Frag} {mg : Str → Option Value} {base : Heap}
/-! ### by_hand_right -/
def ksF (g d t : Option Kd) : List (Option Kd) := [some (.d tLeft.tp), some (.d tNear.tp), some (.d tTwos.tp), some (.d tFar.tp), some (.d tRight.tp), some (.h 4 pM), some (.h 4 pH), some (.h 4 pF), g, d, t, none, none]
theorem sta0 {H H0 : Hp} {vl vn vt vf vr vm vh vw : V} (e : Ex H H0) (l0 : Dp K H0 vl tLeft.tp) (n0 : Dp K H0 vn tNear.tp) (t0 : Dp K H0 vt tTwos.tp) (f0 : Dp K H0 vf tFar.tp) (r0 : Dp K H0 vr tRight.tp) (m0 : HostAt K H0 vm 4 pM) (v0 : HostAt K H0 vh 4 pH) (w0 : HostAt K H0 vw 4 pF) :
    Sta K H H0 [some vl, some vn, some vt, some vf, some vr, some vm, some vh, some vw, none, none, none, none, none] (ksF none none none) := ⟨e, rfl, fun i k h => by
  match i, h with
  | 0, h => cases h; exact ⟨vl, rfl, l0⟩
  | 1, h => cases h; exact ⟨vn, rfl, n0⟩
  | 2, h => cases h; exact ⟨vt, rfl, t0⟩
  | 3, h => cases h; exact ⟨vf, rfl, f0⟩
  | 4, h => cases h; exact ⟨vr, rfl, r0⟩
  | 5, h => cases h; exact ⟨vm, rfl, m0⟩
  | 6, h => cases h; exact ⟨vh, rfl, v0⟩
  | 7, h => cases h; exact ⟨vw, rfl, w0⟩
  | 8, h => cases h
  | 9, h => cases h
  | 10, h => cases h
  | 11, h => cases h
  | 12, h => cases h
  | n + 13, h => cases h⟩
theorem flat_at {z : Nat} (hz : z < 5) : [tRight, tFar, tTwos, tNear, tLeft][((z : Int)).toNat]? = some (([tRight, tFar, tTwos, tNear, tLeft][((z : Int)).toNat]?).getD tLeft) := by
  match z, hz with
  | 0, _ => rfl
  | 1, _ => rfl
  | 2, _ => rfl
  | 3, _ => rfl
  | 4, _ => rfl
theorem heavy_0 : ∀ z : Int × Tr, z ∈ [((0 : Int), tNear), (1, tLeft)] → 0 ≤ z.1 := am (by decide) (am (by decide) am0)
theorem heavy_at : ∀ z : Int × Tr, z ∈ [((0 : Int), tNear), (1, tLeft)] → [tNear, tLeft][z.1.toNat]? = some z.2 := am rfl (am rfl am0)
theorem v_best_heavy : bestV pH (tpL (rowsF 4 none none)) 1 1 4 = some 13 := by decide +kernel
def th : List (PyData × Bool) := [(tLeft.tp, true), (tRight.tp, false), (.list [.list [.list [.int 1, .int 2], .int 3], .int 4], false), (.tuple [.int 1, .tuple [.int 2, .int 3]], false), (.int 1, false), (.none, false), (.tuple [.tuple [.int 1, .int 2], .int 3, .int 4], false), (.str "", false), (.tuple [.tuple [.tuple [.int 1, .int 2], .int 3], .int 5], false), (.bool true, false)]
theorem th_is : ∀ z, z ∈ th → IsCh 4 (rowsF 4 none none) pH z.1 z.2 := am (isch_t (m := 4) tLeft (by kernel_rfl) (by decide +kernel) (by decide) (by decide) fun _ => by decide +kernel) (am (isch_t (m := 4) tRight (by kernel_rfl) (by decide +kernel) (by decide) (by decide) fun _ => by decide +kernel)
  (am (.inl ⟨by kernel_rfl, rfl⟩) (am (isch_t (m := 3) (.nd (.lf 1) (.nd (.lf 2) (.lf 3))) (by kernel_rfl) (by decide +kernel) (by decide) (by decide) fun h => nomatch h) (am (isch_t (m := 1) (.lf 1) (by kernel_rfl) (by decide +kernel) (by decide) (by decide) fun h => nomatch h)
  (am (.inl ⟨by kernel_rfl, rfl⟩) (am (.inl ⟨by kernel_rfl, rfl⟩) (am (.inl ⟨by kernel_rfl, rfl⟩) (am (.inl ⟨by kernel_rfl, rfl⟩) (am (.inl ⟨by kernel_rfl, rfl⟩) am0)))))))))
theorem th_dep : ∀ z, z ∈ th → z.1.depth < 30 := am (by decide +kernel) (am (by decide +kernel) (am (by decide +kernel) (am (by decide +kernel) (am (by decide +kernel) (am (by decide +kernel) (am (by decide +kernel) (am (by decide +kernel) (am (by decide +kernel) (am (by decide +kernel) am0)))))))))
def tw : List (PyData × Bool) := [(tLeft.tp, true), (tTwos.tp, false), (tRight.tp, false)]
theorem tw_is : ∀ z, z ∈ tw → IsCh 4 (rowsF 4 none (some tTwos)) pM z.1 z.2 := am (isch_t (m := 4) tLeft (by kernel_rfl) (by decide +kernel) (by decide) (by decide) fun _ => by decide +kernel) (am (isch_t (m := 4) tTwos (by kernel_rfl) (by decide +kernel) (by decide) (by decide) fun _ => by decide +kernel)
  (am (isch_t (m := 4) tRight (by kernel_rfl) (by decide +kernel) (by decide) (by decide) fun _ => by decide +kernel) am0))
theorem tw_dep : ∀ z, z ∈ tw → z.1.depth < 30 := am (by decide +kernel) (am (by decide +kernel) (am (by decide +kernel) am0))
theorem h_1 : heardF 4 none none pM 1 = .list [.str "number", .int 1, .bool true] := by kernel_rfl
theorem h_2 : heardF 4 none none pM (-1) = .list [.str "number", .int (-1), .bool true] := by kernel_rfl
theorem h_3 : heardF 4 (some tRight) (some tLeft) pM 0 = .list [.str "behind", .bool true] := by kernel_rfl
theorem h_4 : heardF 4 (some tNear) (some tTwos) pM 0 = .list [.str "behind", .bool true] := by kernel_rfl
theorem h_5 : heardF 4 (some (.nd (.lf 1) (.lf 2))) (some tLeft) pM 0 = .list [.str "unlike", .bool true] := by kernel_rfl
theorem h_6 : heardF 4 (some tRight) (some (.nd (.lf 1) (.lf 2))) pM 0 = .list [.str "unlike", .bool true] := by kernel_rfl
theorem rd_cheapW {σ : L2.St} {H : Hp} {ta te1 te2 te3 : TE} {E : XK} {m : Str} {n : Nat} {pp : Nat → Nat → Nat → Int} {lo hi : Option Tr} {l : List (Nat × Nat)} {i : Int} {x : Tr} {ts : List Tr} (hh : Rd K (.h n pp) ta σ H) (a1 : Rd K (.o hi) te1 σ H) (a2 : Rd K (.o lo) te2 σ H) (a3 : Rd K (.d (.int i)) te3 σ H)
    (hm : ∀ s w d, (hostF n s w d).lookup m = none) (hl : LimOk n lo hi l) (e : GD (tpB pp (tpL l) 1) 1 n = ts) (hi0 : 0 ≤ i) (ht : ts[i.toNat]? = some x) (h1 : 1 ≤ n := by decide) (h2 : n ≤ 6 := by decide) :
    Rd K (.d x.tp) (tMethW (He.ga K "Prices") m (["high", "low", "number"] : List Str).length (spCheapest K) (fun vs zs => vs ++ (zs.drop 2 ++ ((zs.drop 1).take 1 ++ zs.take 1))) E ta (tCons te1 (tCons te2 (tCons te3 tNil)))) σ H :=
  rd_methW (ks := [.o hi, .o lo, .d (.int i)]) hh (ra_cons a1 (ra_cons a2 (ra_cons a3 ra_nil))) hm fun y zs H2 hy hv Q q => by
    obtain ⟨u1, u2, u3, rfl, b1, b2, b3⟩ := al3 hv
    cases b3
    exact g_cheap hy h1 h2 b2 b1 hl e hi0 ht fun u H' e' hu => q _ _ e' hu
theorem rd_ischW {σ : L2.St} {H : Hp} {ta te1 te2 : TE} {E : XK} {m : Str} {n : Nat} {pp : Nat → Nat → Nat → Int} {hi : Option Tr} {l : List (Nat × Nat)} {d : PyData} {c : Int} {r : Bool} (hh : Rd K (.h n pp) ta σ H) (a1 : Rd K (.o hi) te1 σ H) (a2 : Rd K (.d d) te2 σ H)
    (hm : ∀ s w d, (hostF n s w d).lookup m = none) (hl : LimOk n none hi l) (hx : d.depth < 30) (e : bestV pp (tpL l) 1 1 n = some c) (hr : IsCh n l pp d r) (h1 : 1 ≤ n := by decide) (h2 : n ≤ 6 := by decide) :
    Rd K (.d (.bool r)) (tMethW (He.ga K "Prices") m (["high", "thing"] : List Str).length (spIsCheap K) (fun vs zs => vs ++ (zs.drop 1 ++ (((d_P_is_cheapest.dvs K)).take 1 ++ zs.take 1))) E ta (tCons te1 (tCons te2 tNil))) σ H :=
  rd_methW (ks := [.o hi, .d d]) hh (ra_cons a1 (ra_cons a2 ra_nil)) hm fun y zs H2 hy hv Q q => by
    obtain ⟨u1, u2, rfl, b1, b2⟩ := al2 hv
    exact g_isch (lv := .non) hy h1 h2 (show OpT K H2 .non none from rfl) b1 hl b2 hx e hr fun H' e' => q _ _ e' (Dp.bl _)
theorem ok_hand (T : Txt K mg) (dT : ∃ a, d_P_init.dvs K = [.non, .non, .ref a] ∧ ∀ H : Hp, SqT K H a []) (MK1 : MkOk P w K mg base (d_P_init.dvs K) 3 (spInit K)) (MK2 : MkOk P w K mg base ((d_P_init.dvs K).drop 1) 3 (spInit K))
    (MK_weights : MkWOk P w K mg base ["weights"] (fun vs zs => vs ++ ((d_P_init.dvs K).take 1 ++ (zs ++ (d_P_init.dvs K).drop 2))) 3 (spInit K)) (MK_brackets : MkWOk P w K mg base ["brackets"] (fun vs zs => vs ++ ((d_P_init.dvs K).take 2 ++ zs)) 3 (spInit K))
    (M_least0 : MetOk P w K mg base CX0 "least" p_P_least [.non, .non] 39 (spEnd K 1)) (M_least2 : MetOk P w K mg base CX0 "least" p_P_least [] 39 (spEnd K 1))
    (M_greatest0 : MetOk P w K mg base CX0 "greatest" p_P_greatest [.non, .non] 39 (spEnd K (-1))) (M_greatest1 : MetOk P w K mg base CX0 "greatest" p_P_greatest [.non] 39 (spEnd K (-1))) (M_greatest2 : MetOk P w K mg base CX0 "greatest" p_P_greatest [] 39 (spEnd K (-1)))
    (M_how_many0 : MetOk P w K mg base CX0 "how_many" p_P_how_many [.non, .non] 40 (spHowMany K)) (M_how_many2 : MetOk P w K mg base CX0 "how_many" p_P_how_many [] 40 (spHowMany K))
    (M_mean0 : MetOk P w K mg base CX0 "mean" p_P_mean [.non, .non] 40 (spMean K)) (M_mean2 : MetOk P w K mg base CX0 "mean" p_P_mean [] 40 (spMean K))
    (M_cheapest0 : MetOk P w K mg base (L2.CX P w) "cheapest" p_P_cheapest [.int 0, .non, .non] 40 (spCheapest K)) (M_cheapest1 : MetOk P w K mg base (L2.CX P w) "cheapest" p_P_cheapest [.non, .non] 40 (spCheapest K))
    (M_is_cheapest1 : MetOk P w K mg base CX0 "is_cheapest" p_P_is_cheapest [.non, .non] 40 (spIsCheap K)) (M_is_cheapest3 : MetOk P w K mg base CX0 "is_cheapest" p_P_is_cheapest [] 40 (spIsCheap K))
    (W_cheapest : MetWOk P w K mg base (L2.CX P w) "cheapest" p_P_cheapest ["high", "low", "number"] (fun vs zs => vs ++ (zs.drop 2 ++ ((zs.drop 1).take 1 ++ zs.take 1))) 40 (spCheapest K))
    (W_is_cheapest : MetWOk P w K mg base CX0 "is_cheapest" p_P_is_cheapest ["high", "thing"] (fun vs zs => vs ++ (zs.drop 1 ++ (((d_P_is_cheapest.dvs K)).take 1 ++ zs.take 1))) 40 (spIsCheap K))
    (D_L_same : DefOk P w K mg base CX0 "_law_same" p_L_same 10 (spSame K 10)) (D_L_heard : DefOk P w K mg base CX0 "_law_heard" p_L_heard 41 (spHeard K)) : DefOk P w K mg base CX0 "_law_by_hand_right" p_L_by_hand_right 45 spHand := by
  obtain ⟨fd, F⟩ := T.F_L_by_hand_right
  refine ⟨⟨_, fd, T.g_L_by_hand_right, F.kp, F.bindsN (ps := p_L_by_hand_right) (fun _ _ _ _ _ _ us hl => match us, hl with | [], _ => rfl), F.ok sc_L_by_hand_right (fun vs H Q E h => ?_) fun cdv A outer s H vs Q E hr h => ?_⟩⟩
  · obtain ⟨rfl, _⟩ := h
    rfl
  obtain ⟨rfl, q⟩ := h
  refine ⟨_, PSs.nox (pss_cons (ps_asg (pe_tup (pa_cons (pe_tup (pa_cons (pe_tup (pa_cons (pe_tup (pa_cons pe_int (pa_cons pe_int pa_nil))) (pa_cons pe_int pa_nil))) (pa_cons pe_int pa_nil))) (pa_cons (pe_tup (pa_cons (pe_tup (pa_cons pe_int (pa_cons (pe_tup (pa_cons pe_int (pa_cons pe_int pa_nil))) pa_nil))) (pa_cons pe_int pa_nil))) (pa_cons (pe_tup (pa_cons (pe_tup (pa_cons pe_int (pa_cons pe_int pa_nil))) (pa_cons (pe_tup (pa_cons pe_int (pa_cons pe_int pa_nil))) pa_nil))) pa_nil)))) (pg_tup rfl (pgs_cons (pg_name (i := 0) sc_L_by_hand_right.nd rfl (Or.inl rfl)) (pgs_cons (pg_name (i := 1) sc_L_by_hand_right.nd rfl (Or.inl rfl)) (pgs_cons (pg_name (i := 2) sc_L_by_hand_right.nd rfl (Or.inr rfl)) pgs_nil))))) (pss_cons (ps_asg (pe_tup (pa_cons (pe_tup (pa_cons pe_int (pa_cons (pe_tup (pa_cons (pe_tup (pa_cons pe_int (pa_cons pe_int pa_nil))) (pa_cons pe_int pa_nil))) pa_nil))) (pa_cons (pe_tup (pa_cons pe_int (pa_cons (pe_tup (pa_cons pe_int (pa_cons (pe_tup (pa_cons pe_int (pa_cons pe_int pa_nil))) pa_nil))) pa_nil))) pa_nil))) (pg_tup rfl (pgs_cons (pg_name (i := 3) sc_L_by_hand_right.nd rfl (Or.inl rfl)) (pgs_cons (pg_name (i := 4) sc_L_by_hand_right.nd rfl (Or.inl rfl)) pgs_nil)))) (pss_cons (ps_asg (pe_tup (pa_cons (pe_mkp (K := K) T.mkP T.g_Prices MK2 (hr.mono (by omega)) pass0 (pa_cons pe_int (pa_cons (pe_tup (pa_cons pe_int (pa_cons pe_int (pa_cons pe_int (pa_cons pe_int (pa_cons pe_int pa_nil)))))) pa_nil))) (pa_cons (pe_mkW (K := K) T.mkP T.g_Prices MK_weights (hr.mono (by omega)) pass0 (pa_cons pe_int pa_nil) (pk_cons (pe_tup (pa_cons pe_int (pa_cons pe_int (pa_cons pe_int (pa_cons pe_int pa_nil))))) pk_nil)) (pa_cons (pe_mkp (K := K) T.mkP T.g_Prices MK1 (hr.mono (by omega)) pass0 (pa_cons pe_int pa_nil)) pa_nil)))) (pg_tup rfl (pgs_cons (pg_name (i := 5) sc_L_by_hand_right.nd rfl (Or.inr rfl)) (pgs_cons (pg_name (i := 6) sc_L_by_hand_right.nd rfl (Or.inr rfl)) (pgs_cons (pg_name (i := 7) sc_L_by_hand_right.nd rfl (Or.inr rfl)) pgs_nil))))) (pss_cons (ps_set (i := 8) sc_L_by_hand_right.nd rfl (Or.inl rfl) (pe_lst (pa_cons (pe_md0 (K := K) (pv 5) T.cP M_least0 (hr.mono (by omega)) pass0) (pa_cons (pe_md0 (K := K) (pv 5) T.cP M_greatest0 (hr.mono (by omega)) pass0) (pa_cons (pe_md0 (K := K) (pv 5) T.cP M_mean0 (hr.mono (by omega)) pass0) (pa_cons (pe_md0 (K := K) (pv 5) T.cP M_how_many0 (hr.mono (by omega)) pass0) (pa_cons (pe_cmpR (r := rEqD K) (op_eqD (hu64 hr)) (pe_md0 (K := K) (pv 5) T.cP M_cheapest0 (hr.mono (by omega)) passL) (pv 4) (nomark _)) (pa_cons (pe_md (K := K) (pv 5) T.cP M_least2 (hr.mono (by omega)) pass0 (pa_cons pe_non (pa_cons (pv 2) pa_nil))) pa_nil)))))))) (pss_cons (ps_set (i := 9) sc_L_by_hand_right.nd rfl (Or.inl rfl) (pe_lst (pa_cons pe_int (pa_cons pe_int (pa_cons (pe_tup (pa_cons pe_int (pa_cons pe_int pa_nil))) (pa_cons pe_int (pa_cons pe_bl (pa_cons pe_int pa_nil)))))))) (pss_cons (ps_set (i := 8) sc_L_by_hand_right.nd rfl (Or.inl rfl) (pe_op op_cat (pv 8) (pe_lst (pa_cons (pe_md (K := K) (pv 5) T.cP M_least2 (hr.mono (by omega)) pass0 (pa_cons (pv 1) (pa_cons (pv 3) pa_nil))) (pa_cons (pe_md (K := K) (pv 5) T.cP M_greatest1 (hr.mono (by omega)) pass0 (pa_cons (pv 1) pa_nil)) (pa_cons (pe_md (K := K) (pv 5) T.cP M_mean2 (hr.mono (by omega)) pass0 (pa_cons (pv 1) (pa_cons (pv 1) pa_nil))) (pa_cons (pe_md (K := K) (pv 5) T.cP M_how_many2 (hr.mono (by omega)) pass0 (pa_cons (pv 1) (pa_cons (pv 3) pa_nil))) pa_nil))))))) (pss_cons (ps_set (i := 9) sc_L_by_hand_right.nd rfl (Or.inl rfl) (pe_op op_cat (pv 9) (pe_lst (pa_cons pe_int (pa_cons pe_int (pa_cons (pe_tup (pa_cons pe_int (pa_cons pe_int pa_nil))) (pa_cons pe_int pa_nil))))))) (pss_cons (ps_set (i := 8) sc_L_by_hand_right.nd rfl (Or.inl rfl) (pe_op op_cat (pv 8) (pe_lst (pa_cons (pe_lc (own := [("_law_k", 11)]) (g := (gName 11)) rfl sc_L_by_hand_right.nd (pi_range1 rfl T.f_range (pa_cons pe_int pa_nil)) (blkOk_by (own := [("_law_k", 11)]) (N := n_L_by_hand_right) (sc := (defScope s_L_by_hand_right)) (by decide +kernel)) (fun _ _ _ _ _ => (by exact (pg_name (i := 11) sc_L_by_hand_right.nd rfl (Or.inl rfl)))) (fun _ _ _ _ _ => pts_nil) (fun _ _ _ _ _ => (pe_md (K := K) (pv 7) T.cP M_cheapest1 (hr.mono (by omega)) passL (pa_cons (pv 11) pa_nil)))) (pa_cons (pe_lc (own := [("_law_k", 11)]) (g := (gName 11)) rfl sc_L_by_hand_right.nd (pi_tup (pe_tup (pa_cons pe_int (pa_cons pe_int pa_nil)))) (blkOk_by (own := [("_law_k", 11)]) (N := n_L_by_hand_right) (sc := (defScope s_L_by_hand_right)) (by decide +kernel)) (fun _ _ _ _ _ => (by exact (pg_name (i := 11) sc_L_by_hand_right.nd rfl (Or.inl rfl)))) (fun _ _ _ _ _ => pts_nil) (fun _ _ _ _ _ => (pe_md (K := K) (pv 6) T.cP M_cheapest1 (hr.mono (by omega)) passL (pa_cons (pv 11) pa_nil)))) (pa_cons (pe_md0 (K := K) (pv 6) T.cP M_mean0 (hr.mono (by omega)) pass0) (pa_cons (pe_md0 (K := K) (pv 7) T.cP M_mean0 (hr.mono (by omega)) pass0) pa_nil))))))) (pss_cons (ps_set (i := 9) sc_L_by_hand_right.nd rfl (Or.inl rfl) (pe_op op_cat (pv 9) (pe_lst (pa_cons (pe_lst (pa_cons (pv 4) (pa_cons (pv 3) (pa_cons (pv 2) (pa_cons (pv 1) (pa_cons (pv 0) pa_nil)))))) (pa_cons (pe_lst (pa_cons (pv 1) (pa_cons (pv 0) pa_nil))) (pa_cons (pe_tup (pa_cons pe_int (pa_cons pe_int pa_nil))) (pa_cons (pe_tup (pa_cons pe_int (pa_cons pe_int pa_nil))) pa_nil))))))) (pss_cons (ps_set (i := 8) sc_L_by_hand_right.nd rfl (Or.inl rfl) (pe_op op_cat (pv 8) (pe_lst (pa_cons (pe_md0 (K := K) (pe_mkW (K := K) T.mkP T.g_Prices MK_weights (hr.mono (by omega)) pass0 (pa_cons pe_int pa_nil) (pk_cons (pe_tup (pa_cons pe_int (pa_cons pe_int (pa_cons pe_int pa_nil)))) pk_nil)) T.cP M_mean0 (hr.mono (by omega)) pass0) (pa_cons (pe_md0 (K := K) (pe_mkW (K := K) T.mkP T.g_Prices MK_brackets (hr.mono (by omega)) pass0 (pa_cons pe_int pa_nil) (pk_cons (pe_tup (pa_cons (pe_tup (pa_cons pe_int (pa_cons pe_int (pa_cons (pe_un un_neg pe_int) pa_nil)))) pa_nil)) pk_nil)) T.cP M_mean0 (hr.mono (by omega)) pass0) (pa_cons (pe_md (K := K) (pv 7) T.cP M_how_many2 (hr.mono (by omega)) pass0 (pa_cons (pv 0) (pa_cons (pv 4) pa_nil))) pa_nil)))))) (pss_cons (ps_set (i := 9) sc_L_by_hand_right.nd rfl (Or.inl rfl) (pe_op op_cat (pv 9) (pe_lst (pa_cons (pe_tup (pa_cons pe_int (pa_cons pe_int pa_nil))) (pa_cons (pe_tup (pa_cons (pe_un un_neg pe_int) (pa_cons pe_int pa_nil))) (pa_cons pe_int pa_nil)))))) (pss_cons (ps_set (i := 10) sc_L_by_hand_right.nd rfl (Or.inl rfl) (pe_lst (pa_cons (pv 0) (pa_cons (pv 4) (pa_cons (pe_lst (pa_cons (pe_lst (pa_cons (pe_lst (pa_cons pe_int (pa_cons pe_int pa_nil))) (pa_cons pe_int pa_nil))) (pa_cons pe_int pa_nil))) (pa_cons (pe_tup (pa_cons pe_int (pa_cons (pe_tup (pa_cons pe_int (pa_cons pe_int pa_nil))) pa_nil))) (pa_cons pe_int (pa_cons pe_non (pa_cons (pe_tup (pa_cons (pe_tup (pa_cons pe_int (pa_cons pe_int pa_nil))) (pa_cons pe_int (pa_cons pe_int pa_nil)))) (pa_cons pe_str (pa_cons (pe_tup (pa_cons (pe_tup (pa_cons (pe_tup (pa_cons pe_int (pa_cons pe_int pa_nil))) (pa_cons pe_int pa_nil))) (pa_cons pe_int pa_nil))) (pa_cons pe_bl pa_nil)))))))))))) (pss_cons (ps_set (i := 8) sc_L_by_hand_right.nd rfl (Or.inl rfl) (pe_op op_cat (pv 8) (pe_lst (pa_cons (pe_lc (own := [("_law_own", 12)]) (g := (gName 12)) rfl sc_L_by_hand_right.nd (pi_list (pv 10)) (blkOk_by (own := [("_law_own", 12)]) (N := n_L_by_hand_right) (sc := (defScope s_L_by_hand_right)) (by decide +kernel)) (fun _ _ _ _ _ => (by exact (pg_name (i := 12) sc_L_by_hand_right.nd rfl (Or.inl rfl)))) (fun _ _ _ _ _ => pts_nil) (fun _ _ _ _ _ => (pe_md (K := K) (pv 6) T.cP M_is_cheapest1 (hr.mono (by omega)) pass0 (pa_cons (pv 12) pa_nil)))) (pa_cons (pe_lc (own := [("_law_own", 12)]) (g := (gName 12)) rfl sc_L_by_hand_right.nd (pi_tup (pe_tup (pa_cons (pv 0) (pa_cons (pv 2) (pa_cons (pv 4) pa_nil))))) (blkOk_by (own := [("_law_own", 12)]) (N := n_L_by_hand_right) (sc := (defScope s_L_by_hand_right)) (by decide +kernel)) (fun _ _ _ _ _ => (by exact (pg_name (i := 12) sc_L_by_hand_right.nd rfl (Or.inl rfl)))) (fun _ _ _ _ _ => pts_nil) (fun _ _ _ _ _ => (pe_md (K := K) (pv 5) T.cP M_is_cheapest3 (hr.mono (by omega)) pass0 (pa_cons (pv 12) (pa_cons pe_non (pa_cons (pv 2) pa_nil)))))) pa_nil))))) (pss_cons (ps_set (i := 9) sc_L_by_hand_right.nd rfl (Or.inl rfl) (pe_op op_cat (pv 9) (pe_lst (pa_cons (pe_op op_cat (pe_lst (pa_cons pe_bl pa_nil)) (pe_op op_rep (pe_lst (pa_cons pe_bl pa_nil)) pe_int)) (pa_cons (pe_lst (pa_cons pe_bl (pa_cons pe_bl (pa_cons pe_bl pa_nil)))) pa_nil))))) (pss_cons (ps_set (i := 8) sc_L_by_hand_right.nd rfl (Or.inl rfl) (pe_op op_cat (pv 8) (pe_lst (pa_cons (pe_d D_L_heard (hr.mono (by omega)) pass0 (pa_cons (pv 5) (pa_cons pe_int (pa_cons pe_non (pa_cons pe_non pa_nil))))) (pa_cons (pe_d D_L_heard (hr.mono (by omega)) pass0 (pa_cons (pv 5) (pa_cons (pe_un un_neg pe_int) (pa_cons pe_non (pa_cons pe_non pa_nil))))) (pa_cons (pe_d D_L_heard (hr.mono (by omega)) pass0 (pa_cons (pv 5) (pa_cons pe_int (pa_cons (pv 4) (pa_cons (pv 0) pa_nil))))) pa_nil)))))) (pss_cons (ps_set (i := 9) sc_L_by_hand_right.nd rfl (Or.inl rfl) (pe_op op_cat (pv 9) (pe_lst (pa_cons (pe_lst (pa_cons pe_str (pa_cons pe_int (pa_cons pe_bl pa_nil)))) (pa_cons (pe_lst (pa_cons pe_str (pa_cons (pe_un un_neg pe_int) (pa_cons pe_bl pa_nil)))) (pa_cons (pe_lst (pa_cons pe_str (pa_cons pe_bl pa_nil))) pa_nil)))))) (pss_cons (ps_set (i := 8) sc_L_by_hand_right.nd rfl (Or.inl rfl) (pe_op op_cat (pv 8) (pe_lst (pa_cons (pe_d D_L_heard (hr.mono (by omega)) pass0 (pa_cons (pv 5) (pa_cons pe_int (pa_cons (pv 1) (pa_cons (pv 2) pa_nil))))) (pa_cons (pe_d D_L_heard (hr.mono (by omega)) pass0 (pa_cons (pv 5) (pa_cons pe_int (pa_cons (pe_tup (pa_cons pe_int (pa_cons pe_int pa_nil))) (pa_cons (pv 0) pa_nil))))) (pa_cons (pe_d D_L_heard (hr.mono (by omega)) pass0 (pa_cons (pv 5) (pa_cons pe_int (pa_cons (pv 4) (pa_cons (pe_tup (pa_cons pe_int (pa_cons pe_int pa_nil))) pa_nil))))) pa_nil)))))) (pss_cons (ps_set (i := 9) sc_L_by_hand_right.nd rfl (Or.inl rfl) (pe_op op_cat (pv 9) (pe_lst (pa_cons (pe_lst (pa_cons pe_str (pa_cons pe_bl pa_nil))) (pa_cons (pe_lst (pa_cons pe_str (pa_cons pe_bl pa_nil))) (pa_cons (pe_lst (pa_cons pe_str (pa_cons pe_bl pa_nil))) pa_nil)))))) (pss_cons (ps_set (i := 8) sc_L_by_hand_right.nd rfl (Or.inl rfl) (pe_op op_cat (pv 8) (pe_lst (pa_cons (pe_md0 (K := K) (pe_mkp (K := K) T.mkP T.g_Prices MK1 (hr.mono (by omega)) pass0 (pa_cons pe_int pa_nil)) T.cP M_least0 (hr.mono (by omega)) pass0) (pa_cons (pe_md0 (K := K) (pe_mkp (K := K) T.mkP T.g_Prices MK1 (hr.mono (by omega)) pass0 (pa_cons pe_int pa_nil)) T.cP M_cheapest0 (hr.mono (by omega)) passL) (pa_cons (pe_md0 (K := K) (pe_mkp (K := K) T.mkP T.g_Prices MK1 (hr.mono (by omega)) pass0 (pa_cons pe_int pa_nil)) T.cP M_mean0 (hr.mono (by omega)) pass0) (pa_cons (pe_md (K := K) (pe_mkp (K := K) T.mkP T.g_Prices MK2 (hr.mono (by omega)) pass0 (pa_cons pe_int (pa_cons (pe_tup (pa_cons pe_int (pa_cons pe_int pa_nil))) pa_nil))) T.cP M_is_cheapest1 (hr.mono (by omega)) pass0 (pa_cons pe_int pa_nil)) (pa_cons (pe_md0 (K := K) (pe_mkp (K := K) T.mkP T.g_Prices MK1 (hr.mono (by omega)) pass0 (pa_cons pe_int pa_nil)) T.cP M_how_many0 (hr.mono (by omega)) pass0) pa_nil)))))))) (pss_cons (ps_set (i := 9) sc_L_by_hand_right.nd rfl (Or.inl rfl) (pe_op op_cat (pv 9) (pe_lst (pa_cons pe_int (pa_cons pe_int (pa_cons (pe_tup (pa_cons pe_int (pa_cons pe_int pa_nil))) (pa_cons pe_bl (pa_cons pe_int pa_nil)))))))) (pss_cons (ps_set (i := 8) sc_L_by_hand_right.nd rfl (Or.inl rfl) (pe_op op_cat (pv 8) (pe_lst (pa_cons (pe_md (K := K) (pv 5) T.cP M_greatest2 (hr.mono (by omega)) pass0 (pa_cons pe_non (pa_cons (pv 2) pa_nil))) (pa_cons (pe_md0 (K := K) (pe_mkW (K := K) T.mkP T.g_Prices MK_brackets (hr.mono (by omega)) pass0 (pa_cons pe_int pa_nil) (pk_cons (pe_tup (pa_cons (pe_tup (pa_cons pe_int (pa_cons pe_int (pa_cons pe_int pa_nil)))) pa_nil)) pk_nil)) T.cP M_mean0 (hr.mono (by omega)) pass0) (pa_cons (pe_md (K := K) (pe_mkp (K := K) T.mkP T.g_Prices MK1 (hr.mono (by omega)) pass0 (pa_cons pe_int pa_nil)) T.cP M_cheapest1 (hr.mono (by omega)) passL (pa_cons pe_int pa_nil)) pa_nil)))))) (pss_cons (ps_set (i := 9) sc_L_by_hand_right.nd rfl (Or.inl rfl) (pe_op op_cat (pv 9) (pe_lst (pa_cons pe_int (pa_cons (pe_tup (pa_cons pe_int (pa_cons pe_int pa_nil))) (pa_cons (pe_tup (pa_cons (pe_tup (pa_cons pe_int (pa_cons (pe_tup (pa_cons pe_int (pa_cons pe_int pa_nil))) pa_nil))) (pa_cons (pe_tup (pa_cons (pe_tup (pa_cons pe_int (pa_cons pe_int pa_nil))) (pa_cons pe_int pa_nil))) pa_nil))) pa_nil)))))) (pss_cons (ps_set (i := 8) sc_L_by_hand_right.nd rfl (Or.inl rfl) (pe_op op_cat (pv 8) (pe_lst (pa_cons (pe_mdW (K := K) (pv 5) T.cP W_cheapest (hr.mono (by omega)) passL (pk_cons (pe_lst (pa_cons (pe_lst (pa_cons pe_int (pa_cons pe_int pa_nil))) (pa_cons (pe_lst (pa_cons pe_int (pa_cons pe_int pa_nil))) pa_nil))) (pk_cons (pe_lst (pa_cons (pe_lst (pa_cons (pe_lst (pa_cons pe_int (pa_cons pe_int pa_nil))) (pa_cons pe_int pa_nil))) (pa_cons pe_int pa_nil))) (pk_cons pe_int pk_nil)))) (pa_cons (pe_mdW (K := K) (pv 5) T.cP W_is_cheapest (hr.mono (by omega)) pass0 (pk_cons (pv 2) (pk_cons (pv 0) pk_nil))) pa_nil))))) (pss_one (ps_ret (pe_d D_L_same (hr.mono (by omega)) pass0 (pa_cons (pv 8) (pa_cons (pe_op op_cat (pv 9) (pe_lst (pa_cons (pv 0) (pa_cons pe_bl pa_nil)))) pa_nil)))))))))))))))))))))))))))), ?_⟩
  obtain ⟨aT, eT, hT⟩ := dT
  -- the five groupings
  refine ⟨(by show 2 ≤ sizeLine; decide), fun p1 h1 => ⟨(by show 2 ≤ sizeLine; decide), fun p2 h2 => ⟨(by show 2 ≤ sizeLine; decide), fun p3 h3 => ?_⟩⟩⟩
  have d1 := dp2 (K := K) (x := .lf 1) (y := .lf 2) (.int _) (.int _) h1
  have d2 := dp2 (y := .lf 3) d1.2 (.int _) h2
  have d3 := dp2 (y := .lf 4) d2.2 (.int _) h3
  refine ⟨(by show 2 ≤ sizeLine; decide), fun p4 h4 => ⟨(by show 2 ≤ sizeLine; decide), fun p5 h5 => ⟨(by show 2 ≤ sizeLine; decide), fun p6 h6 => ?_⟩⟩⟩
  have d4 := dp2 (K := K) (x := .lf 2) (y := .lf 3) (.int _) (.int _) h4
  have d5 := dp2 (x := .lf 1) (.int _) d4.2 h5
  have d6 := dp2 (y := .lf 4) d5.2 (.int _) h6
  refine ⟨(by show 2 ≤ sizeLine; decide), fun p7 h7 => ⟨(by show 2 ≤ sizeLine; decide), fun p8 h8 => ⟨(by show 2 ≤ sizeLine; decide), fun p9 h9 => ?_⟩⟩⟩
  have d7 := dp2 (K := K) (x := .lf 1) (y := .lf 2) (.int _) (.int _) h7
  have d8 := dp2 (K := K) (x := .lf 3) (y := .lf 4) (.int _) (.int _) h8
  have d9 := dp2 (dp_ex d8.1 d7.2) d8.2 h9
  have l9 := dp_ex (((((d4.1.trans d5.1).trans d6.1).trans d7.1).trans d8.1).trans d9.1) d3.2
  have n9 := dp_ex ((d7.1.trans d8.1).trans d9.1) d6.2
  refine ⟨(by show 3 ≤ sizeLine; decide), fun p10 h10 => ⟨p10, _, rfl, SqT.of upd_same, rfl, _, _, rfl, _, _, rfl, _, _, rfl, rfl, ?_⟩⟩
  have e10 := Evl.Ex.new (o := .tup [V.ref p3, V.ref p6, V.ref p9]) h10
  have l10 := dp_ex e10 l9
  have n10 := dp_ex e10 n9
  have t10 := dp_ex e10 d9.2
  refine ⟨(by show 2 ≤ sizeLine; decide), fun p11 h11 => ⟨(by show 2 ≤ sizeLine; decide), fun p12 h12 => ⟨(by show 2 ≤ sizeLine; decide), fun p13 h13 => ?_⟩⟩⟩
  have d11 := dp2 (K := K) (x := .lf 2) (y := .lf 3) (.int _) (.int _) h11
  have d12 := dp2 (y := .lf 4) d11.2 (.int _) h12
  have d13 := dp2 (x := .lf 1) (.int _) d12.2 h13
  refine ⟨(by show 2 ≤ sizeLine; decide), fun p14 h14 => ⟨(by show 2 ≤ sizeLine; decide), fun p15 h15 => ⟨(by show 2 ≤ sizeLine; decide), fun p16 h16 => ?_⟩⟩⟩
  have d14 := dp2 (K := K) (x := .lf 3) (y := .lf 4) (.int _) (.int _) h14
  have d15 := dp2 (x := .lf 2) (.int _) d14.2 h15
  have d16 := dp2 (x := .lf 1) (.int _) d15.2 h16
  refine ⟨(by show 2 ≤ sizeLine; decide), fun p17 h17 => ⟨p17, _, rfl, SqT.of upd_same, rfl, _, _, rfl, _, _, rfl, rfl, ?_⟩⟩
  have e17 := Evl.Ex.new (o := .tup [V.ref p13, V.ref p16]) h17
  have eA := ((((((d11.1.trans d12.1).trans d13.1).trans d14.1).trans d15.1).trans d16.1)).trans e17
  have lA := dp_ex eA l10
  have nA := dp_ex eA n10
  have tA := dp_ex eA t10
  have fA := dp_ex (((d14.1.trans d15.1).trans d16.1).trans e17) d13.2
  have rA := dp_ex e17 d16.2
  have e0A := (((((((((d1.1.trans d2.1).trans d3.1).trans d4.1).trans d5.1).trans d6.1).trans d7.1).trans d8.1).trans d9.1).trans e10).trans eA
  clear d1 d2 d3 d4 d5 d6 d7 d8 d9 d11 d12 d13 d14 d15 d16 l9 n9 l10 n10 t10 e10 e17 eA
  generalize upd _ p17 (.tup [V.ref p13, V.ref p16]) = HA at lA nA tA fA rA e0A ⊢
  generalize V.ref p3 = vl at lA ⊢
  generalize V.ref p6 = vn at nA ⊢
  generalize V.ref p9 = vt at tA ⊢
  generalize V.ref p13 = vf at fA ⊢
  generalize V.ref p16 = vr at rA ⊢
  -- the three hosts
  simp only [eT]
  refine ⟨(by show 5 ≤ sizeLine; decide), fun q1 g1 => fun x1 dx1 hx1 hdx1 hne1 => mk_host (so := some [6, 30, 300, 15, 5]) (wo := none) (brs := []) hx1 hdx1 hne1 (n := 4) (by decide) (opi_new (xs := [6, 30, 300, 15, 5]) rfl (by decide)) rfl (br_none (hT _)) fun HB eB hm => ?_⟩
  have eAB := (Evl.Ex.new (o := .tup ([6, 30, 300, 15, 5].map V.int)) g1).trans eB
  refine ⟨(by show 4 ≤ sizeLine; decide), fun q2 g2 => ⟨rfl, rfl, fun x2 dx2 hx2 hdx2 hne2 => mk_host (so := none) (wo := some [1, 1, 1, 5]) (brs := []) hx2 hdx2 hne2 (n := 4) (by decide) rfl (opi_new (xs := [1, 1, 1, 5]) rfl (by decide)) (br_none (hT _)) fun HC eC hv => ?_⟩⟩
  have eBC := (Evl.Ex.new (o := .tup ([1, 1, 1, 5].map V.int)) g2).trans eC
  refine fun x3 dx3 hx3 hdx3 hne3 => mk_host (so := none) (wo := none) (brs := []) hx3 hdx3 hne3 (n := 4) (by decide) rfl rfl (br_none (hT _)) fun HD eD hf => ?_
  refine ⟨(by show 3 ≤ sizeLine; decide), fun q3 g3 => ⟨q3, _, rfl, SqT.of upd_same, rfl, _, _, rfl, _, _, rfl, _, _, rfl, rfl, ?_⟩⟩
  have eE := Evl.Ex.new (o := .tup [V.ref x1, V.ref x2, V.ref x3]) g3
  have eAE := ((eAB.trans eBC).trans eD).trans eE
  have l0 : Dp K _ vl tLeft.tp := dp_ex eAE lA
  have n0 : Dp K _ vn tNear.tp := dp_ex eAE nA
  have t0 : Dp K _ vt tTwos.tp := dp_ex eAE tA
  have f0 : Dp K _ vf tFar.tp := dp_ex eAE fA
  have r0 : Dp K _ vr tRight.tp := dp_ex eAE rA
  have m0 : HostAt K _ (.ref x1) 4 pM := hm.ex ((eBC.trans eD).trans eE)
  have v0 : HostAt K _ (.ref x2) 4 pH := hv.ex (eD.trans eE)
  have w0 : HostAt K _ (.ref x3) 4 pF := hf.ex eE
  have e00 := e0A.trans eAE
  clear lA nA tA fA rA hm hv hf eE eD eC eB eAE eBC eAB e0A
  generalize upd HD q3 (.tup [V.ref x1, V.ref x2, V.ref x3]) = H0 at l0 n0 t0 f0 r0 m0 v0 w0 e00 ⊢
  generalize V.ref x1 = vm at m0 ⊢
  generalize V.ref x2 = vh at v0 ⊢
  generalize V.ref x3 = vw at w0 ⊢
  have S := sta0 e00 l0 n0 t0 f0 r0 m0 v0 w0
  clear l0 n0 t0 f0 r0 m0 v0 w0 e00
  have n0 : ∀ H, Al K H [] [] := fun _ => .nil
  have n1 : ∀ H, Al K H [.non] [.o none] := fun _ => .cons rfl .nil
  have n2 : ∀ H, Al K H [.non, .non] [.o none, .o none] := fun _ => .cons rfl (.cons rfl .nil)
  have nc : ∀ H, Al K H [.int 0, .non, .non] [.d (.int 0), .o none, .o none] := fun _ => .cons (Dp.int 0) (.cons rfl (.cons rfl .nil))
  have hd1 : ∀ (n : Nat) H, Al K H [.non, .non, .ref aT] [.s (n + 1) none, .s n none, .b n []] := fun n H => .cons rfl (.cons rfl (.cons (br_none (hT H)) .nil))
  have hd2 : ∀ (n : Nat) H, Al K H (List.drop 1 [.non, .non, .ref aT]) [.s n none, .b n []] := fun n H => .cons rfl (.cons (br_none (hT H)) .nil)
  have gw : ∀ (n : Nat) (wo : Option (List Int)) vs zs (x : V) H, Al K H vs [.d (.int n)] → Al K H zs [.s n wo] → ∃ rs, (fun vs zs => vs ++ (List.take 1 [V.non, V.non, V.ref aT] ++ (zs ++ List.drop 2 [V.non, V.non, V.ref aT]))) (x :: vs) zs = x :: rs ∧ Al K H rs [.d (.int n), .s (n + 1) none, .s n wo, .b n []] := fun n wo vs zs x H hv hz => by
    obtain ⟨a, rfl, ha⟩ := al1 hv
    obtain ⟨b, rfl, hb⟩ := al1 hz
    exact ⟨[a, .non, b, .ref aT], rfl, .cons ha (.cons rfl (.cons hb (.cons (br_none (hT H)) .nil)))⟩
  have gb : ∀ (n : Nat) (brs : List (Nat × Nat × Int)) vs zs (x : V) H, Al K H vs [.d (.int n)] → Al K H zs [.b n brs] → ∃ rs, (fun vs zs => vs ++ (List.take 2 [V.non, V.non, V.ref aT] ++ zs)) (x :: vs) zs = x :: rs ∧ Al K H rs [.d (.int n), .s (n + 1) none, .s n none, .b n brs] := fun n brs vs zs x H hv hz => by
    obtain ⟨a, rfl, ha⟩ := al1 hv
    obtain ⟨b, rfl, hb⟩ := al1 hz
    exact ⟨[a, .non, .non, b], rfl, .cons ha (.cons rfl (.cons rfl (.cons hb .nil)))⟩
  refine S.step (i := 8) (rd_lst (rc (rd_end (S.rd (i := 5) rfl) ra_nil n2 rfl (fun _ _ _ => nometh (by decide +kernel)) (by decide) (by decide) lim_0 v_least0) (rc (rd_end (S.rd (i := 5) rfl) ra_nil n2 rfl (fun _ _ _ => nometh (by decide +kernel)) (by decide) (by decide) lim_0 v_great0) (rc (rd_mean (S.rd (i := 5) rfl) ra_nil n2 rfl (fun _ _ _ => nometh (by decide +kernel)) (by decide) (by decide) lim_0 (by decide +kernel) v_mean0) (rc (rd_many (S.rd (i := 5) rfl) ra_nil n2 rfl (fun _ _ _ => nometh (by decide +kernel)) (by decide) (by decide) lim_0 v_many0) (rc (rd_eqD (b := true) (rd_cheap (S.rd (i := 5) rfl) ra_nil nc rfl (fun _ _ _ => nometh (by decide +kernel)) (by decide) (by decide) lim_0 v_best0 (by decide) rfl) (S.rd (i := 4) rfl) (by decide +kernel) (by decide +kernel) (by decide +kernel)) (rc (rd_end (S.rd (i := 5) rfl) (ra_cons rd_noO (ra_cons (rd_tr (S.rd (i := 2) rfl)) ra_nil)) n0 rfl (fun _ _ _ => nometh (by decide +kernel)) (by decide) (by decide) lim_twos v_least_twos) rn))))))) rfl fun σ H1 S => ?_
  refine S.step (i := 9) (rd_lst (rc rd_int (rc rd_int (rc (rd_tup (rc rd_int (rc rd_int rn))) (rc rd_int (rc rd_bl (rc rd_int rn))))))) rfl fun σ H1 S => ?_
  refine S.step (i := 8) (rd_cat (S.rd (i := 8) rfl) (rd_lst (rc (rd_end (S.rd (i := 5) rfl) (ra_cons (rd_tr (S.rd (i := 1) rfl)) (ra_cons (rd_tr (S.rd (i := 3) rfl)) ra_nil)) n0 rfl (fun _ _ _ => nometh (by decide +kernel)) (by decide) (by decide) lim_near_far v_least_near_far) (rc (rd_end (S.rd (i := 5) rfl) (ra_cons (rd_tr (S.rd (i := 1) rfl)) ra_nil) n1 rfl (fun _ _ _ => nometh (by decide +kernel)) (by decide) (by decide) lim_near v_great_near) (rc (rd_mean (S.rd (i := 5) rfl) (ra_cons (rd_tr (S.rd (i := 1) rfl)) (ra_cons (rd_tr (S.rd (i := 1) rfl)) ra_nil)) n0 rfl (fun _ _ _ => nometh (by decide +kernel)) (by decide) (by decide) (show LimOk 4 (some tNear) (some tNear) (rowsF 4 (some tNear) (some tNear)) from ⟨rfl, rfl⟩) (by decide +kernel) (show frac _ _ = (138150, 1) by decide +kernel)) (rc (rd_many (S.rd (i := 5) rfl) (ra_cons (rd_tr (S.rd (i := 1) rfl)) (ra_cons (rd_tr (S.rd (i := 3) rfl)) ra_nil)) n0 rfl (fun _ _ _ => nometh (by decide +kernel)) (by decide) (by decide) lim_near_far (show lenG _ 1 4 = 2 by decide +kernel)) rn)))))) rfl fun σ H1 S => ?_
  refine S.step (i := 9) (rd_cat (S.rd (i := 9) rfl) (rd_lst (rc rd_int (rc rd_int (rc (rd_tup (rc rd_int (rc rd_int rn))) (rc rd_int rn)))))) rfl fun σ H1 S => ?_
  refine S.step (i := 8) (rd_cat (S.rd (i := 8) rfl) (rd_lst (rc (rd_lcR (c := 5) (gg := fun z : Int => ([tRight, tFar, tTwos, tNear, tLeft][z.toNat]?).getD tLeft) (U := RTr K) (toD := Tr.tp) monoT_tr hU_tr (by decide) fun z hz H2 e2 Q q => (rd_cheap (i := (z : Int)) (ts := [tRight, tFar, tTwos, tNear, tLeft]) (((S.ex e2).set 11 (k := .d (.int z)) (Dp.int _)).rd (i := 7) rfl) (ra_cons (((S.ex e2).set 11 (k := .d (.int z)) (Dp.int _)).rd (i := 11) rfl) ra_nil) n2 rfl (fun _ _ _ => nometh (by decide +kernel)) (by decide) (by decide) lim_0 v_flat (by omega) (flat_at hz)) H2 (exr _) Q q) (rc (rd_lcT (as := [((0 : Int), tNear), (1, tLeft)]) (dat := fun z => .int z.1) (gg := Prod.snd) (U := RTr K) (toD := Tr.tp) monoT_tr hU_tr (rd_tup (rc rd_int (rc rd_int rn))) (by decide) fun z hz v H2 e2 hv Q q => (rd_cheap (i := z.1) (ts := [tNear, tLeft]) (((S.ex e2).set 11 (k := .d (.int z.1)) hv).rd (i := 6) rfl) (ra_cons (((S.ex e2).set 11 (k := .d (.int z.1)) hv).rd (i := 11) rfl) ra_nil) n2 rfl (fun _ _ _ => nometh (by decide +kernel)) (by decide) (by decide) lim_0 v_heavy (heavy_0 z hz) (heavy_at z hz)) H2 (exr _) Q q) (rc (rd_mean (S.rd (i := 6) rfl) ra_nil n2 rfl (fun _ _ _ => nometh (by decide +kernel)) (by decide) (by decide) lim_0 (by decide +kernel) (show frac _ _ = (16, 1) by decide +kernel)) (rc (rd_mean (S.rd (i := 7) rfl) ra_nil n2 rfl (fun _ _ _ => nometh (by decide +kernel)) (by decide) (by decide) lim_0 (by decide +kernel) (show frac _ _ = (0, 1) by decide +kernel)) rn)))))) rfl fun σ H1 S => ?_
  refine S.step (i := 9) (rd_cat (S.rd (i := 9) rfl) (rd_lst (rc (rd_l (rd_lst (rc (S.rd (i := 4) rfl) (rc (S.rd (i := 3) rfl) (rc (S.rd (i := 2) rfl) (rc (S.rd (i := 1) rfl) (rc (S.rd (i := 0) rfl) rn))))))) (rc (rd_l (rd_lst (rc (S.rd (i := 1) rfl) (rc (S.rd (i := 0) rfl) rn)))) (rc (rd_tup (rc rd_int (rc rd_int rn))) (rc (rd_tup (rc rd_int (rc rd_int rn))) rn)))))) rfl fun σ H1 S => ?_
  refine S.step (i := 8) (rd_cat (S.rd (i := 8) rfl) (rd_lst (rc (rd_mean (rd_mkW (n := 3) (so := none) (wo := some [0, 0, 1]) (brs := []) (ks := [.d (.int 3)]) (js := [.s 3 (some [0, 0, 1])]) (ra_cons rd_int ra_nil) (ra_cons (rd_ints (xs := [0, 0, 1]) (n := 3) (rd_tup (rc rd_int (rc rd_int (rc rd_int rn))))) ra_nil) (gw 3 _) (by decide)) ra_nil n2 rfl (fun _ _ _ => nometh (by decide +kernel)) (by decide) (by decide) (show LimOk 3 none none (rowsF 3 none none) from ⟨rfl, rfl⟩) (by decide +kernel) (show frac _ _ = (3, 2) by decide +kernel)) (rc (rd_mean (rd_mkW (n := 3) (so := none) (wo := none) (brs := [(1, 2, (-3))]) (ks := [.d (.int 3)]) (js := [.b 3 [(1, 2, (-3))]]) (ra_cons rd_int ra_nil) (ra_cons (rd_br (a := 1) (b := 2) (c := (-3)) (rd_neg (i := 3) rd_int) 3) ra_nil) (gb 3 _) (by decide)) ra_nil n2 rfl (fun _ _ _ => nometh (by decide +kernel)) (by decide) (by decide) (show LimOk 3 none none (rowsF 3 none none) from ⟨rfl, rfl⟩) (by decide +kernel) (show frac _ _ = (-3, 2) by decide +kernel)) (rc (rd_many (S.rd (i := 7) rfl) (ra_cons (rd_tr (S.rd (i := 0) rfl)) (ra_cons (rd_tr (S.rd (i := 4) rfl)) ra_nil)) n0 rfl (fun _ _ _ => nometh (by decide +kernel)) (by decide) (by decide) (show LimOk 4 (some tLeft) (some tRight) (rowsF 4 (some tLeft) (some tRight)) from ⟨rfl, rfl⟩) (show lenG _ 1 4 = 5 by decide +kernel)) rn))))) rfl fun σ H1 S => ?_
  refine S.step (i := 9) (rd_cat (S.rd (i := 9) rfl) (rd_lst (rc (rd_tup (rc rd_int (rc rd_int rn))) (rc (rd_tup (rc (rd_neg rd_int) (rc rd_int rn))) (rc rd_int rn))))) rfl fun σ H1 S => ?_
  refine S.step (i := 10) (rd_lst (rc (S.rd (i := 0) rfl) (rc (S.rd (i := 4) rfl) (rc (rd_l (rd_lst (rc (rd_l (rd_lst (rc (rd_l (rd_lst (rc rd_int (rc rd_int rn)))) (rc rd_int rn)))) (rc rd_int rn)))) (rc (rd_tup (rc rd_int (rc (rd_tup (rc rd_int (rc rd_int rn))) rn))) (rc rd_int (rc rd_non (rc (rd_tup (rc (rd_tup (rc rd_int (rc rd_int rn))) (rc rd_int (rc rd_int rn)))) (rc rd_str (rc (rd_tup (rc (rd_tup (rc (rd_tup (rc rd_int (rc rd_int rn))) (rc rd_int rn))) (rc rd_int rn))) (rc rd_bl rn))))))))))) rfl fun σ H1 S => ?_
  refine S.step (i := 8) (rd_cat (S.rd (i := 8) rfl) (rd_lst (rc (rd_lcL (as := th) (dat := Prod.fst) (gg := Prod.snd) (U := RBl) (toD := PyData.bool) monoT_bl hU_bl (rd_l (S.rd (i := 10) rfl)) (by decide) fun z hz v H2 e2 hv Q q => (rd_isch (((S.ex e2).set 12 (k := .d z.1) hv).rd (i := 6) rfl) (ra_cons (((S.ex e2).set 12 (k := .d z.1) hv).rd (i := 12) rfl) ra_nil) n2 rfl (fun _ _ _ => nometh (by decide +kernel)) (by decide) (by decide) lim_0 (th_dep z hz) v_best_heavy (th_is z hz)) H2 (exr _) Q fun u H3 e3 hu => q u H3 e3 (bl_inv hu)) (rc (rd_lcT (as := tw) (dat := Prod.fst) (gg := Prod.snd) (U := RBl) (toD := PyData.bool) monoT_bl hU_bl (rd_tup (rc (S.rd (i := 0) rfl) (rc (S.rd (i := 2) rfl) (rc (S.rd (i := 4) rfl) rn)))) (by decide) fun z hz v H2 e2 hv Q q => (rd_isch (((S.ex e2).set 12 (k := .d z.1) hv).rd (i := 5) rfl) (ra_cons (((S.ex e2).set 12 (k := .d z.1) hv).rd (i := 12) rfl) (ra_cons rd_noO (ra_cons (rd_tr (((S.ex e2).set 12 (k := .d z.1) hv).rd (i := 2) rfl)) ra_nil))) n0 rfl (fun _ _ _ => nometh (by decide +kernel)) (by decide) (by decide) lim_twos (tw_dep z hz) v_least_twos (tw_is z hz)) H2 (exr _) Q fun u H3 e3 hu => q u H3 e3 (bl_inv hu)) rn)))) rfl fun σ H1 S => ?_
  refine S.step (i := 9) (rd_cat (S.rd (i := 9) rfl) (rd_lst (rc (rd_l (rd_cat (rd_lst (rc rd_bl rn)) (rd_rep (i := 9) (rd_lst (rc rd_bl rn)) rd_int))) (rc (rd_l (rd_lst (rc rd_bl (rc rd_bl (rc rd_bl rn))))) rn)))) rfl fun σ H1 S => ?_
  refine S.step (i := 8) (rd_cat (S.rd (i := 8) rfl) (rd_lst (rc (rd_heard (n := 4) (pp := pM) (ra_cons (S.rd (i := 5) rfl) (ra_cons rd_int (ra_cons rd_noO (ra_cons rd_noO ra_nil)))) (by decide) (by decide) (fun l h => by cases h; rfl) h_1) (rc (rd_heard (n := 4) (pp := pM) (ra_cons (S.rd (i := 5) rfl) (ra_cons (rd_neg rd_int) (ra_cons rd_noO (ra_cons rd_noO ra_nil)))) (by decide) (by decide) (fun l h => by cases h; rfl) h_2) (rc (rd_heard (n := 4) (pp := pM) (ra_cons (S.rd (i := 5) rfl) (ra_cons rd_int (ra_cons (rd_tr (S.rd (i := 4) rfl)) (ra_cons (rd_tr (S.rd (i := 0) rfl)) ra_nil)))) (by decide) (by decide) (fun l h => nomatch h) h_3) rn))))) rfl fun σ H1 S => ?_
  refine S.step (i := 9) (rd_cat (S.rd (i := 9) rfl) (rd_lst (rc (rd_l (rd_lst (rc rd_str (rc rd_int (rc rd_bl rn))))) (rc (rd_l (rd_lst (rc rd_str (rc (rd_neg rd_int) (rc rd_bl rn))))) (rc (rd_l (rd_lst (rc rd_str (rc rd_bl rn)))) rn))))) rfl fun σ H1 S => ?_
  refine S.step (i := 8) (rd_cat (S.rd (i := 8) rfl) (rd_lst (rc (rd_heard (n := 4) (pp := pM) (ra_cons (S.rd (i := 5) rfl) (ra_cons rd_int (ra_cons (rd_tr (S.rd (i := 1) rfl)) (ra_cons (rd_tr (S.rd (i := 2) rfl)) ra_nil)))) (by decide) (by decide) (fun l h => nomatch h) h_4) (rc (rd_heard (n := 4) (pp := pM) (ra_cons (S.rd (i := 5) rfl) (ra_cons rd_int (ra_cons (rd_tr (t := .nd (.lf 1) (.lf 2)) (rd_tup (rc rd_int (rc rd_int rn)))) (ra_cons (rd_tr (S.rd (i := 0) rfl)) ra_nil)))) (by decide) (by decide) (fun l h => nomatch h) h_5) (rc (rd_heard (n := 4) (pp := pM) (ra_cons (S.rd (i := 5) rfl) (ra_cons rd_int (ra_cons (rd_tr (S.rd (i := 4) rfl)) (ra_cons (rd_tr (t := .nd (.lf 1) (.lf 2)) (rd_tup (rc rd_int (rc rd_int rn)))) ra_nil)))) (by decide) (by decide) (fun l h => nomatch h) h_6) rn))))) rfl fun σ H1 S => ?_
  refine S.step (i := 9) (rd_cat (S.rd (i := 9) rfl) (rd_lst (rc (rd_l (rd_lst (rc rd_str (rc rd_bl rn)))) (rc (rd_l (rd_lst (rc rd_str (rc rd_bl rn)))) (rc (rd_l (rd_lst (rc rd_str (rc rd_bl rn)))) rn))))) rfl fun σ H1 S => ?_
  refine S.step (i := 8) (rd_cat (S.rd (i := 8) rfl) (rd_lst (rc (rd_end (rd_mk (ra_cons rd_int ra_nil) (hd1 1) rfl (by decide)) ra_nil n2 rfl (fun _ _ _ => nometh (by decide +kernel)) (by decide) (by decide) (show LimOk 1 none none (rowsF 1 none none) from ⟨rfl, rfl⟩) (show bestV _ _ 1 1 1 = some 0 by decide +kernel)) (rc (rd_cheap (rd_mk (ra_cons rd_int ra_nil) (hd1 1) rfl (by decide)) ra_nil nc rfl (fun _ _ _ => nometh (by decide +kernel)) (by decide) (by decide) (show LimOk 1 none none (rowsF 1 none none) from ⟨rfl, rfl⟩) (show GD _ 1 1 = [.lf 1] by decide +kernel) (by decide) rfl) (rc (rd_mean (rd_mk (ra_cons rd_int ra_nil) (hd1 1) rfl (by decide)) ra_nil n2 rfl (fun _ _ _ => nometh (by decide +kernel)) (by decide) (by decide) (show LimOk 1 none none (rowsF 1 none none) from ⟨rfl, rfl⟩) (by decide +kernel) (show frac _ _ = (0, 1) by decide +kernel)) (rc (rd_isch (rd_mk (ra_cons rd_int (ra_cons (rd_ints (xs := [2, 3]) (n := 2) (rd_tup (rc rd_int (rc rd_int rn)))) ra_nil)) (hd2 1) rfl (by decide)) (ra_cons rd_int ra_nil) n2 rfl (fun _ _ _ => nometh (by decide +kernel)) (by decide) (by decide) (show LimOk 1 none none (rowsF 1 none none) from ⟨rfl, rfl⟩) (by decide +kernel) (show bestV _ _ 1 1 1 = some 0 by decide +kernel) (show IsCh 1 _ _ _ true from isch_t (m := 1) (.lf 1) (by kernel_rfl) (by decide +kernel) (by decide) (by decide +kernel) fun _ => by decide +kernel)) (rc (rd_many (rd_mk (ra_cons rd_int ra_nil) (hd1 1) rfl (by decide)) ra_nil n2 rfl (fun _ _ _ => nometh (by decide +kernel)) (by decide) (by decide) (show LimOk 1 none none (rowsF 1 none none) from ⟨rfl, rfl⟩) (show lenG _ 1 1 = 1 by decide +kernel)) rn))))))) rfl fun σ H1 S => ?_
  refine S.step (i := 9) (rd_cat (S.rd (i := 9) rfl) (rd_lst (rc rd_int (rc rd_int (rc (rd_tup (rc rd_int (rc rd_int rn))) (rc rd_bl (rc rd_int rn))))))) rfl fun σ H1 S => ?_
  refine S.step (i := 8) (rd_cat (S.rd (i := 8) rfl) (rd_lst (rc (rd_end (S.rd (i := 5) rfl) (ra_cons rd_noO (ra_cons (rd_tr (S.rd (i := 2) rfl)) ra_nil)) n0 rfl (fun _ _ _ => nometh (by decide +kernel)) (by decide) (by decide) lim_twos v_great_twos) (rc (rd_mean (rd_mkW (n := 5) (so := none) (wo := none) (brs := [(1, 2, 7)]) (ks := [.d (.int 5)]) (js := [.b 5 [(1, 2, 7)]]) (ra_cons rd_int ra_nil) (ra_cons (rd_br (a := 1) (b := 2) (c := 7) rd_int 5) ra_nil) (gb 5 _) (by decide)) ra_nil n2 rfl (fun _ _ _ => nometh (by decide +kernel)) (by decide) (by decide) (show LimOk 5 none none (rowsF 5 none none) from ⟨rfl, rfl⟩) (by decide +kernel) (show frac _ _ = (5, 2) by decide +kernel)) (rc (rd_cheap (rd_mk (ra_cons rd_int ra_nil) (hd1 6) rfl (by decide)) (ra_cons rd_int ra_nil) n2 rfl (fun _ _ _ => nometh (by decide +kernel)) (by decide) (by decide) (show LimOk 6 none none (rowsF 6 none none) from ⟨rfl, rfl⟩) rfl (by decide) (show _ = some (Tr.nd (.nd (.lf 1) (.nd (.lf 2) (.lf 3))) (.nd (.nd (.lf 4) (.lf 5)) (.lf 6))) by decide +kernel)) rn))))) rfl fun σ H1 S => ?_
  refine S.step (i := 9) (rd_cat (S.rd (i := 9) rfl) (rd_lst (rc rd_int (rc (rd_tup (rc rd_int (rc rd_int rn))) (rc (rd_tup (rc (rd_tup (rc rd_int (rc (rd_tup (rc rd_int (rc rd_int rn))) rn))) (rc (rd_tup (rc (rd_tup (rc rd_int (rc rd_int rn))) (rc rd_int rn))) rn))) rn))))) rfl fun σ H1 S => ?_
  refine S.step (i := 8) (rd_cat (S.rd (i := 8) rfl) (rd_lst (rc (rd_cheapW (S.rd (i := 5) rfl) (rd_tm (t := tTwos) (rd_l (rd_lst (rc (rd_l (rd_lst (rc rd_int (rc rd_int rn)))) (rc (rd_l (rd_lst (rc rd_int (rc rd_int rn)))) rn)))) ⟨_, _, .inl rfl, ⟨_, _, .inl rfl, rfl, rfl⟩, ⟨_, _, .inl rfl, rfl, rfl⟩⟩) (rd_tm (t := tLeft) (rd_l (rd_lst (rc (rd_l (rd_lst (rc (rd_l (rd_lst (rc rd_int (rc rd_int rn)))) (rc rd_int rn)))) (rc rd_int rn)))) ⟨_, _, .inl rfl, ⟨_, _, .inl rfl, ⟨_, _, .inl rfl, rfl, rfl⟩, rfl⟩, rfl⟩) rd_int (fun _ _ _ => nometh (by decide +kernel)) (show LimOk 4 (some tLeft) (some tTwos) (rowsF 4 (some tLeft) (some tTwos)) from ⟨rfl, rfl⟩) (show GD _ 1 4 = [tLeft] by decide +kernel) (by decide) rfl) (rc (rd_ischW (S.rd (i := 5) rfl) (rd_tr (S.rd (i := 2) rfl)) (S.rd (i := 0) rfl) (fun _ _ _ => nometh (by decide +kernel)) lim_twos (by decide +kernel) v_least_twos (show IsCh 4 _ _ _ true from isch_t (m := 4) tLeft (by kernel_rfl) (by decide +kernel) (by decide) (by decide +kernel) fun _ => by decide +kernel)) rn)))) rfl fun σ H1 S => ?_
  have hA := ra_cons (S.rd (i := 8) rfl) (ra_cons (rd_cat (S.rd (i := 9) rfl) (rd_lst (rc (S.rd (i := 0) rfl) (rc (rd_bl (i := true)) rn)))) ra_nil)
  refine hA H1 (exr _) (fun vs H2 => spSame K 10 (vs ++ []) H2 Q E0) fun vs H2 e2 hv => ?_
  obtain ⟨x, y, rfl, hx, hy⟩ := al2 hv
  exact ⟨x, y, _, rfl, LstAt.dp hx, LstAt.dp hy, sm_of (by decide +kernel), fun H3 e3 => q H3 ((S.1.trans e2).trans e3)⟩
end RG

set_option Elab.async false
set_option linter.all false
set_option maxRecDepth 100000
set_option maxHeartbeats 4000000
namespace RG
open PySem PySem.Spec PyProof.Rows L2
variable {P : Program} {w : World} {K : PySem.W.Frag} {mg : Str → Option Value} {base : Heap}
/-! ### all defs -/
theorem ok_all (T : Txt K mg) {fd : FuncData} (F : FunD K "law" "law" (defArgs s_law) (defBody s_law) (defScope s_law) (d_law.dvs K) (d_law.kws K) (He.fAd K ("law", none)) fd) (nn : NnMk K mg) (Z : HX K) (dT : ∃ a, d_P_init.dvs K = [.non, .non, .ref a] ∧ ∀ H : Hp, SqT K H a []) : FnOk P w K mg base CX0 46 (He.fAd K ("law", none)) fd p_law (spLaw K) := by
  have D_is_number := ok_is_number (P := P) (w := w) (base := base) T
  have D_ends := ok_ends T D_is_number
  have D_factors_in := ok_factors_in T D_ends
  have D_spans := ok_spans T D_is_number D_ends 30
  have D_reaches := ok_reaches T D_spans
  have D_singles := ok_singles (P := P) (w := w) (base := base) T
  have D_stretches := ok_stretches (P := P) (w := w) (base := base) T
  have D_fraction := ok_fraction (P := P) (w := w) (base := base) T
  have D_factors_from := ok_ff T D_is_number 30
  have D_is_grouping := ok_is_grouping T D_factors_from
  have D_tops_between := ok_tops_between T D_stretches
  have D_counted := ok_counted T D_stretches D_singles
  have D_nth_of := ok_nth (P := P) (w := w) (base := base) T 6
  have D_limits := ok_limits T D_factors_in D_reaches
  have D_pair_prices := ok_pair_prices T D_stretches
  have D_tidy := tidy_opt (P := P) (w := w) (base := base) T
  have I := ok_init T D_tidy D_pair_prices
  have M_check1 := ok_check T D_factors_in
  have M_of1 := ok_of T M_check1 D_spans
  have M_tops2 := ok_tops T D_tops_between D_limits
  have M_best2 := ok_best T D_stretches D_singles
  have A_least := ok_least T M_tops2 M_best2
  have A_greatest := ok_greatest T M_tops2 M_best2
  have M_cheapest_tops2 := ok_cheapest_tops T M_tops2 M_best2
  have A_how_many := ok_how_many T M_cheapest_tops2 D_counted
  have A_cheapest := ok_cheapest T nn M_cheapest_tops2 D_counted D_nth_of
  have A_mean := ok_mean T M_tops2 D_counted D_stretches D_singles D_fraction
  have M_least2 := m_least2 T A_least
  have A_is_cheapest := ok_is_cheapest T M_least2 D_limits D_is_grouping D_factors_in D_reaches M_of1
  have D_L_take := ok_take (P := P) (w := w) (base := base) T
  have D_L_box := ok_box (P := P) (w := w) (base := base) T
  have D_L_of := ok_one T D_L_take
  have D_L_fraction := ok_L_fraction (P := P) (w := w) (base := base) T
  have D_L_ends := ok_L_ends (P := P) (w := w) (base := base) T
  have D_L_pairs := ok_L_pairs T D_L_ends 8
  have D_L_arms := ok_L_arms T D_L_pairs
  have D_L_goes := ok_goes T D_L_arms
  have D_L_every := ok_every (P := P) (w := w) (base := base) T 6
  have D_L_same := ok_same (P := P) (w := w) (base := base) T 10
  have D_L_pays := ok_pays T D_L_pairs
  have D_L_cells := ok_cells (P := P) (w := w) (base := base) T
  have D_L_costs := ok_costs T D_L_take D_L_of
  have D_L_mixed := ok_mixed T D_L_take 8
  have D_L_host := ok_host T (mk4 I)
  have M_cheapest3 := m_cheapest3 T A_cheapest
  have D_L_heard := ok_heard T Z M_cheapest3.2
  have M_greatest2 := m_greatest2 T A_greatest
  have M_how_many2 := m_how_many2 T A_how_many
  have M_mean2 := m_mean2 T A_mean
  have M_is_cheapest3 := m_is_cheapest3 T A_is_cheapest
  have D_L_asked := ok_asked T D_L_pays M_least2 M_greatest2 M_how_many2 M_mean2 M_cheapest3.1 M_is_cheapest3 D_L_same D_L_fraction D_L_heard
  have D_L_right := ok_right T D_L_take D_L_costs D_L_every D_L_host D_L_of D_L_goes D_L_same D_L_heard D_L_mixed D_L_asked
  have D_L_hand := ok_hand T dT (mk1 I) (mk2 I) (mk_weights I) (mk_brackets I) (m_least0 T A_least) M_least2 (m_greatest0 T A_greatest) (m_greatest1 T A_greatest) M_greatest2 (m_how_many0 T A_how_many) M_how_many2 (m_mean0 T A_mean) M_mean2
    (m_cheapest0 T A_cheapest) (m_cheapest1 T A_cheapest) (m_is_cheapest1 T A_is_cheapest) M_is_cheapest3 (m_cheapestW T A_cheapest) (m_is_cheapestW T A_is_cheapest) D_L_same D_L_heard
  exact ok_law T F D_L_hand D_L_cells D_L_box D_L_right
end RG

set_option Elab.async false
set_option linter.all false
set_option maxRecDepth 100000
set_option maxHeartbeats 4000000
namespace RG
open PySem PySem.Spec PyProof.Rows L2
/-! ### the further facts of the head -/
/-- the def at f has no keyword-only defaults -/
def kwNone (K : PySem.W.Frag) (f : Addr) : Bool := match K.lookup f with
  | some ⟨_, _, .func fd, _⟩ => (match fd.kwdefaults with
    | .none => true
    | _ => false)
  | _ => false
def nnB (K : PySem.W.Frag) (C fI : Addr) : Bool := PySem.W.excInitIn K C PySem.NnX.leTail "LookupError.__new__" && (PySem.W.excOver K C PySem.NnX.leTail && (PySem.W.hasDictIn K C && (decide (PySem.W.takerIn K C "number" = some none) &&
  (He.eqO (PySem.W.findIn K (.ref C) "__setattr__") (some (some (.builtin "object.__setattr__"))) && (He.eqO (PySem.W.findIn K (.ref C) "__getattribute__") (some (some (.builtin "BaseException.__getattribute__"))) && (He.eqO (PySem.W.findIn K (.ref C) "__getattr__") (some none) &&
  (He.eqO (PySem.W.findIn K (.ref C) "number") (some none) && (He.eqO (PySem.W.findIn K (.ref C) "__init__") (some (some (.ref fI))) && (decide (PySem.W.typeIn K (.ref fI) = some (.type "function")) && (PySem.W.keepIn K (.ref C) && (decide (PySem.W.subIn K (.ref C) (.type "BaseException") = some true) &&
  (decide (PySem.W.typeIn K (.ref C) = some (.type "type")) && kwNone K fI))))))))))))
theorem nn_of {K : PySem.W.Frag} {C : Addr} {fd : FuncData} (F : FunD K "__init__" "NoNumber.__init__" (defArgs s_NN_init) (defBody s_NN_init) (defScope s_NN_init) [] [] (He.fAd K ("NoNumber", some "__init__")) fd) (h : nnB K C (He.fAd K ("NoNumber", some "__init__")) = true) : PySem.NnX.Nn K C (He.fAd K ("NoNumber", some "__init__")) := by
  obtain ⟨h1, h⟩ := He.ba h
  obtain ⟨h2, h⟩ := He.ba h
  obtain ⟨h3, h⟩ := He.ba h
  obtain ⟨h4, h⟩ := He.ba h
  obtain ⟨h5, h⟩ := He.ba h
  obtain ⟨h6, h⟩ := He.ba h
  obtain ⟨h7, h⟩ := He.ba h
  obtain ⟨h8, h⟩ := He.ba h
  obtain ⟨h9, h⟩ := He.ba h
  obtain ⟨h10, h⟩ := He.ba h
  obtain ⟨h11, h⟩ := He.ba h
  obtain ⟨h12, h⟩ := He.ba h
  obtain ⟨h13, h14⟩ := He.ba h
  refine ⟨h1, h2, h3, of_decide_eq_true h4, He.eqO_ok h5, He.eqO_ok h6, He.eqO_ok h7, He.eqO_ok h8, He.eqO_ok h9, of_decide_eq_true h10, h11, of_decide_eq_true h12, of_decide_eq_true h13, ?_⟩
  obtain ⟨oc, od, dV, kV, doc, pm, an, cdv, ct, osl, rfl, lk, hcd, hD, _⟩ := F.ex
  rcases hD with ⟨_, rfl⟩ | ⟨e, _⟩
  · have ek : kV = .none := by
      unfold kwNone at h14
      rw [lk] at h14
      cases kV with
      | none => rfl
      | _ => cases h14
    subst ek
    exact ⟨oc, od, doc, pm, an, cdv, ct, osl, _, _, _, _, _, _, lk, hcd⟩
  · exact absurd rfl e
def hxB (K : PySem.W.Frag) : Bool := excKB K (He.ga K "NoNumber") && (excKB K (He.ga K "NotBehind") && (excKB K (He.ga K "Unlike") && (PySem.W.hasDictIn K (He.ga K "NoNumber") && (He.eqO (PySem.W.findIn K (.ref (He.ga K "NoNumber")) "number") (some none) &&
  (decide (PySem.W.kitOne K (.ref (He.ga K "NoNumber")) (.ref (He.ga K "NoNumber")) = some true) && (decide (PySem.W.kitOne K (.ref (He.ga K "NotBehind")) (.ref (He.ga K "NoNumber")) = some false) && (decide (PySem.W.kitOne K (.ref (He.ga K "Unlike")) (.ref (He.ga K "NoNumber")) = some false) &&
  (decide (PySem.W.kitOne K (.ref (He.ga K "NoNumber")) (.type "LookupError") = some true) && (decide (PySem.W.kitOne K (.ref (He.ga K "NotBehind")) (.ref (He.ga K "NotBehind")) = some true) && (decide (PySem.W.kitOne K (.ref (He.ga K "Unlike")) (.ref (He.ga K "NotBehind")) = some false) &&
  (decide (PySem.W.kitOne K (.ref (He.ga K "NotBehind")) (.type "ValueError") = some true) && (decide (PySem.W.kitOne K (.ref (He.ga K "Unlike")) (.type "ValueError") = some true) &&
  (decide (PySem.W.exmAny K (.ref (He.ga K "NoNumber")) [.ref (He.ga K "NoNumber"), .ref (He.ga K "NotBehind"), .ref (He.ga K "Unlike")] = some true) && (decide (PySem.W.exmAny K (.ref (He.ga K "NotBehind")) [.ref (He.ga K "NoNumber"), .ref (He.ga K "NotBehind"), .ref (He.ga K "Unlike")] = some true) &&
  decide (PySem.W.exmAny K (.ref (He.ga K "Unlike")) [.ref (He.ga K "NoNumber"), .ref (He.ga K "NotBehind"), .ref (He.ga K "Unlike")] = some true)))))))))))))))
theorem hx_of {K : PySem.W.Frag} (h : hxB K = true) : HX K := by
  obtain ⟨h1, h⟩ := He.ba h
  obtain ⟨h2, h⟩ := He.ba h
  obtain ⟨h3, h⟩ := He.ba h
  obtain ⟨h4, h⟩ := He.ba h
  obtain ⟨h5, h⟩ := He.ba h
  obtain ⟨h6, h⟩ := He.ba h
  obtain ⟨h7, h⟩ := He.ba h
  obtain ⟨h8, h⟩ := He.ba h
  obtain ⟨h9, h⟩ := He.ba h
  obtain ⟨h10, h⟩ := He.ba h
  obtain ⟨h11, h⟩ := He.ba h
  obtain ⟨h12, h⟩ := He.ba h
  obtain ⟨h13, h⟩ := He.ba h
  obtain ⟨h14, h⟩ := He.ba h
  obtain ⟨h15, h16⟩ := He.ba h
  exact ⟨excKB_ok h1, excKB_ok h2, excKB_ok h3, h4, He.eqO_ok h5, of_decide_eq_true h6, of_decide_eq_true h7, of_decide_eq_true h8, of_decide_eq_true h9, of_decide_eq_true h10, of_decide_eq_true h11, of_decide_eq_true h12, of_decide_eq_true h13, of_decide_eq_true h14, of_decide_eq_true h15, of_decide_eq_true h16⟩
/-- an empty tuple stands at a -/
def tup0 (K : PySem.W.Frag) (a : Addr) : Bool := match K.lookup a with
  | some ⟨.type c, _, .seq its _, _⟩ => decide (c = "tuple") && (decide (its.size ≤ sizeLine) && He.relAll [] its.toList)
  | _ => false
theorem tup0_ok {K : PySem.W.Frag} {a : Addr} (h : tup0 K a = true) (H : Hp) : SqT K H a [] := by
  unfold tup0 at h
  cases q : K.lookup a with
  | none =>
    rw [q] at h
    cases h
  | some o =>
    obtain ⟨oc, od, dt, osl⟩ := o
    rw [q] at h
    cases oc with
    | type c =>
      cases dt with
      | seq its n =>
        obtain ⟨h1, h2⟩ := He.ba (show (decide (c = "tuple") && (decide (its.size ≤ sizeLine) && He.relAll [] its.toList)) = true from h)
        obtain ⟨h3, h4⟩ := He.ba h2
        exact .inr ⟨_, its, n, q, congrArg Value.type (of_decide_eq_true h1), rfl, of_decide_eq_true h3, He.relAll_ok h4⟩
      | _ => cases h
    | _ => cases dt <;> cases h
def zB (K : PySem.W.Frag) : Bool := nnB K (He.ga K "NoNumber") (He.fAd K ("NoNumber", some "__init__")) && (hxB K && tup0 K (He.dflAt ("Prices", some "__init__") 2 K))
abbrev AlZ : Type := Bool × He.AlD
def obsZ (K : PySem.W.Frag) : AlZ := (zB K, He.obsD fa fn K)
def valZ : AlZ := (true, He.valD fn)
def obsZG (n : Nat) (g : Addr → Option Obj) : AlZ := obsZ (He.frG g (He.asD g n))
def hookZ (n : Nat) : PySem.W.Hook where
  α := AlZ
  obs := fun s => obsZG n s.heap.get?
  val := fun _ => valZ
  says := fun _ h => ∃ K : PySem.W.Frag, K.In h ∧ obsZ K = valZ
  of := fun _ _ e => ⟨_, He.frG_in, e⟩
  keeps := fun _ _ _ ⟨K, hK, c⟩ k => ⟨K, PySem.W.Frag.In.keeps hK k, c⟩
theorem obsZG_eq {n : Nat} {g : Addr → Option Obj} {s : Shared} (h : ∀ a, g a = s.heap.get? a) : obsZG n g = (hookZ n).obs s := by
  have e : g = s.heap.get? := funext h
  rw [e] <;> rfl
end RG

set_option Elab.async false
set_option linter.all false
set_option maxRecDepth 100000
set_option maxHeartbeats 4000000
namespace RG
open PySem PySem.Spec PyProof.Rows L2
/-! ### what the head says, put to use -/
theorem facts {P : Program} {w : World} {K : PySem.W.Frag} {h : Heap} {mg : Str → Option Value} {f : Addr} (X : K.In h) (G : h.Ns mainGlobals mg) (hfa : mg ("law" : Str) = some (.ref f)) (c : obsZ K = valZ) :
    ∃ fd : FuncData, (∀ (s : Shared) (v : Value), BindsTo s fd ⟨[v], []⟩ [("_law_script", v)]) ∧ ∀ base : Heap, K.In base → base.Ns mainGlobals mg → FnOk P w K mg base CX0 46 f fd p_law (spLaw K) := by
  have c1 : zB K = true := congrArg (fun z : AlZ => z.1) c
  have c2 : He.SaysD fa fn K := congrArg (fun z : AlZ => z.2) c
  have T := txt_of X G c2
  obtain ⟨z1, z⟩ := He.ba c1
  obtain ⟨z2, z3⟩ := He.ba z
  obtain ⟨fdN, FN⟩ := T.F_NN_init
  have nn : NnMk K mg := nn_mk (nn_of FN z1) T.g_NoNumber
  have Z := hx_of z2
  have dT : ∃ a, d_P_init.dvs K = [.non, .non, .ref a] ∧ ∀ H : Hp, SqT K H a [] := ⟨_, rfl, tup0_ok z3⟩
  obtain ⟨fd, F⟩ := T.F_law
  have e := hfa.symm.trans T.g_law
  cases e
  have b := FunD.bindsA (ps := p_law) F fun _ _ _ _ _ _ us hl => match us, hl with | [_], _ => rfl
  exact ⟨fd, fun s v => b s [v] rfl, fun base _ _ => ok_all T F nn Z dT⟩
end RG

set_option Elab.async false
set_option linter.all false
set_option maxRecDepth 100000
set_option maxHeartbeats 0
namespace RG
open PySem PySem.Spec PyProof.Rows L2
/-! ### the top's run -/
def loose0 : List PySem.Str := ["_wall", "__name__", "NoFactor", "NoNumber", "Unlike", "NotBehind", "tidy", "is_number", "fraction", "PAIR", "factors_from", "is_grouping", "ends", "factors_in", "spans", "reaches", "stretches", "singles", "limits", "tops_between", "counted", "nth_of", "pair_prices", "Prices", "_law_box", "_law_take", "_law_cells", "_law_of", "_law_mixed", "_law_same"]
def loose1 : List PySem.Str := ["_law_fraction", "_law_ends", "_law_pairs", "_law_arms", "_law_every", "_law_goes", "_law_costs", "_law_pays", "_law_host", "_law_heard", "_law_by_hand_right", "_law_asked_right", "_law_right"]
def loose : List PySem.Str := loose0 ++ loose1
abbrev R : PySem.W.OpenRow := PySem.W.OpenLaw.row PySem.Challenge.rw_regroups_k79_whole_least_and_greatest_be
abbrev hk : PySem.W.Hook := hookZ 5
def ob (s : PySem.W.SharedT) : AlZ := obsZG 5 (HandSHeadRun.getT s)
theorem ob_eq (s : PySem.W.SharedT) : ob s = hk.obs s.abs := obsZG_eq (HandSHeadRun.getT_eq s)
theorem run (w : World) : HandSHeadRun.RunEq R (PySem.W.view R.prog [48]) hk ob 4000 loose w := by
  intro os
  kernel_rfl
end RG

set_option Elab.async false
set_option linter.all false
set_option maxRecDepth 100000
set_option maxHeartbeats 0
open PySem PySem.W PySem.Calls PyProof.Rows
theorem PySem.Challenge.cw_regroups_k79_whole_least_and_greatest_be_holds : PySem.Challenge.rw_regroups_k79_whole_least_and_greatest_be.Holds := by
  w_on; o_law
  refine HandSHeadRun.head_any (r := OpenLaw.row PySem.Challenge.rw_regroups_k79_whole_least_and_greatest_be) (q := view (OpenLaw.row PySem.Challenge.rw_regroups_k79_whole_least_and_greatest_be).prog [48]) (H := RG.hk) (ob := RG.ob) (M := 4000) (loose := RG.loose) (d := HandSHeadRun.topDef (OpenLaw.row PySem.Challenge.rw_regroups_k79_whole_least_and_greatest_be).prog 48) (kwd := []) RG.ob_eq
    (by kernel_rfl) (fun s => by kernel_rfl) RG.run (by kernel_rfl) (by kernel_rfl) (by kernel_rfl) (by rfl) (by first | assumption | decide +kernel) (by decide +kernel) ⟨rfl, rfl, rfl, rfl, rfl, by decide +kernel⟩ ?hw ?hc
  case hw => w_witness2
  case hc =>
    refine L2.walk_ofE (l := PySem.Challenge.rw_regroups_k79_whole_least_and_greatest_be) (n := 63) (k := 46) (x := "_law_script") (CX := L2.CX0) rfl (by decide) (by kernel_rfl) ⟨rfl, by decide, by decide⟩ ?F (fun _ _ _ _ z => z)
    intro w mg fa h Y G hmg0
    obtain ⟨K, KX, c⟩ := Y
    have hmg : mg ("law" : PySem.Str) = some (.ref fa) := by
      have e : (HandSHeadRun.topDef (OpenLaw.row PySem.Challenge.rw_regroups_k79_whole_least_and_greatest_be).prog 48).name = ("law" : PySem.Str) := by kernel_rfl
      rw [← e]
      exact hmg0
    obtain ⟨fd, hb, hF⟩ := RG.facts (P := (PySem.Challenge.rw_regroups_k79_whole_least_and_greatest_be).prog) (w := w) KX G hmg c
    exact ⟨K, fd, RG.spLaw K, KX, hb, fun H a ns hl _ hS => ⟨a, ns, rfl, hS, fun _ => rfl⟩, hF⟩
