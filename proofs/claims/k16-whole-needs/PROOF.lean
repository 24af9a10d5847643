import PyProof.Rows.All
import HandS.ForMost
import HandS.Defaults
import HandS.Evl
import HandS.HeadHook2
import PySem.Challenge.RW_actasone_k16_whole_needs
import HandS.Star
import HandS.Deep
import HandS.IsInst
import HandS.Zip
import HandS.TupAny
import HandS.NoneIn
import HandS.Style
import KE.DataCmp
import KE.SortCalls
import PyProof.ReprRoads
import KE.GoesEnum
import HandS.Ends
import HandS.EndBits
import HandS.TupSets
import KE.GoesMore
import PyProof.WalksMore
import HandS.Set
import PyProof.Rows.SeqGen
import HandS.Conv
import PyProof.StrBlockL
import HandS.Wide
import HandS.HeadEnd
import HandS.Head0
import HandS.Head1
import HandS.Head2
import HandS.HeadHook1
import KE.KStateDown
/-! ## part T -/
set_option Elab.async false
set_option linter.all false
set_option maxRecDepth 100000
namespace K16
open PySem PySem.Spec PyProof.Rows L2
/-! the text of the linked program, def by def -/
def top (i : Nat) : Stmt := PySem.Challenge.pw_actasone_k16_whole_needs.main.body.getD i (.Pass ⟨0, 0, 0, 0⟩)
abbrev s_is_among : Stmt := top 4
abbrev s_is_name : Stmt := top 5
abbrev s_is_tuple_of : Stmt := top 6
abbrev s_are_rising : Stmt := top 7
abbrev s_is_names : Stmt := top 8
abbrev s_is_names_among : Stmt := top 9
abbrev s_are_sets_among : Stmt := top 10
abbrev s_is_triple_from : Stmt := top 11
abbrev s_trust_fault : Stmt := top 12
abbrev s_is_trust : Stmt := top 13
abbrev s_joint_in : Stmt := top 15
abbrev s_houses_in : Stmt := top 16
abbrev s_lots_of : Stmt := top 18
abbrev s_fears_of : Stmt := top 19
abbrev s_is_within : Stmt := top 20
abbrev s_less_by : Stmt := top 21
abbrev s_least_of : Stmt := top 22
abbrev s_greatest_of : Stmt := top 23
abbrev s_falls_by : Stmt := top 24
abbrev s_pairs_in : Stmt := top 25
abbrev s_lot_at : Stmt := top 26
abbrev s_needs_by : Stmt := top 27
abbrev s_first_missed_by : Stmt := top 28
abbrev s_is_met : Stmt := top 29
abbrev s_crossings_by : Stmt := top 30
abbrev s_is_house_of : Stmt := top 32
abbrev s_are_houses_of : Stmt := top 33
abbrev s_want : Stmt := top 39
abbrev s_want_trust : Stmt := top 41
abbrev s_want_house : Stmt := top 42
abbrev s_want_lot : Stmt := top 43
abbrev s_needs_of : Stmt := top 45
abbrev s_meets_needs : Stmt := top 46
abbrev s_first_missed : Stmt := top 47
abbrev s_least_lots : Stmt := top 48
abbrev s_fewest_lot : Stmt := top 49
abbrev s_Lfeed : Stmt := top 51
abbrev s_Ldraw : Stmt := top 52
abbrev s_Lpick : Stmt := top 53
abbrev s_Lsame : Stmt := top 54
abbrev s_Lsubsets : Stmt := top 55
abbrev s_Lis_within : Stmt := top 56
abbrev s_Lless : Stmt := top 57
abbrev s_Lsome : Stmt := top 58
abbrev s_Lnames : Stmt := top 59
abbrev s_Lsized : Stmt := top 60
abbrev s_Ltrust : Stmt := top 61
abbrev s_Lis_safe : Stmt := top 62
abbrev s_Lfalls : Stmt := top 63
abbrev s_Lleast : Stmt := top 64
abbrev s_Ltriple : Stmt := top 65
abbrev s_Lneeds : Stmt := top 66
abbrev s_Lthree : Stmt := top 67
abbrev s_Lfour_houses : Stmt := top 68
abbrev s_Llone : Stmt := top 69
abbrev s_Llamed : Stmt := top 70
abbrev s_Lfive : Stmt := top 71
abbrev s_Lis_right : Stmt := top 72
abbrev s_Lis_by_name_right : Stmt := top 73
abbrev s_Lis_growing_right : Stmt := top 74
abbrev s_law : Stmt := top 75
abbrev N_is_among : List Str := ["thing", "names"]
theorem sc_is_among : FnScope N_is_among ["thing", "names"] (defScope s_is_among) := ⟨rfl, rfl, rfl, by decide +kernel, rfl, by decide +kernel, by decide +kernel⟩
abbrev N_is_name : List Str := ["thing", "sign"]
theorem sc_is_name : FnScope N_is_name ["thing"] (defScope s_is_name) := ⟨rfl, rfl, rfl, by decide +kernel, rfl, by decide +kernel, by decide +kernel⟩
abbrev N_is_tuple_of : List Str := ["thing", "many"]
theorem sc_is_tuple_of : FnScope N_is_tuple_of ["thing", "many"] (defScope s_is_tuple_of) := ⟨rfl, rfl, rfl, by decide +kernel, rfl, by decide +kernel, by decide +kernel⟩
abbrev N_are_rising : List Str := ["parts", "one", "other"]
theorem sc_are_rising : FnScope N_are_rising ["parts"] (defScope s_are_rising) := ⟨rfl, rfl, rfl, by decide +kernel, rfl, by decide +kernel, by decide +kernel⟩
abbrev N_is_names : List Str := ["thing", "name"]
theorem sc_is_names : FnScope N_is_names ["thing"] (defScope s_is_names) := ⟨rfl, rfl, rfl, by decide +kernel, rfl, by decide +kernel, by decide +kernel⟩
abbrev N_is_names_among : List Str := ["thing", "names", "name"]
theorem sc_is_names_among : FnScope N_is_names_among ["thing", "names"] (defScope s_is_names_among) := ⟨rfl, rfl, rfl, by decide +kernel, rfl, by decide +kernel, by decide +kernel⟩
abbrev N_are_sets_among : List Str := ["thing", "names", "one"]
theorem sc_are_sets_among : FnScope N_are_sets_among ["thing", "names"] (defScope s_are_sets_among) := ⟨rfl, rfl, rfl, by decide +kernel, rfl, by decide +kernel, by decide +kernel⟩
abbrev N_is_triple_from : List Str := ["thing"]
theorem sc_is_triple_from : FnScope N_is_triple_from ["thing"] (defScope s_is_triple_from) := ⟨rfl, rfl, rfl, by decide +kernel, rfl, by decide +kernel, by decide +kernel⟩
abbrev N_trust_fault : List Str := ["thing", "k", "one", "houses", "house", "lots", "fears", "other"]
theorem sc_trust_fault : FnScope N_trust_fault ["thing"] (defScope s_trust_fault) := ⟨rfl, rfl, rfl, by decide +kernel, rfl, by decide +kernel, by decide +kernel⟩
abbrev N_is_trust : List Str := ["thing"]
theorem sc_is_trust : FnScope N_is_trust ["thing"] (defScope s_is_trust) := ⟨rfl, rfl, rfl, by decide +kernel, rfl, by decide +kernel, by decide +kernel⟩
abbrev N_joint_in : List Str := ["one", "other", "name"]
theorem sc_joint_in : FnScope N_joint_in ["one", "other"] (defScope s_joint_in) := ⟨rfl, rfl, rfl, by decide +kernel, rfl, by decide +kernel, by decide +kernel⟩
abbrev N_houses_in : List Str := ["trust", "triple"]
theorem sc_houses_in : FnScope N_houses_in ["trust"] (defScope s_houses_in) := ⟨rfl, rfl, rfl, by decide +kernel, rfl, by decide +kernel, by decide +kernel⟩
abbrev N_lots_of : List Str := ["trust", "house", "row"]
theorem sc_lots_of : FnScope N_lots_of ["trust", "house"] (defScope s_lots_of) := ⟨rfl, rfl, rfl, by decide +kernel, rfl, by decide +kernel, by decide +kernel⟩
abbrev N_fears_of : List Str := ["trust", "house", "row"]
theorem sc_fears_of : FnScope N_fears_of ["trust", "house"] (defScope s_fears_of) := ⟨rfl, rfl, rfl, by decide +kernel, rfl, by decide +kernel, by decide +kernel⟩
abbrev N_is_within : List Str := ["one", "other", "house"]
theorem sc_is_within : FnScope N_is_within ["one", "other"] (defScope s_is_within) := ⟨rfl, rfl, rfl, by decide +kernel, rfl, by decide +kernel, by decide +kernel⟩
abbrev N_less_by : List Str := ["lot", "fall", "house"]
theorem sc_less_by : FnScope N_less_by ["lot", "fall"] (defScope s_less_by) := ⟨rfl, rfl, rfl, by decide +kernel, rfl, by decide +kernel, by decide +kernel⟩
abbrev N_least_of : List Str := ["sets", "some", "found", "one", "late"]
theorem sc_least_of : FnScope N_least_of ["sets"] (defScope s_least_of) := ⟨rfl, rfl, rfl, by decide +kernel, rfl, by decide +kernel, by decide +kernel⟩
abbrev N_greatest_of : List Str := ["sets", "some", "found", "one", "late"]
theorem sc_greatest_of : FnScope N_greatest_of ["sets"] (defScope s_greatest_of) := ⟨rfl, rfl, rfl, by decide +kernel, rfl, by decide +kernel, by decide +kernel⟩
abbrev N_falls_by : List Str := ["trust", "house", "other", "found", "one", "late"]
theorem sc_falls_by : FnScope N_falls_by ["trust", "house", "other"] (defScope s_falls_by) := ⟨rfl, rfl, rfl, by decide +kernel, rfl, by decide +kernel, by decide +kernel⟩
abbrev N_pairs_in : List Str := ["trust", "house", "lots", "fears", "k"]
theorem sc_pairs_in : FnScope N_pairs_in ["trust"] (defScope s_pairs_in) := ⟨rfl, rfl, rfl, by decide +kernel, rfl, by decide +kernel, by decide +kernel⟩
abbrev N_lot_at : List Str := ["trust", "pair"]
theorem sc_lot_at : FnScope N_lot_at ["trust", "pair"] (defScope s_lot_at) := ⟨rfl, rfl, rfl, by decide +kernel, rfl, by decide +kernel, by decide +kernel⟩
abbrev N_needs_by : List Str := ["trust", "house", "found", "pair", "fall"]
theorem sc_needs_by : FnScope N_needs_by ["trust", "house"] (defScope s_needs_by) := ⟨rfl, rfl, rfl, by decide +kernel, rfl, by decide +kernel, by decide +kernel⟩
abbrev N_first_missed_by : List Str := ["needs", "lot", "need"]
theorem sc_first_missed_by : FnScope N_first_missed_by ["needs", "lot"] (defScope s_first_missed_by) := ⟨rfl, rfl, rfl, by decide +kernel, rfl, by decide +kernel, by decide +kernel⟩
abbrev N_is_met : List Str := ["needs", "lot"]
theorem sc_is_met : FnScope N_is_met ["needs", "lot"] (defScope s_is_met) := ⟨rfl, rfl, rfl, by decide +kernel, rfl, by decide +kernel, by decide +kernel⟩
abbrev N_crossings_by : List Str := ["needs", "found", "need", "late", "lot", "house"]
theorem sc_crossings_by : FnScope N_crossings_by ["needs"] (defScope s_crossings_by) := ⟨rfl, rfl, rfl, by decide +kernel, rfl, by decide +kernel, by decide +kernel⟩
abbrev N_is_house_of : List Str := ["trust", "thing"]
theorem sc_is_house_of : FnScope N_is_house_of ["trust", "thing"] (defScope s_is_house_of) := ⟨rfl, rfl, rfl, by decide +kernel, rfl, by decide +kernel, by decide +kernel⟩
abbrev N_are_houses_of : List Str := ["trust", "thing"]
theorem sc_are_houses_of : FnScope N_are_houses_of ["trust", "thing"] (defScope s_are_houses_of) := ⟨rfl, rfl, rfl, by decide +kernel, rfl, by decide +kernel, by decide +kernel⟩
abbrev N_want : List Str := ["is_fit", "name", "at"]
theorem sc_want : FnScope N_want ["is_fit", "name", "at"] (defScope s_want) := ⟨rfl, rfl, rfl, by decide +kernel, rfl, by decide +kernel, by decide +kernel⟩
abbrev N_want_trust : List Str := ["trust", "name"]
theorem sc_want_trust : FnScope N_want_trust ["trust", "name"] (defScope s_want_trust) := ⟨rfl, rfl, rfl, by decide +kernel, rfl, by decide +kernel, by decide +kernel⟩
abbrev N_want_house : List Str := ["trust", "house", "name"]
theorem sc_want_house : FnScope N_want_house ["trust", "house", "name"] (defScope s_want_house) := ⟨rfl, rfl, rfl, by decide +kernel, rfl, by decide +kernel, by decide +kernel⟩
abbrev N_want_lot : List Str := ["trust", "lot", "name"]
theorem sc_want_lot : FnScope N_want_lot ["trust", "lot", "name"] (defScope s_want_lot) := ⟨rfl, rfl, rfl, by decide +kernel, rfl, by decide +kernel, by decide +kernel⟩
abbrev N_needs_of : List Str := ["trust", "house"]
theorem sc_needs_of : FnScope N_needs_of ["trust", "house"] (defScope s_needs_of) := ⟨rfl, rfl, rfl, by decide +kernel, rfl, by decide +kernel, by decide +kernel⟩
abbrev N_meets_needs : List Str := ["trust", "house", "lot"]
theorem sc_meets_needs : FnScope N_meets_needs ["trust", "house", "lot"] (defScope s_meets_needs) := ⟨rfl, rfl, rfl, by decide +kernel, rfl, by decide +kernel, by decide +kernel⟩
abbrev N_first_missed : List Str := ["trust", "house", "lot"]
theorem sc_first_missed : FnScope N_first_missed ["trust", "house", "lot"] (defScope s_first_missed) := ⟨rfl, rfl, rfl, by decide +kernel, rfl, by decide +kernel, by decide +kernel⟩
abbrev N_least_lots : List Str := ["trust", "house"]
theorem sc_least_lots : FnScope N_least_lots ["trust", "house"] (defScope s_least_lots) := ⟨rfl, rfl, rfl, by decide +kernel, rfl, by decide +kernel, by decide +kernel⟩
abbrev N_fewest_lot : List Str := ["trust", "house", "lots", "fewest", "lot"]
theorem sc_fewest_lot : FnScope N_fewest_lot ["trust", "house"] (defScope s_fewest_lot) := ⟨rfl, rfl, rfl, by decide +kernel, rfl, by decide +kernel, by decide +kernel⟩
abbrev N_Lfeed : List Str := ["_law_script", "_law_cell"]
theorem sc_Lfeed : FnScope N_Lfeed ["_law_script"] (defScope s_Lfeed) := ⟨rfl, rfl, rfl, by decide +kernel, rfl, by decide +kernel, by decide +kernel⟩
abbrev N_Ldraw : List Str := ["_law_feed_here", "_law_many", "_law_figure", "_law_spot", "_law_cells", "_law_cell", "_law_mixed"]
theorem sc_Ldraw : FnScope N_Ldraw ["_law_feed_here", "_law_many"] (defScope s_Ldraw) := ⟨rfl, rfl, rfl, by decide +kernel, rfl, by decide +kernel, by decide +kernel⟩
abbrev N_Lpick : List Str := ["_law_feed_here", "_law_some_here"]
theorem sc_Lpick : FnScope N_Lpick ["_law_feed_here", "_law_some_here"] (defScope s_Lpick) := ⟨rfl, rfl, rfl, by decide +kernel, rfl, by decide +kernel, by decide +kernel⟩
abbrev N_Lsame : List Str := ["_law_told", "_law_due"]
theorem sc_Lsame : FnScope N_Lsame ["_law_told", "_law_due"] (defScope s_Lsame) := ⟨rfl, rfl, rfl, by decide +kernel, rfl, by decide +kernel, by decide +kernel⟩
abbrev N_Lsubsets : List Str := ["_law_names_here", "_law_found", "_law_name_in", "_law_some_here"]
theorem sc_Lsubsets : FnScope N_Lsubsets ["_law_names_here"] (defScope s_Lsubsets) := ⟨rfl, rfl, rfl, by decide +kernel, rfl, by decide +kernel, by decide +kernel⟩
abbrev N_Lis_within : List Str := ["_law_some_here", "_law_late", "_law_x"]
theorem sc_Lis_within : FnScope N_Lis_within ["_law_some_here", "_law_late"] (defScope s_Lis_within) := ⟨rfl, rfl, rfl, by decide +kernel, rfl, by decide +kernel, by decide +kernel⟩
abbrev N_Lless : List Str := ["_law_some_here", "_law_late", "_law_x"]
theorem sc_Lless : FnScope N_Lless ["_law_some_here", "_law_late"] (defScope s_Lless) := ⟨rfl, rfl, rfl, by decide +kernel, rfl, by decide +kernel, by decide +kernel⟩
abbrev N_Lsome : List Str := ["_law_feed_here", "_law_names_here", "_law_least_here", "_law_found", "_law_x"]
theorem sc_Lsome : FnScope N_Lsome ["_law_feed_here", "_law_names_here", "_law_least_here"] (defScope s_Lsome) := ⟨rfl, rfl, rfl, by decide +kernel, rfl, by decide +kernel, by decide +kernel⟩
abbrev N_Lnames : List Str := ["_law_feed_here", "_law_most", "_law_left", "_law_found", "_law_lap"]
theorem sc_Lnames : FnScope N_Lnames ["_law_feed_here", "_law_most"] (defScope s_Lnames) := ⟨rfl, rfl, rfl, by decide +kernel, rfl, by decide +kernel, by decide +kernel⟩
abbrev N_Lsized : List Str := ["_law_names_here", "_law_size", "_law_some_here"]
theorem sc_Lsized : FnScope N_Lsized ["_law_names_here", "_law_size"] (defScope s_Lsized) := ⟨rfl, rfl, rfl, by decide +kernel, rfl, by decide +kernel, by decide +kernel⟩
abbrev N_Ltrust : List Str := ["_law_feed_here", "_law_most", "_law_names_here", "_law_found", "_law_size", "_law_lies", "_law_is_even", "_law_x", "_law_others", "_law_y", "_law_lots", "_law_lap", "_law_far", "_law_fears"]
theorem sc_Ltrust : FnScope N_Ltrust ["_law_feed_here", "_law_most"] (defScope s_Ltrust) := ⟨rfl, rfl, rfl, by decide +kernel, rfl, by decide +kernel, by decide +kernel⟩
abbrev N_Lis_safe : List Str := ["_law_triple_here", "_law_down", "_law_fear"]
theorem sc_Lis_safe : FnScope N_Lis_safe ["_law_triple_here", "_law_down"] (defScope s_Lis_safe) := ⟨rfl, rfl, rfl, by decide +kernel, rfl, by decide +kernel, by decide +kernel⟩
abbrev N_Lfalls : List Str := ["_law_band", "_law_here", "_law_there", "_law_names_here", "_law_triple_here", "_law_down"]
theorem sc_Lfalls : FnScope N_Lfalls ["_law_band", "_law_here", "_law_there"] (defScope s_Lfalls) := ⟨rfl, rfl, rfl, by decide +kernel, rfl, by decide +kernel, by decide +kernel⟩
abbrev N_Lleast : List Str := ["_law_sets", "_law_found", "_law_some_here", "_law_x"]
theorem sc_Lleast : FnScope N_Lleast ["_law_sets"] (defScope s_Lleast) := ⟨rfl, rfl, rfl, by decide +kernel, rfl, by decide +kernel, by decide +kernel⟩
abbrev N_Ltriple : List Str := ["_law_band", "_law_x", "_law_triple_here"]
theorem sc_Ltriple : FnScope N_Ltriple ["_law_band", "_law_x"] (defScope s_Ltriple) := ⟨rfl, rfl, rfl, by decide +kernel, rfl, by decide +kernel, by decide +kernel⟩
abbrev N_Lneeds : List Str := ["_law_band", "_law_x", "_law_own", "_law_found", "_law_triple_here", "_law_down", "_law_bloc"]
theorem sc_Lneeds : FnScope N_Lneeds ["_law_band", "_law_x"] (defScope s_Lneeds) := ⟨rfl, rfl, rfl, by decide +kernel, rfl, by decide +kernel, by decide +kernel⟩
abbrev N_Lthree : List Str := ["_law_fears", "_law_ends", "_law_found", "_law_x", "_law_others", "_law_y"]
theorem sc_Lthree : FnScope N_Lthree ["_law_fears"] (defScope s_Lthree) := ⟨rfl, rfl, rfl, by decide +kernel, rfl, by decide +kernel, by decide +kernel⟩
abbrev N_Lfour_houses : List Str := ["_law_lots", "_law_found", "_law_x", "_law_y"]
theorem sc_Lfour_houses : FnScope N_Lfour_houses [] (defScope s_Lfour_houses) := ⟨rfl, rfl, rfl, by decide +kernel, rfl, by decide +kernel, by decide +kernel⟩
abbrev N_Llone : List Str := []
theorem sc_Llone : FnScope N_Llone [] (defScope s_Llone) := ⟨rfl, rfl, rfl, by decide +kernel, rfl, by decide +kernel, by decide +kernel⟩
abbrev N_Llamed : List Str := []
theorem sc_Llamed : FnScope N_Llamed [] (defScope s_Llamed) := ⟨rfl, rfl, rfl, by decide +kernel, rfl, by decide +kernel, by decide +kernel⟩
abbrev N_Lfive : List Str := ["_law_names_here", "_law_fears", "_law_k"]
theorem sc_Lfive : FnScope N_Lfive [] (defScope s_Lfive) := ⟨rfl, rfl, rfl, by decide +kernel, rfl, by decide +kernel, by decide +kernel⟩
abbrev N_Lis_right : List Str := ["_law_band", "_law_x", "_law_names_here", "_law_needs_here", "_law_triple_here", "_law_met", "_law_some_here", "_law_missed", "_law_need", "_law_due", "_law_least_here", "_law_told"]
theorem sc_Lis_right : FnScope N_Lis_right ["_law_band", "_law_x"] (defScope s_Lis_right) := ⟨rfl, rfl, rfl, by decide +kernel, rfl, by decide +kernel, by decide +kernel⟩
abbrev N_Lis_by_name_right : List Str := ["_law_feed_here", "_law_band", "_law_names_here", "_law_triple_here", "_law_x", "_law_some_here", "_law_needs_here", "_law_missed", "_law_need", "_law_told"]
theorem sc_Lis_by_name_right : FnScope N_Lis_by_name_right ["_law_feed_here", "_law_band"] (defScope s_Lis_by_name_right) := ⟨rfl, rfl, rfl, by decide +kernel, rfl, by decide +kernel, by decide +kernel⟩
abbrev N_Lis_growing_right : List Str := ["_law_feed_here", "_law_band", "_law_k", "_law_x", "_law_y", "_law_lots", "_law_fears", "_law_late", "_law_some_here"]
theorem sc_Lis_growing_right : FnScope N_Lis_growing_right ["_law_feed_here", "_law_band"] (defScope s_Lis_growing_right) := ⟨rfl, rfl, rfl, by decide +kernel, rfl, by decide +kernel, by decide +kernel⟩
abbrev N_law : List Str := ["_law_script", "_law_feed_here", "_law_hands", "_law_band", "_law_kept", "_law_here"]
theorem sc_law : FnScope N_law ["_law_script"] (defScope s_law) := ⟨rfl, rfl, rfl, by decide +kernel, rfl, by decide +kernel, by decide +kernel⟩
abbrev d_is_among : He.DefD := ⟨("is_among", none), "is_among", "is_among", defArgs s_is_among, defBody s_is_among, defScope s_is_among, [], []⟩
abbrev d_is_name : He.DefD := ⟨("is_name", none), "is_name", "is_name", defArgs s_is_name, defBody s_is_name, defScope s_is_name, [], []⟩
abbrev d_is_tuple_of : He.DefD := ⟨("is_tuple_of", none), "is_tuple_of", "is_tuple_of", defArgs s_is_tuple_of, defBody s_is_tuple_of, defScope s_is_tuple_of, [], []⟩
abbrev d_are_rising : He.DefD := ⟨("are_rising", none), "are_rising", "are_rising", defArgs s_are_rising, defBody s_are_rising, defScope s_are_rising, [], []⟩
abbrev d_is_names : He.DefD := ⟨("is_names", none), "is_names", "is_names", defArgs s_is_names, defBody s_is_names, defScope s_is_names, [], []⟩
abbrev d_is_names_among : He.DefD := ⟨("is_names_among", none), "is_names_among", "is_names_among", defArgs s_is_names_among, defBody s_is_names_among, defScope s_is_names_among, [], []⟩
abbrev d_are_sets_among : He.DefD := ⟨("are_sets_among", none), "are_sets_among", "are_sets_among", defArgs s_are_sets_among, defBody s_are_sets_among, defScope s_are_sets_among, [], []⟩
abbrev d_is_triple_from : He.DefD := ⟨("is_triple_from", none), "is_triple_from", "is_triple_from", defArgs s_is_triple_from, defBody s_is_triple_from, defScope s_is_triple_from, [], []⟩
abbrev d_trust_fault : He.DefD := ⟨("trust_fault", none), "trust_fault", "trust_fault", defArgs s_trust_fault, defBody s_trust_fault, defScope s_trust_fault, [], []⟩
abbrev d_is_trust : He.DefD := ⟨("is_trust", none), "is_trust", "is_trust", defArgs s_is_trust, defBody s_is_trust, defScope s_is_trust, [], []⟩
abbrev d_joint_in : He.DefD := ⟨("joint_in", none), "joint_in", "joint_in", defArgs s_joint_in, defBody s_joint_in, defScope s_joint_in, [], []⟩
abbrev d_houses_in : He.DefD := ⟨("houses_in", none), "houses_in", "houses_in", defArgs s_houses_in, defBody s_houses_in, defScope s_houses_in, [], []⟩
abbrev d_lots_of : He.DefD := ⟨("lots_of", none), "lots_of", "lots_of", defArgs s_lots_of, defBody s_lots_of, defScope s_lots_of, [], []⟩
abbrev d_fears_of : He.DefD := ⟨("fears_of", none), "fears_of", "fears_of", defArgs s_fears_of, defBody s_fears_of, defScope s_fears_of, [], []⟩
abbrev d_is_within : He.DefD := ⟨("is_within", none), "is_within", "is_within", defArgs s_is_within, defBody s_is_within, defScope s_is_within, [], []⟩
abbrev d_less_by : He.DefD := ⟨("less_by", none), "less_by", "less_by", defArgs s_less_by, defBody s_less_by, defScope s_less_by, [], []⟩
abbrev d_least_of : He.DefD := ⟨("least_of", none), "least_of", "least_of", defArgs s_least_of, defBody s_least_of, defScope s_least_of, [], []⟩
abbrev d_greatest_of : He.DefD := ⟨("greatest_of", none), "greatest_of", "greatest_of", defArgs s_greatest_of, defBody s_greatest_of, defScope s_greatest_of, [], []⟩
abbrev d_falls_by : He.DefD := ⟨("falls_by", none), "falls_by", "falls_by", defArgs s_falls_by, defBody s_falls_by, defScope s_falls_by, [], []⟩
abbrev d_pairs_in : He.DefD := ⟨("pairs_in", none), "pairs_in", "pairs_in", defArgs s_pairs_in, defBody s_pairs_in, defScope s_pairs_in, [], []⟩
abbrev d_lot_at : He.DefD := ⟨("lot_at", none), "lot_at", "lot_at", defArgs s_lot_at, defBody s_lot_at, defScope s_lot_at, [], []⟩
abbrev d_needs_by : He.DefD := ⟨("needs_by", none), "needs_by", "needs_by", defArgs s_needs_by, defBody s_needs_by, defScope s_needs_by, [], []⟩
abbrev d_first_missed_by : He.DefD := ⟨("first_missed_by", none), "first_missed_by", "first_missed_by", defArgs s_first_missed_by, defBody s_first_missed_by, defScope s_first_missed_by, [], []⟩
abbrev d_is_met : He.DefD := ⟨("is_met", none), "is_met", "is_met", defArgs s_is_met, defBody s_is_met, defScope s_is_met, [], []⟩
abbrev d_crossings_by : He.DefD := ⟨("crossings_by", none), "crossings_by", "crossings_by", defArgs s_crossings_by, defBody s_crossings_by, defScope s_crossings_by, [], []⟩
abbrev d_is_house_of : He.DefD := ⟨("is_house_of", none), "is_house_of", "is_house_of", defArgs s_is_house_of, defBody s_is_house_of, defScope s_is_house_of, [], []⟩
abbrev d_are_houses_of : He.DefD := ⟨("are_houses_of", none), "are_houses_of", "are_houses_of", defArgs s_are_houses_of, defBody s_are_houses_of, defScope s_are_houses_of, [], []⟩
abbrev d_want : He.DefD := ⟨("want", none), "want", "want", defArgs s_want, defBody s_want, defScope s_want, [.int (-1)], []⟩
abbrev d_want_trust : He.DefD := ⟨("want_trust", none), "want_trust", "want_trust", defArgs s_want_trust, defBody s_want_trust, defScope s_want_trust, [.str "trust"], []⟩
abbrev d_want_house : He.DefD := ⟨("want_house", none), "want_house", "want_house", defArgs s_want_house, defBody s_want_house, defScope s_want_house, [.str "house"], []⟩
abbrev d_want_lot : He.DefD := ⟨("want_lot", none), "want_lot", "want_lot", defArgs s_want_lot, defBody s_want_lot, defScope s_want_lot, [.str "lot"], []⟩
abbrev d_needs_of : He.DefD := ⟨("needs_of", none), "needs_of", "needs_of", defArgs s_needs_of, defBody s_needs_of, defScope s_needs_of, [], []⟩
abbrev d_meets_needs : He.DefD := ⟨("meets_needs", none), "meets_needs", "meets_needs", defArgs s_meets_needs, defBody s_meets_needs, defScope s_meets_needs, [], []⟩
abbrev d_first_missed : He.DefD := ⟨("first_missed", none), "first_missed", "first_missed", defArgs s_first_missed, defBody s_first_missed, defScope s_first_missed, [], []⟩
abbrev d_least_lots : He.DefD := ⟨("least_lots", none), "least_lots", "least_lots", defArgs s_least_lots, defBody s_least_lots, defScope s_least_lots, [], []⟩
abbrev d_fewest_lot : He.DefD := ⟨("fewest_lot", none), "fewest_lot", "fewest_lot", defArgs s_fewest_lot, defBody s_fewest_lot, defScope s_fewest_lot, [], []⟩
abbrev d_Lfeed : He.DefD := ⟨("_law_feed", none), "_law_feed", "_law_feed", defArgs s_Lfeed, defBody s_Lfeed, defScope s_Lfeed, [], []⟩
abbrev d_Ldraw : He.DefD := ⟨("_law_draw", none), "_law_draw", "_law_draw", defArgs s_Ldraw, defBody s_Ldraw, defScope s_Ldraw, [], []⟩
abbrev d_Lpick : He.DefD := ⟨("_law_pick", none), "_law_pick", "_law_pick", defArgs s_Lpick, defBody s_Lpick, defScope s_Lpick, [], []⟩
abbrev d_Lsame : He.DefD := ⟨("_law_same", none), "_law_same", "_law_same", defArgs s_Lsame, defBody s_Lsame, defScope s_Lsame, [], []⟩
abbrev d_Lsubsets : He.DefD := ⟨("_law_subsets", none), "_law_subsets", "_law_subsets", defArgs s_Lsubsets, defBody s_Lsubsets, defScope s_Lsubsets, [], []⟩
abbrev d_Lis_within : He.DefD := ⟨("_law_is_within", none), "_law_is_within", "_law_is_within", defArgs s_Lis_within, defBody s_Lis_within, defScope s_Lis_within, [], []⟩
abbrev d_Lless : He.DefD := ⟨("_law_less", none), "_law_less", "_law_less", defArgs s_Lless, defBody s_Lless, defScope s_Lless, [], []⟩
abbrev d_Lsome : He.DefD := ⟨("_law_some", none), "_law_some", "_law_some", defArgs s_Lsome, defBody s_Lsome, defScope s_Lsome, [], []⟩
abbrev d_Lnames : He.DefD := ⟨("_law_names", none), "_law_names", "_law_names", defArgs s_Lnames, defBody s_Lnames, defScope s_Lnames, [], []⟩
abbrev d_Lsized : He.DefD := ⟨("_law_sized", none), "_law_sized", "_law_sized", defArgs s_Lsized, defBody s_Lsized, defScope s_Lsized, [], []⟩
abbrev d_Ltrust : He.DefD := ⟨("_law_trust", none), "_law_trust", "_law_trust", defArgs s_Ltrust, defBody s_Ltrust, defScope s_Ltrust, [], []⟩
abbrev d_Lis_safe : He.DefD := ⟨("_law_is_safe", none), "_law_is_safe", "_law_is_safe", defArgs s_Lis_safe, defBody s_Lis_safe, defScope s_Lis_safe, [], []⟩
abbrev d_Lfalls : He.DefD := ⟨("_law_falls", none), "_law_falls", "_law_falls", defArgs s_Lfalls, defBody s_Lfalls, defScope s_Lfalls, [], []⟩
abbrev d_Lleast : He.DefD := ⟨("_law_least", none), "_law_least", "_law_least", defArgs s_Lleast, defBody s_Lleast, defScope s_Lleast, [], []⟩
abbrev d_Ltriple : He.DefD := ⟨("_law_triple", none), "_law_triple", "_law_triple", defArgs s_Ltriple, defBody s_Ltriple, defScope s_Ltriple, [], []⟩
abbrev d_Lneeds : He.DefD := ⟨("_law_needs", none), "_law_needs", "_law_needs", defArgs s_Lneeds, defBody s_Lneeds, defScope s_Lneeds, [], []⟩
abbrev d_Lthree : He.DefD := ⟨("_law_three", none), "_law_three", "_law_three", defArgs s_Lthree, defBody s_Lthree, defScope s_Lthree, [], []⟩
abbrev d_Lfour_houses : He.DefD := ⟨("_law_four_houses", none), "_law_four_houses", "_law_four_houses", defArgs s_Lfour_houses, defBody s_Lfour_houses, defScope s_Lfour_houses, [], []⟩
abbrev d_Llone : He.DefD := ⟨("_law_lone", none), "_law_lone", "_law_lone", defArgs s_Llone, defBody s_Llone, defScope s_Llone, [], []⟩
abbrev d_Llamed : He.DefD := ⟨("_law_lamed", none), "_law_lamed", "_law_lamed", defArgs s_Llamed, defBody s_Llamed, defScope s_Llamed, [], []⟩
abbrev d_Lfive : He.DefD := ⟨("_law_five", none), "_law_five", "_law_five", defArgs s_Lfive, defBody s_Lfive, defScope s_Lfive, [], []⟩
abbrev d_Lis_right : He.DefD := ⟨("_law_is_right", none), "_law_is_right", "_law_is_right", defArgs s_Lis_right, defBody s_Lis_right, defScope s_Lis_right, [], []⟩
abbrev d_Lis_by_name_right : He.DefD := ⟨("_law_is_by_name_right", none), "_law_is_by_name_right", "_law_is_by_name_right", defArgs s_Lis_by_name_right, defBody s_Lis_by_name_right, defScope s_Lis_by_name_right, [], []⟩
abbrev d_Lis_growing_right : He.DefD := ⟨("_law_is_growing_right", none), "_law_is_growing_right", "_law_is_growing_right", defArgs s_Lis_growing_right, defBody s_Lis_growing_right, defScope s_Lis_growing_right, [], []⟩
abbrev d_law : He.DefD := ⟨("law", none), "law", "law", defArgs s_law, defBody s_law, defScope s_law, [], []⟩
abbrev fn : List He.DefD := [d_is_among, d_is_name, d_is_tuple_of, d_are_rising, d_is_names, d_is_names_among, d_are_sets_among, d_is_triple_from, d_trust_fault, d_is_trust, d_joint_in, d_houses_in, d_lots_of, d_fears_of, d_is_within, d_less_by, d_least_of, d_greatest_of, d_falls_by, d_pairs_in, d_lot_at, d_needs_by, d_first_missed_by, d_is_met, d_crossings_by, d_is_house_of, d_are_houses_of, d_want, d_want_trust, d_want_house, d_want_lot, d_needs_of, d_meets_needs, d_first_missed, d_least_lots, d_fewest_lot, d_Lfeed, d_Ldraw, d_Lpick, d_Lsame, d_Lsubsets, d_Lis_within, d_Lless, d_Lsome, d_Lnames, d_Lsized, d_Ltrust, d_Lis_safe, d_Lfalls, d_Lleast, d_Ltriple, d_Lneeds, d_Lthree, d_Lfour_houses, d_Llone, d_Llamed, d_Lfive, d_Lis_right, d_Lis_by_name_right, d_Lis_growing_right, d_law]
abbrev fa : List He.Fa := [.glo "is_among", .glo "is_name", .glo "is_tuple_of", .glo "are_rising", .glo "is_names", .glo "is_names_among", .glo "are_sets_among", .glo "is_triple_from", .glo "trust_fault", .glo "is_trust", .glo "joint_in", .glo "houses_in", .glo "lots_of", .glo "fears_of", .glo "is_within", .glo "less_by", .glo "least_of", .glo "greatest_of", .glo "falls_by", .glo "pairs_in", .glo "lot_at", .glo "needs_by", .glo "first_missed_by", .glo "is_met", .glo "crossings_by", .glo "is_house_of", .glo "are_houses_of", .glo "want", .glo "want_trust", .glo "want_house", .glo "want_lot", .glo "needs_of", .glo "meets_needs", .glo "first_missed", .glo "least_lots", .glo "fewest_lot", .glo "_law_feed", .glo "_law_draw", .glo "_law_pick", .glo "_law_same", .glo "_law_subsets", .glo "_law_is_within", .glo "_law_less", .glo "_law_some", .glo "_law_names", .glo "_law_sized", .glo "_law_trust", .glo "_law_is_safe", .glo "_law_falls", .glo "_law_least", .glo "_law_triple", .glo "_law_needs", .glo "_law_three", .glo "_law_four_houses", .glo "_law_lone", .glo "_law_lamed", .glo "_law_five", .glo "_law_is_right", .glo "_law_is_by_name_right", .glo "_law_is_growing_right", .glo "law", .free "isinstance", .free "len", .free "all", .free "any", .free "tuple", .free "zip", .free "enumerate", .free "sorted", .free "set", .free "range", .free "list", .free "min", .free "repr", .free "int", .free "str", .int "MOST_SIGNS" 8, .str "ALPHABET" "abcdefghijklmnopqrstuvwxyz", .str "ANY" "any"]
end K16
/-! ## part Ev -/
set_option Elab.async false
set_option linter.all false
set_option maxRecDepth 100000
set_option maxHeartbeats 1000000
namespace K16
open PySem PySem.Spec PyProof.Rows L2
open Evl (Ex)
open StX (tStar)
/-! ## data over the abstract heap -/
abbrev D := PyData
mutual
/-- of a small size at each place, no dict -/
def sm : D → Bool
  | .none => true
  | .bool _ => true
  | .int i => decide (i.natAbs ≤ 1000000000)
  | .str s => decide (s.length ≤ 100000)
  | .list xs => decide (xs.length ≤ 100000) && smAll xs
  | .tuple xs => decide (xs.length ≤ 100000) && smAll xs
  | .dict _ => false
def smAll : List D → Bool
  | [] => true
  | x :: xs => sm x && smAll xs
end
theorem smAll_iff : ∀ {xs : List D}, smAll xs = true ↔ ∀ x ∈ xs, sm x = true
  | [] => by simp [smAll]
  | x :: xs => by
    have ih := smAll_iff (xs := xs)
    simp only [smAll, Bool.and_eq_true, List.mem_cons, forall_eq_or_imp, ih]
theorem sm_list {xs : List D} : sm (.list xs) = true ↔ xs.length ≤ 100000 ∧ ∀ x ∈ xs, sm x = true := by
  simp only [sm, Bool.and_eq_true, decide_eq_true_eq, smAll_iff]
theorem sm_tuple {xs : List D} : sm (.tuple xs) = true ↔ xs.length ≤ 100000 ∧ ∀ x ∈ xs, sm x = true := by
  simp only [sm, Bool.and_eq_true, decide_eq_true_eq, smAll_iff]
mutual
inductive Rp (G : Hp) : V → D → Prop
  | non : Rp G .non .none
  | bl (b : Bool) : Rp G (.bl b) (.bool b)
  | int (i : Int) : Rp G (.int i) (.int i)
  | str (x : Str) : Rp G (.str x) (.str x)
  | lst {a : Addr} {xs : List V} {ds : List D} : G a = some (.lst xs) → RpA G xs ds → Rp G (.ref a) (.list ds)
  | tup {a : Addr} {xs : List V} {ds : List D} : G a = some (.tup xs) → RpA G xs ds → Rp G (.ref a) (.tuple ds)
inductive RpA (G : Hp) : List V → List D → Prop
  | nil : RpA G [] []
  | cons {v : V} {vs : List V} {d : D} {ds : List D} : Rp G v d → RpA G vs ds → RpA G (v :: vs) (d :: ds)
end
mutual
theorem Rp.mono {G G' : Hp} (e : Ex G G') : ∀ (d : D) (v : V), Rp G v d → Rp G' v d
  | .none, _, h => by cases h; exact .non
  | .bool b, _, h => by cases h; exact .bl b
  | .int i, _, h => by cases h; exact .int i
  | .str x, _, h => by cases h; exact .str x
  | .list ds, _, h => by
    cases h with
    | lst h1 h2 => exact .lst (e _ _ h1) (RpA.mono e ds _ h2)
  | .tuple ds, _, h => by
    cases h with
    | tup h1 h2 => exact .tup (e _ _ h1) (RpA.mono e ds _ h2)
  | .dict _, _, h => by cases h
theorem RpA.mono {G G' : Hp} (e : Ex G G') : ∀ (ds : List D) (vs : List V), RpA G vs ds → RpA G' vs ds
  | [], _, h => by cases h; exact .nil
  | d :: ds, _, h => by
    cases h with
    | cons h1 h2 => exact .cons (Rp.mono e d _ h1) (RpA.mono e ds _ h2)
end
mutual
theorem Rp.dp {K : PySem.W.Frag} {G : Hp} : ∀ (d : D) (v : V), Rp G v d → Dp K G v d
  | .none, _, h => by cases h; exact .non
  | .bool b, _, h => by cases h; exact .bl b
  | .int i, _, h => by cases h; exact .int i
  | .str x, _, h => by cases h; exact .str x
  | .list ds, _, h => by
    cases h with
    | lst h1 h2 => exact .lst (.inl (.inl h1)) (RpA.dp ds _ h2)
  | .tuple ds, _, h => by
    cases h with
    | tup h1 h2 => exact .tup (.inl (.inl h1)) (RpA.dp ds _ h2)
  | .dict _, _, h => by cases h
theorem RpA.dp {K : PySem.W.Frag} {G : Hp} : ∀ (ds : List D) (vs : List V), RpA G vs ds → DpAll K G vs ds
  | [], _, h => by cases h; exact .nil
  | d :: ds, _, h => by
    cases h with
    | cons h1 h2 => exact .cons (Rp.dp d _ h1) (RpA.dp ds _ h2)
end
theorem RpA.length {G : Hp} : ∀ {vs : List V} {ds : List D}, RpA G vs ds → vs.length = ds.length
  | _, _, .nil => rfl
  | _, _, .cons _ t => congrArg Nat.succ t.length
theorem RpA.append {G : Hp} : ∀ {vs ws : List V} {ds es : List D}, RpA G vs ds → RpA G ws es → RpA G (vs ++ ws) (ds ++ es)
  | _, _, _, _, .nil, h => h
  | _, _, _, _, .cons a t, h => .cons a (t.append h)
theorem RpA.at_ {G : Hp} : ∀ {vs : List V} {ds : List D} {i : Nat} {d : D}, RpA G vs ds → ds[i]? = some d → ∃ v, vs[i]? = some v ∧ Rp G v d
  | _, _, _, _, .nil, h => by simp at h
  | _, _, 0, _, .cons a _, h => by
    simp at h
    subst h
    exact ⟨_, rfl, a⟩
  | _, _, i + 1, _, .cons _ t, h => by
    obtain ⟨v, h1, h2⟩ := t.at_ (i := i) (by simpa using h)
    exact ⟨v, by simpa using h1, h2⟩
theorem RpA.get {G : Hp} : ∀ {vs : List V} {ds : List D} {i : Nat} {v : V}, RpA G vs ds → vs[i]? = some v → ∃ d, ds[i]? = some d ∧ Rp G v d
  | _, _, _, _, .nil, h => by simp at h
  | _, _, 0, _, .cons a _, h => by
    simp at h
    subst h
    exact ⟨_, rfl, a⟩
  | _, _, i + 1, _, .cons _ t, h => by
    obtain ⟨v, h1, h2⟩ := t.get (i := i) (by simpa using h)
    exact ⟨v, by simpa using h1, h2⟩
theorem RpA.take {G : Hp} : ∀ {vs : List V} {ds : List D} (n : Nat), RpA G vs ds → RpA G (vs.take n) (ds.take n)
  | _, _, 0, _ => by simp only [List.take_zero]; exact .nil
  | _, _, n + 1, .nil => by simp only [List.take_nil]; exact .nil
  | _, _, n + 1, .cons a t => by simp only [List.take_succ_cons]; exact .cons a (t.take n)
theorem RpA.drop {G : Hp} : ∀ {vs : List V} {ds : List D} (n : Nat), RpA G vs ds → RpA G (vs.drop n) (ds.drop n)
  | _, _, 0, h => h
  | _, _, n + 1, .nil => by simp only [List.drop_nil]; exact .nil
  | _, _, n + 1, .cons a t => by simp only [List.drop_succ_cons]; exact t.drop n
theorem RpA.bools {G : Hp} : ∀ {bs : List Bool} {vs : List V}, RpA G vs (bs.map .bool) → vs = bs.map V.bl
  | [], _, h => by cases h; rfl
  | b :: bs, _, h => by
    cases h with
    | cons h1 h2 =>
      cases h1
      rw [RpA.bools h2] <;> rfl
theorem RpA.strs {G : Hp} : ∀ {bs : List Str} {vs : List V}, RpA G vs (bs.map .str) → vs = bs.map V.str
  | [], _, h => by cases h; rfl
  | b :: bs, _, h => by
    cases h with
    | cons h1 h2 =>
      cases h1
      rw [RpA.strs h2] <;> rfl
theorem RpA.ints {G : Hp} : ∀ {bs : List Int} {vs : List V}, RpA G vs (bs.map .int) → vs = bs.map V.int
  | [], _, h => by cases h; rfl
  | b :: bs, _, h => by
    cases h with
    | cons h1 h2 =>
      cases h1
      rw [RpA.ints h2] <;> rfl
theorem RpA.of_strs {G : Hp} : ∀ (bs : List Str), RpA G (bs.map V.str) (bs.map .str)
  | [] => .nil
  | b :: bs => .cons (.str b) (RpA.of_strs bs)
/-- a value of G that is small -/
structure Rq (G : Hp) (v : V) (d : D) : Prop where
  rp : Rp G v d
  sm : sm d = true
structure RqA (G : Hp) (vs : List V) (ds : List D) : Prop where
  rp : RpA G vs ds
  sm : smAll ds = true
section
variable {G G' : Hp} {v : V} {vs : List V} {d : D} {ds : List D}
theorem Rq.mono (e : Ex G G') (h : Rq G v d) : Rq G' v d := ⟨h.rp.mono e, h.sm⟩
theorem RqA.mono (e : Ex G G') (h : RqA G vs ds) : RqA G' vs ds := ⟨h.rp.mono e, h.sm⟩
theorem RqA.nil : RqA G [] [] := ⟨.nil, rfl⟩
theorem RqA.cons (a : Rq G v d) (t : RqA G vs ds) : RqA G (v :: vs) (d :: ds) := ⟨.cons a.rp t.rp, by rw [smAll, a.sm, t.sm]; rfl⟩
theorem RqA.at_ {i : Nat} (h : RqA G vs ds) (e : ds[i]? = some d) : ∃ v, vs[i]? = some v ∧ Rq G v d := by
  obtain ⟨v, h1, h2⟩ := h.rp.at_ e
  exact ⟨v, h1, h2, smAll_iff.mp h.sm d (List.mem_of_getElem? e)⟩
theorem RqA.get {i : Nat} (h : RqA G vs ds) (e : vs[i]? = some v) : ∃ d, ds[i]? = some d ∧ Rq G v d := by
  obtain ⟨d, h1, h2⟩ := h.rp.get e
  exact ⟨d, h1, h2, smAll_iff.mp h.sm d (List.mem_of_getElem? h1)⟩
theorem RqA.append {ws : List V} {es : List D} (h : RqA G vs ds) (k : RqA G ws es) : RqA G (vs ++ ws) (ds ++ es) := ⟨h.rp.append k.rp, smAll_iff.mpr fun x hx => (List.mem_append.mp hx).elim (smAll_iff.mp h.sm x) (smAll_iff.mp k.sm x)⟩
theorem RqA.take (n : Nat) (h : RqA G vs ds) : RqA G (vs.take n) (ds.take n) := ⟨h.rp.take n, smAll_iff.mpr fun x hx => smAll_iff.mp h.sm x (List.mem_of_mem_take hx)⟩
theorem RqA.drop (n : Nat) (h : RqA G vs ds) : RqA G (vs.drop n) (ds.drop n) := ⟨h.rp.drop n, smAll_iff.mpr fun x hx => smAll_iff.mp h.sm x (List.mem_of_mem_drop hx)⟩
theorem RqA.one (h : RqA G vs [d]) : ∃ v, vs = [v] ∧ Rq G v d := by
  obtain ⟨hp, hs⟩ := h
  cases hp with
  | cons a t =>
    cases t
    exact ⟨_, rfl, a, smAll_iff.mp hs d (List.mem_cons_self ..)⟩
theorem RqA.two {e : D} (h : RqA G vs [d, e]) : ∃ v w, vs = [v, w] ∧ Rq G v d ∧ Rq G w e := by
  obtain ⟨hp, hs⟩ := h
  cases hp with
  | cons a t =>
    obtain ⟨w, rfl, q⟩ := RqA.one ⟨t, smAll_iff.mpr fun x hx => smAll_iff.mp hs x (List.mem_cons_of_mem _ hx)⟩
    exact ⟨_, w, rfl, ⟨a, smAll_iff.mp hs d (List.mem_cons_self ..)⟩, q⟩
theorem Rq.tuple (h : Rq G v (.tuple ds)) : ∃ a vs, v = .ref a ∧ G a = some (.tup vs) ∧ RqA G vs ds ∧ ds.length ≤ 100000 := by
  obtain ⟨hp, hs⟩ := h
  have q := sm_tuple.mp hs
  cases hp with
  | tup h1 h2 => exact ⟨_, _, rfl, h1, ⟨h2, smAll_iff.mpr q.2⟩, q.1⟩
theorem Rq.list (h : Rq G v (.list ds)) : ∃ a vs, v = .ref a ∧ G a = some (.lst vs) ∧ RqA G vs ds ∧ ds.length ≤ 100000 := by
  obtain ⟨hp, hs⟩ := h
  have q := sm_list.mp hs
  cases hp with
  | lst h1 h2 => exact ⟨_, _, rfl, h1, ⟨h2, smAll_iff.mpr q.2⟩, q.1⟩
theorem Rq.bool {b : Bool} (h : Rq G v (.bool b)) : v = .bl b := by
  obtain ⟨hp, _⟩ := h
  cases hp
  rfl
theorem Rq.int {b : Int} (h : Rq G v (.int b)) : v = .int b := by
  obtain ⟨hp, _⟩ := h
  cases hp
  rfl
theorem Rq.str {b : Str} (h : Rq G v (.str b)) : v = .str b := by
  obtain ⟨hp, _⟩ := h
  cases hp
  rfl
theorem Rq.none (h : Rq G v .none) : v = .non := by
  obtain ⟨hp, _⟩ := h
  cases hp
  rfl
theorem Rq.of_tup {a : Addr} (h : G a = some (.tup vs)) (k : RqA G vs ds) (hl : ds.length ≤ 100000) : Rq G (.ref a) (.tuple ds) := ⟨.tup h k.rp, sm_tuple.mpr ⟨hl, smAll_iff.mp k.sm⟩⟩
theorem Rq.of_lst {a : Addr} (h : G a = some (.lst vs)) (k : RqA G vs ds) (hl : ds.length ≤ 100000) : Rq G (.ref a) (.list ds) := ⟨.lst h k.rp, sm_list.mpr ⟨hl, smAll_iff.mp k.sm⟩⟩
theorem Rq.of_bool (b : Bool) : Rq G (.bl b) (.bool b) := ⟨.bl b, rfl⟩
theorem Rq.of_none : Rq G .non .none := ⟨.non, rfl⟩
theorem Rq.of_int {i : Int} (h : i.natAbs ≤ 1000000000) : Rq G (.int i) (.int i) := ⟨.int i, decide_eq_true h⟩
theorem Rq.of_str {s : Str} (h : s.length ≤ 100000) : Rq G (.str s) (.str s) := ⟨.str s, decide_eq_true h⟩
theorem Rq.notNone (h : Rq G v d) : (v = .non) ↔ d = .none := by
  obtain ⟨hp, _⟩ := h
  cases hp <;> simp
end
/-! ## steps: G the frozen part of the heap H -/
structure Stp (G H G2 H2 : Hp) : Prop where
  ex : Ex H H2
  eg : Ex G G2
  in_ : Ex G2 H2
  hid : ∀ a, H a ≠ none → G a = none → G2 a = none
section
variable {G H G1 H1 G2 H2 : Hp}
theorem ex_some {a : Addr} (e : Ex G H) (h : G a ≠ none) : H a ≠ none := by
  cases q : G a with
  | none => exact absurd q h
  | some o => rw [e a o q]; simp
theorem Stp.refl (e : Ex G H) : Stp G H G H := ⟨Ex.refl H, Ex.refl G, e, fun _ _ h => h⟩
theorem Stp.trans (a : Stp G H G1 H1) (b : Stp G1 H1 G2 H2) : Stp G H G2 H2 :=
  ⟨a.ex.trans b.ex, a.eg.trans b.eg, b.in_, fun x h1 h2 => b.hid x (ex_some a.ex h1) (a.hid x h1 h2)⟩
where
  Ex.trans {H H1 H2 : Hp} (a : Ex H H1) (b : Ex H1 H2) : Ex H H2 := Evl.Ex.trans a b
theorem Stp.new {p : Addr} {o : HO} (e : Ex G H) (h : H p = none) : Stp G H (upd G p o) (upd H p o) := by
  have gp : G p = none := Evl.fresh_back e h
  refine ⟨Evl.Ex.new h, Evl.Ex.new gp, fun a u q => ?_, fun a h1 h2 => ?_⟩
  · by_cases c : a = p
    · subst c
      rw [upd_same] at q ⊢
      exact q
    · rw [upd_ne c] at q ⊢
      exact e a u q
  · have c : a ≠ p := fun z => h1 (z ▸ h)
    rw [upd_ne c]
    exact h2
/-- a new object that is not frozen -/
theorem Stp.own {p : Addr} {o : HO} (e : Ex G H) (h : H p = none) : Stp G H G (upd H p o) := by
  have gp : G p = none := Evl.fresh_back e h
  refine ⟨Evl.Ex.new h, Ex.refl G, fun a u q => ?_, fun a _ h2 => h2⟩
  have c : a ≠ p := fun z => by rw [z, gp] at q; cases q
  rw [upd_ne c]
  exact e a u q
/-- seen from a smaller frozen part -/
theorem Stp.join {G' : Hp} (e : Ex G G') (e' : Ex G' H) (s : Stp G H G2 H2) : ∃ G3, Stp G' H G3 H2 ∧ Ex G2 G3 := by
  refine ⟨fun a => match G' a with | some o => some o | none => G2 a, ⟨s.ex, fun a o q => by simp only [q], fun a o q => ?_, fun a h1 h2 => ?_⟩, fun a o q => ?_⟩
  · cases c : G' a with
    | some u =>
      simp only [c] at q
      rw [← q]
      exact s.ex a u (e' a u c)
    | none =>
      simp only [c] at q
      exact s.in_ a o q
  · simp only [h2]
    refine s.hid a h1 ?_
    cases c : G a with
    | some u => rw [e a u c] at h2; cases h2
    | none => rfl
  · cases c : G' a with
    | some u =>
      simp only [c]
      have h1 := s.ex a u (e' a u c)
      rw [s.in_ a o q] at h1
      exact h1.symm
    | none => simp only [c]; exact q
end
/-! ## slots -/
abbrev En := List (Option D)
structure Rs (G : Hp) (σ : L2.St) (env : En) : Prop where
  len : σ.length = env.length
  at_ : ∀ (i : Nat) (d : D), env[i]? = some (some d) → ∃ v, σ[i]? = some (some v) ∧ Rq G v d
def wipeE (env : En) : List Nat → En
  | [] => env
  | v :: vs => (wipeE env vs).set v none
section
variable {G G' H : Hp} {σ : L2.St} {env env2 : En} {v : V} {d : D} {j : Nat}
theorem Rs.mono (e : Ex G G') (h : Rs G σ env) : Rs G' σ env := ⟨h.len, fun i d q => by
  obtain ⟨v, h1, h2⟩ := h.at_ i d q
  exact ⟨v, h1, h2.mono e⟩⟩
theorem Rs.set (h : Rs G σ env) (r : Rq G v d) : Rs G (σ.set j (some v)) (env.set j (some d)) := ⟨by rw [List.length_set, List.length_set, h.len], fun i x q => by
  by_cases c : j = i
  · subst c
    have hl : j < env.length := by
      rcases Nat.lt_or_ge j env.length with z | z
      · exact z
      · rw [List.set_eq_of_length_le z, List.getElem?_eq_none z] at q
        cases q
    rw [List.getElem?_set_self hl] at q
    have e : d = x := Option.some.inj (Option.some.inj q)
    subst e
    exact ⟨v, by rw [List.getElem?_set_self (by rw [h.len]; exact hl)], r⟩
  · rw [List.getElem?_set_ne c] at q ⊢
    exact h.at_ i x q⟩
theorem Rs.forget {o : Option V} (h : Rs G σ env) : Rs G (σ.set j o) (env.set j none) := ⟨by rw [List.length_set, List.length_set, h.len], fun i x q => by
  by_cases c : j = i
  · subst c
    rcases Nat.lt_or_ge j env.length with z | z
    · rw [List.getElem?_set_self z] at q
      cases q
    · rw [List.set_eq_of_length_le z, List.getElem?_eq_none z] at q
      cases q
  · rw [List.getElem?_set_ne c] at q ⊢
    exact h.at_ i x q⟩
theorem Rs.wipe (h : Rs G σ env) : ∀ vs : List Nat, Rs G (wipe σ vs) (wipeE env vs)
  | [] => h
  | v :: vs => (Rs.wipe h vs).forget
/-- less is known -/
theorem Rs.weak (h : Rs G σ env) (hl : env2.length = env.length) (w : ∀ (i : Nat) (d : D), env2[i]? = some (some d) → env[i]? = some (some d)) : Rs G σ env2 := ⟨by rw [h.len, hl], fun i d q => h.at_ i d (w i d q)⟩
theorem wipe_set {σ : L2.St} {j : Nat} {x : Option V} : ∀ {vs : List Nat}, j ∈ vs → wipe (σ.set j x) vs = wipe σ vs
  | v :: vs, h => by
    by_cases c : j ∈ vs
    · show (wipe (σ.set j x) vs).set v none = (wipe σ vs).set v none
      rw [wipe_set c]
    · have e : j = v := (List.mem_cons.mp h).resolve_right c
      subst e
      have key : ∀ (vs : List Nat) (σ : L2.St), (wipe (σ.set j x) vs).set j none = (wipe σ vs).set j none := by
        intro vs
        induction vs with
        | nil => intro σ; show (σ.set j x).set j none = σ.set j none; rw [List.set_set]
        | cons w ws ih =>
          intro σ
          show ((wipe (σ.set j x) ws).set w none).set j none = ((wipe σ ws).set w none).set j none
          by_cases d : w = j
          · subst d
            rw [List.set_set, List.set_set]
            exact ih σ
          · rw [List.set_comm _ _ d, List.set_comm _ _ d, ih σ]
      exact key vs σ
theorem wipe_wipe (σ : L2.St) : ∀ (vs ws : List Nat), (∀ v ∈ vs, v ∈ ws) → wipe (wipe σ vs) ws = wipe σ ws
  | [], ws, _ => rfl
  | v :: vs, ws, h => by
    show wipe ((wipe σ vs).set v none) ws = wipe σ ws
    rw [wipe_set (h v (List.mem_cons_self ..)), wipe_wipe σ vs ws fun x hx => h x (List.mem_cons_of_mem _ hx)]
end
/-! ## what readings come to -/
def EvE (te : TE) (env : En) (d : D) : Prop := ∀ σ G H, Rs G σ env → Ex G H → ∀ Q : VK, (∀ v G2 H2, Stp G H G2 H2 → Rq G2 v d → Q v H2) → te σ H Q
def EvA (ta : TA) (env : En) (ds : List D) : Prop := ∀ σ G H, Rs G σ env → Ex G H → ∀ Q : List V → Hp → Prop, (∀ vs G2 H2, Stp G H G2 H2 → RqA G2 vs ds → Q vs H2) → ta σ H Q
def EvT (tt : TT) (env : En) (b : Bool) : Prop := ∀ σ G H, Rs G σ env → Ex G H → ∀ Q : Bool → Hp → Prop, (∀ G2 H2, Stp G H G2 H2 → Q b H2) → tt σ H Q
/-- operators, calls: by data -/
def rD (R : List D → D → Prop) : List V → Hp → VK → Prop := fun vs H Q => ∃ G ds d, R ds d ∧ Ex G H ∧ RqA G vs ds ∧ ∀ v G2 H2, Stp G H G2 H2 → Rq G2 v d → Q v H2
def rD2 (R : D → D → D → Prop) : R2 := fun x y H Q => ∃ G a b d, R a b d ∧ Ex G H ∧ Rq G x a ∧ Rq G y b ∧ ∀ v G2 H2, Stp G H G2 H2 → Rq G2 v d → Q v H2
def spR (R : List D → D → Prop) : Sp := fun vs H Q _ => rD R vs H Q
section
variable {K : PySem.W.Frag} {env : En} {ta tb te tc : TE} {tt uu : TT} {tr : TA} {a b c d : D} {ds : List D} {R2' : D → D → D → Prop} {R : List D → D → Prop}
theorem ev_var {i : Nat} (h : env[i]? = some (some d)) : EvE (tVar i) env d := fun σ G H r e Q q => by
  obtain ⟨v, h1, h2⟩ := r.at_ i d h
  exact ⟨v, h1, q v G H (Stp.refl e) h2⟩
theorem ev_bl {b : Bool} : EvE (tC (.bl b)) env (.bool b) := fun σ G H _ e Q q => q _ G H (Stp.refl e) (.of_bool b)
theorem ev_non : EvE (tC .non) env .none := fun σ G H _ e Q q => q _ G H (Stp.refl e) .of_none
theorem ev_int {i : Int} (h : i.natAbs ≤ 1000000000) : EvE (tC (.int i)) env (.int i) := fun σ G H _ e Q q => q _ G H (Stp.refl e) (.of_int h)
theorem ev_str {s : Str} (h : s.length ≤ 100000) : EvE (tC (.str s)) env (.str s) := fun σ G H _ e Q q => q _ G H (Stp.refl e) (.of_str h)
theorem ea_nil : EvA tNil env [] := fun σ G H _ e Q q => q _ G H (Stp.refl e) .nil
theorem ea_cons (h : EvE ta env d) (k : EvA tr env ds) : EvA (tCons ta tr) env (d :: ds) := fun σ G H r e Q q =>
  h σ G H r e _ fun v G1 H1 s1 r1 => k σ G1 H1 (r.mono s1.eg) s1.in_ _ fun vs G2 H2 s2 r2 => q _ G2 H2 (s1.trans s2) (.cons (r1.mono s2.eg) r2)
theorem ea_star (h : EvE ta env (.tuple ds)) {es : List D} (k : EvA tr env es) : EvA (tStar K ta tr) env (ds ++ es) := fun σ G H r e Q q =>
  h σ G H r e _ fun v G1 H1 s1 r1 => by
    obtain ⟨a, vs, rfl, h1, h2, _⟩ := r1.tuple
    exact ⟨a, vs, rfl, .inl (.inl (.inl (s1.in_ _ _ h1))), k σ G1 H1 (r.mono s1.eg) s1.in_ _ fun ws G2 H2 s2 r2 => q _ G2 H2 (s1.trans s2) ((h2.mono s2.eg).append r2)⟩
theorem ev_op (h : EvE ta env a) (k : EvE tb env b) (hr : R2' a b d) : EvE (tOp (rD2 R2') ta tb) env d := fun σ G H r e Q q =>
  h σ G H r e _ fun v G1 H1 s1 r1 => k σ G1 H1 (r.mono s1.eg) s1.in_ _ fun w G2 H2 s2 r2 =>
    ⟨G2, a, b, d, hr, s2.in_, r1.mono s2.eg, r2, fun z G3 H3 s3 r3 => q z G3 H3 ((s1.trans s2).trans s3) r3⟩
theorem ev_cb (h : EvA tr env ds) (hr : R ds d) : EvE (tCB (rD R) tr) env d := fun σ G H r e Q q =>
  h σ G H r e _ fun vs G1 H1 s1 r1 => ⟨G1, ds, d, hr, s1.in_, r1, fun z G3 H3 s3 r3 => q z G3 H3 (s1.trans s3) r3⟩
theorem ev_call (h : EvA tr env ds) (hr : R ds d) : EvE (tCall (spR R) [] E0 tr) env d := fun σ G H r e Q q =>
  h σ G H r e _ fun vs G1 H1 s1 r1 => by
    show spR R (vs ++ []) H1 Q E0
    rw [List.append_nil]
    exact ⟨G1, ds, d, hr, s1.in_, r1, fun z G3 H3 s3 r3 => q z G3 H3 (s1.trans s3) r3⟩
theorem ev_tup (h : EvA tr env ds) (hl : ds.length ≤ 100000) : EvE (tTup tr) env (.tuple ds) := fun σ G H r e Q q =>
  h σ G H r e _ fun vs G1 H1 s1 r1 => ⟨Evl.sz_of (by rw [r1.rp.length]; exact hl), fun p hp => by
    have s2 := Stp.new (o := .tup vs) s1.in_ hp
    exact q _ _ _ (s1.trans s2) (.of_tup upd_same (r1.mono s2.eg) hl)⟩
theorem ev_lst (h : EvA tr env ds) (hl : ds.length ≤ 100000) : EvE (tLst tr) env (.list ds) := fun σ G H r e Q q =>
  h σ G H r e _ fun vs G1 H1 s1 r1 => ⟨Evl.sz_of (by rw [r1.rp.length]; exact hl), fun p hp => by
    have s2 := Stp.new (o := .lst vs) s1.in_ hp
    exact q _ _ _ (s1.trans s2) (.of_lst upd_same (r1.mono s2.eg) hl)⟩
theorem et_test {b : Bool} (h : EvE te env (.bool b)) : EvT (tTest te) env b := fun σ G H r e Q q => h σ G H r e _ fun v G1 H1 s1 r1 => ⟨b, r1.bool, q G1 H1 s1⟩
theorem et_B {b : Bool} (h : EvE te env (.bool b)) : EvT (tB te) env b := fun σ G H r e Q q => h σ G H r e _ fun v G1 H1 s1 r1 => ⟨b, r1.bool, q G1 H1 s1⟩
theorem et_yes : EvT tYes env true := fun σ G H _ e Q q => q G H (Stp.refl e)
theorem et_and {x y : Bool} (h : EvT tt env x) (k : x = true → EvT uu env y) : EvT (tAnd tt uu) env (x && y) := fun σ G H r e Q q => h σ G H r e _ fun G1 H1 s1 => by
  cases x with
  | true =>
    show uu σ H1 Q
    exact k rfl σ G1 H1 (r.mono s1.eg) s1.in_ Q fun G2 H2 s2 => q G2 H2 (s1.trans s2)
  | false => exact q G1 H1 s1
theorem et_or {x y : Bool} (h : EvT tt env x) (k : x = false → EvT uu env y) : EvT (tOr tt uu) env (x || y) := fun σ G H r e Q q => h σ G H r e _ fun G1 H1 s1 => by
  cases x with
  | true => exact q G1 H1 s1
  | false =>
    show uu σ H1 Q
    exact k rfl σ G1 H1 (r.mono s1.eg) s1.in_ Q fun G2 H2 s2 => q G2 H2 (s1.trans s2)
theorem et_not {x : Bool} (h : EvT tt env x) : EvT (tNot tt) env (!x) := fun σ G H r e Q q => h σ G H r e _ fun G1 H1 s1 => q G1 H1 s1
theorem ev_and {x y : Bool} (h : EvE ta env (.bool x)) (k : x = true → EvE tb env (.bool y)) : EvE (tAndV ta tb) env (.bool (x && y)) := fun σ G H r e Q q => h σ G H r e _ fun v G1 H1 s1 r1 => ⟨x, r1.bool, by
  cases x with
  | true =>
    show tb σ H1 Q
    exact k rfl σ G1 H1 (r.mono s1.eg) s1.in_ Q fun v G2 H2 s2 r2 => q v G2 H2 (s1.trans s2) r2
  | false => exact q _ G1 H1 s1 (.of_bool false)⟩
theorem ev_or {x y : Bool} (h : EvE ta env (.bool x)) (k : x = false → EvE tb env (.bool y)) : EvE (tOrV ta tb) env (.bool (x || y)) := fun σ G H r e Q q => h σ G H r e _ fun v G1 H1 s1 r1 => ⟨x, r1.bool, by
  cases x with
  | true => exact q _ G1 H1 s1 (.of_bool true)
  | false =>
    show tb σ H1 Q
    exact k rfl σ G1 H1 (r.mono s1.eg) s1.in_ Q fun v G2 H2 s2 r2 => q v G2 H2 (s1.trans s2) r2⟩
theorem ev_if {x : Bool} (h : EvT tt env x) (h1 : x = true → EvE ta env d) (h2 : x = false → EvE tb env d) : EvE (tIf tt ta tb) env d := fun σ G H r e Q q => h σ G H r e _ fun G1 H1 s1 => by
  cases x with
  | true =>
    show ta σ H1 Q
    exact h1 rfl σ G1 H1 (r.mono s1.eg) s1.in_ Q fun v G2 H2 s2 r2 => q v G2 H2 (s1.trans s2) r2
  | false =>
    show tb σ H1 Q
    exact h2 rfl σ G1 H1 (r.mono s1.eg) s1.in_ Q fun v G2 H2 s2 r2 => q v G2 H2 (s1.trans s2) r2
theorem ev_is (h : EvE te env a) (e : a = b) : EvE te env b := e ▸ h
theorem et_is {x y : Bool} (h : EvT tt env x) (e : x = y) : EvT tt env y := e ▸ h
theorem ev_chain {r r' : D → D → D → Prop} {x y : Bool} (h1 : EvE ta env a) (h2 : EvE tb env b) (h3 : EvE tc env c) (k1 : r a b (.bool x)) (k2 : r' b c (.bool y)) : EvE (tChain (rD2 r) (rD2 r') ta tb tc) env (.bool (x && y)) := fun σ G H hr e Q q =>
  h1 σ G H hr e _ fun v1 G1 H1 s1 r1 => h2 σ G1 H1 (hr.mono s1.eg) s1.in_ _ fun v2 G2 H2 s2 r2 =>
    ⟨G2, a, b, _, k1, s2.in_, r1.mono s2.eg, r2, fun z G3 H3 s3 r3 => ⟨x, r3.bool, by
      have s13 := (s1.trans s2).trans s3
      cases x with
      | true => exact h3 σ G3 H3 (hr.mono s13.eg) s3.in_ _ fun v4 G4 H4 s4 r4 => ⟨G4, b, c, _, k2, s4.in_, (r2.mono s3.eg).mono s4.eg, r4, fun z G5 H5 s5 r5 => q z G5 H5 ((s13.trans s4).trans s5) r5⟩
      | false => exact q _ G3 H3 s13 (.of_bool false)⟩⟩
end
end K16
/-! ## part Bl -/
set_option Elab.async false
set_option linter.all false
set_option maxRecDepth 100000
set_option maxHeartbeats 1000000
namespace K16
open PySem PySem.Spec PyProof.Rows L2
open Evl (Ex)
open StX (tStar)
/-! ## sources that are walked, targets -/
/-- J walks the data ds, wherever G1 is kept -/
structure WalkOk (J : It) (G1 : Hp) (ds : List D) : Prop where
  len : ds.length ≤ 100000
  go : ∀ (i : Nat) H', Ex G1 H' → i < ds.length → J.go i H'
  yld : ∀ (i : Nat) d G' H' x H'', Ex G1 G' → Ex G' H' → ds[i]? = some d → J.yld i H' x H'' → ∃ G'', Stp G' H' G'' H'' ∧ Rq G'' x d
  stop : ∀ (i : Nat) H', Ex G1 H' → ds.length = i → J.stop i H'
def SrcE (wi : TI) (env : En) (ds : List D) : Prop := ∀ σ G H, Rs G σ env → Ex G H → ∀ R : It → Hp → Prop, (∀ J G1 H1, Stp G H G1 H1 → WalkOk J G1 ds → R J H1) → wi σ H R
/-- a target takes d: what is known behind it; js: its slots -/
def GtE (g : TG) (d : D) (js : List Nat) (env env2 : En) : Prop := ∀ v σ G H, Rs G σ env → Ex G H → Rq G v d → ∀ Q : L2.St → Hp → Prop,
  (∀ σ2, Rs G σ2 env2 → (∀ vs : List Nat, (∀ j ∈ js, j ∈ vs) → wipe σ2 vs = wipe σ vs) → (∀ i : Nat, i ∉ js → σ2[i]? = σ[i]?) → Q σ2 H) → g v σ H Q
def GtsE (g : TGs) (ds : List D) (js : List Nat) (env env2 : En) : Prop := ∀ vs σ G H, Rs G σ env → Ex G H → RqA G vs ds → ∀ Q : L2.St → Hp → Prop,
  (∀ σ2, Rs G σ2 env2 → (∀ ws : List Nat, (∀ j ∈ js, j ∈ ws) → wipe σ2 ws = wipe σ ws) → (∀ i : Nat, i ∉ js → σ2[i]? = σ[i]?) → Q σ2 H) → g vs σ H Q
section
variable {K : PySem.W.Frag} {env env2 env3 : En} {d : D} {ds : List D} {ta tl : TE}
theorem gt_name {j : Nat} : GtE (gName j) d [j] env (env.set j (some d)) := fun v σ G H r e rv Q q =>
  q _ (r.set rv) (fun vs h => wipe_set (h j (List.mem_singleton.mpr rfl))) fun i hi => List.getElem?_set_ne fun z => hi (List.mem_singleton.mpr z.symm)
theorem gts_nil : GtsE gNil [] [] env env := fun vs σ G H r e rv Q q => by
  obtain ⟨hp, _⟩ := rv
  cases hp
  exact ⟨rfl, q σ r (fun _ _ => rfl) fun _ _ => rfl⟩
theorem gts_cons {g : TG} {u : TGs} {js ks : List Nat} (h : GtE g d js env env2) (k : GtsE u ds ks env2 env3) : GtsE (gCons g u) (d :: ds) (js ++ ks) env env3 := fun vs σ G H r e rv Q q => by
  obtain ⟨hp, hs⟩ := rv
  cases hp with
  | cons a t =>
    refine ⟨_, _, rfl, h _ σ G H r e ⟨a, smAll_iff.mp hs d (List.mem_cons_self ..)⟩ _ fun σ2 r2 w2 n2 => k _ σ2 G H r2 e ⟨t, smAll_iff.mpr fun x hx => smAll_iff.mp hs x (List.mem_cons_of_mem _ hx)⟩ _ fun σ3 r3 w3 n3 => q σ3 r3 (fun ws hw => ?_) fun i hi => ?_⟩
    · rw [w3 ws fun j hj => hw j (List.mem_append_right _ hj), w2 ws fun j hj => hw j (List.mem_append_left _ hj)]
    · rw [n3 i fun z => hi (List.mem_append_right _ z), n2 i fun z => hi (List.mem_append_left _ z)]
theorem gt_tup {g : TGs} {js : List Nat} {n : Nat} (h : GtsE g ds js env env2) (hn : ds.length = n) : GtE (gTup K n g) (.tuple ds) js env env2 := fun v σ G H r e rv Q q => by
  obtain ⟨a, vs, rfl, h1, h2, _⟩ := rv.tuple
  exact ⟨a, vs, rfl, .inl (.inl (e _ _ h1)), by rw [h2.rp.length, hn], h vs σ G H r e h2 Q q⟩
theorem src_tup (h : EvE tl env (.tuple ds)) : SrcE (iTup K tl) env ds := fun σ G H r e R q => h σ G H r e _ fun v G1 H1 s1 r1 => by
  obtain ⟨a, vs, rfl, h1, h2, h3⟩ := r1.tuple
  have hl := h2.rp.length
  have sq : ∀ H', Ex G1 H' → SqT K H' a vs := fun H' e' => .inl (.inl (e' _ _ h1))
  refine ⟨a, rfl, ⟨vs, sq H1 s1.in_⟩, q _ G1 H1 s1 ⟨h3, fun i H' e' hi => ?_, fun i d G' H' x H'' eg e' hd y => ?_, fun i H' e' hi => ⟨vs, sq H' e', by omega⟩⟩⟩
  · exact ⟨vs, vs[i]'(by omega), sq H' e', List.getElem?_eq_getElem (by omega)⟩
  · obtain ⟨rfl, f⟩ := y
    obtain ⟨w, hw, rw'⟩ := h2.at_ hd
    have ew : x = w := Option.some.inj ((f vs (sq _ (Evl.Ex.trans eg e'))).symm.trans hw)
    subst ew
    exact ⟨G', Stp.refl e', rw'.mono eg⟩
theorem src_list (h : EvE tl env (.list ds)) : SrcE (iList K tl) env ds := fun σ G H r e R q => h σ G H r e _ fun v G1 H1 s1 r1 => by
  obtain ⟨a, vs, rfl, h1, h2, h3⟩ := r1.list
  have hl := h2.rp.length
  have sq : ∀ H', Ex G1 H' → SqL K H' a vs := fun H' e' => .inl (.inl (e' _ _ h1))
  refine ⟨a, rfl, ⟨vs, sq H1 s1.in_⟩, q _ G1 H1 s1 ⟨h3, fun i H' e' hi => ?_, fun i d G' H' x H'' eg e' hd y => ?_, fun i H' e' hi => ⟨vs, sq H' e', by omega⟩⟩⟩
  · exact ⟨vs, vs[i]'(by omega), sq H' e', List.getElem?_eq_getElem (by omega)⟩
  · obtain ⟨rfl, f⟩ := y
    obtain ⟨w, hw, rw'⟩ := h2.at_ hd
    have ew : x = w := Option.some.inj ((f vs (sq _ (Evl.Ex.trans eg e'))).symm.trans hw)
    subst ew
    exact ⟨G', Stp.refl e', rw'.mono eg⟩
theorem src_str {s : Str} (h : EvE tl env (.str s)) (hl : s.cps.size ≤ 100000) : SrcE (iStr tl) env (s.cps.toList.map fun c => .str ⟨#[c]⟩) := fun σ G H r e R q => h σ G H r e _ fun v G1 H1 s1 r1 => by
  have hs : ∀ ds : List D, ds = s.cps.toList.map (fun c => PyData.str ⟨#[c]⟩) → ds.length = s.cps.size := fun ds e => by rw [e, List.length_map, Array.length_toList]
  refine ⟨s, r1.str, q _ G1 H1 s1 ⟨by rw [hs _ rfl]; exact hl, fun i H' e' hi => ?_, fun i d G' H' x H'' eg e' hd y => ?_, fun i H' e' hi => ?_⟩⟩
  · rw [hs _ rfl] at hi
    exact hi
  · obtain ⟨rfl, c, hc, rfl⟩ := y
    rw [List.getElem?_map, Array.getElem?_toList, hc] at hd
    have ed : PyData.str ⟨#[c]⟩ = d := Option.some.inj hd
    subst ed
    exact ⟨G', Stp.refl e', .of_str (show (1 : Nat) ≤ 100000 by decide)⟩
  · rw [hs _ rfl] at hi
    exact Nat.le_of_eq hi
theorem src_rng {n : Nat} {tr : TA} (h : EvA tr env [.int (n : Int)]) (hn : n ≤ 100000) : SrcE (iRng1 tr) env ((List.range n).map fun (k : Nat) => .int (k : Int)) := fun σ G H r e R q => h σ G H r e _ fun vs G1 H1 s1 r1 => by
  obtain ⟨v, rfl, rv⟩ := r1.one
  obtain rfl := rv.int
  refine ⟨n, rfl, by omega, by omega, q _ G1 H1 s1 ⟨by rw [List.length_map, List.length_range]; exact hn, fun i H' e' hi => ?_, fun i d G' H' x H'' eg e' hd y => ?_, fun i H' e' hi => ?_⟩⟩
  · rw [List.length_map, List.length_range] at hi
    show i < (n : Int).toNat
    omega
  · obtain ⟨rfl, rfl⟩ := y
    have hi : i < n := by
      have z := (List.getElem?_eq_some_iff.mp hd).1
      rw [List.length_map, List.length_range] at z
      exact z
    rw [List.getElem?_map, List.getElem?_range hi] at hd
    have ed : PyData.int (i : Int) = d := Option.some.inj hd
    subst ed
    have e0 : (0 : Int) + (i : Int) = (i : Int) := by omega
    rw [e0]
    exact ⟨G', Stp.refl e', .of_int (by omega)⟩
  · rw [List.length_map, List.length_range] at hi
    show (n : Int).toNat ≤ i
    omega
end
/-! ## a list of one's own that grows -/
structure Ow (G0 H0 G H : Hp) (l : Addr) (vs : List V) (ds : List D) : Prop where
  st : Stp G0 H0 G H
  new : H0 l = none
  hid : G l = none
  at_ : H l = some (.lst vs)
  rq : RqA G vs ds
section
variable {G0 H0 G H G' H' : Hp} {l : Addr} {vs : List V} {ds : List D}
theorem Ow.start (st : Stp G0 H0 G H) (h : H l = none) : Ow G0 H0 G (upd H l (.lst [])) l [] [] :=
  ⟨st.trans (Stp.own st.in_ h), Evl.fresh_back st.ex h, Evl.fresh_back st.in_ h, upd_same, .nil⟩
theorem Ow.step (o : Ow G0 H0 G H l vs ds) (s : Stp G H G' H') : Ow G0 H0 G' H' l vs ds :=
  ⟨o.st.trans s, o.new, s.hid l (by rw [o.at_]; simp) o.hid, s.ex _ _ o.at_, o.rq.mono s.eg⟩
theorem Ow.write {ws : List V} {es : List D} (o : Ow G0 H0 G H l vs ds) (r : RqA G ws es) : Ow G0 H0 G (upd H l (.lst ws)) l ws es := by
  refine ⟨⟨Evl.Ex.mut o.st.ex o.new, o.st.eg, Evl.Ex.mut o.st.in_ o.hid, o.st.hid⟩, o.new, o.hid, upd_same, r⟩
/-- it is data from now on -/
theorem Ow.freeze (o : Ow G0 H0 G H l vs ds) (hl : ds.length ≤ 100000) : ∃ G2, Stp G0 H0 G2 H ∧ Ex G G2 ∧ Rq G2 (.ref l) (.list ds) := by
  refine ⟨upd G l (.lst vs), ⟨o.st.ex, Evl.Ex.trans o.st.eg (Evl.Ex.new o.hid), fun a u q => ?_, fun a h1 h2 => ?_⟩, Evl.Ex.new o.hid, .of_lst upd_same (o.rq.mono (Evl.Ex.new o.hid)) hl⟩
  · by_cases c : a = l
    · subst c
      rw [upd_same] at q
      rw [o.at_]
      exact q
    · rw [upd_ne c] at q
      exact o.st.in_ a u q
  · have c : a ≠ l := fun z => h1 (z ▸ o.new)
    rw [upd_ne c]
    exact o.st.hid a h1 h2
end
section
variable {env : En} {wi wi1 : TI} {g g1 : TG} {tt tt1 : TT} {te : TE} {js js1 vs vs1 : List Nat}
/-- [e for target in source if test] -/
theorem ev_lc {α : Type} {xs : List α} {enc : α → D} (p : α → Bool) (f : α → D) {env2 : α → En} (hs : SrcE wi env (xs.map enc)) (hg : ∀ x ∈ xs, GtE g (enc x) js (wipeE env vs) (env2 x)) (hj : ∀ j ∈ js, j ∈ vs)
    (ht : ∀ x ∈ xs, EvT tt (env2 x) (p x)) (he : ∀ x ∈ xs, p x = true → EvE te (env2 x) (f x)) : EvE (tLc wi g tt te vs) env (.list ((xs.filter p).map f)) := fun σ G H r e Q q =>
  hs σ G H r e _ fun J G1 H1 s1 W => fun Dl hD => by
    have hlen : xs.length ≤ 100000 := by have := W.len; rw [List.length_map] at this; exact this
    have r1 := r.mono s1.eg
    refine ⟨fun i m H' => m = xs.length - i ∧ i ≤ xs.length ∧ ∃ G' acc, Ow G1 H1 G' H' Dl acc (((xs.take i).filter p).map f), ⟨xs.length, by simp, Nat.zero_le _, G1, [], Ow.start (Stp.refl s1.in_) hD⟩, ?_⟩
    rintro i m H' ⟨rfl, hi, G', acc, o⟩
    by_cases hlt : i < xs.length
    · refine .inr ⟨W.go i H' (Evl.Ex.trans o.st.eg o.st.in_) (by rw [List.length_map]; exact hlt), fun H2 => ∃ G' acc, Ow G1 H1 G' H2 Dl acc (((xs.take (i + 1)).filter p).map f), fun H2 o2 => ⟨xs.length - (i + 1), by omega, rfl, hlt, o2⟩, fun x H2 y => ?_⟩
      have hx : xs[i]? = some xs[i] := List.getElem?_eq_getElem hlt
      have hm : xs[i] ∈ xs := List.getElem_mem hlt
      have hd : (xs.map enc)[i]? = some (enc xs[i]) := by rw [List.getElem?_map, hx] <;> rfl
      obtain ⟨G2, s2, rx⟩ := W.yld i _ G' H' x H2 o.st.eg o.st.in_ hd y
      have o2 := o.step s2
      have tk : xs.take (i + 1) = xs.take i ++ [xs[i]] := by rw [List.take_add_one, hx] <;> rfl
      refine hg _ hm x _ G2 H2 ((r1.mono (Evl.Ex.trans o.st.eg s2.eg)).wipe vs) s2.in_ rx _ fun σ2 r2 w2 _ => ?_
      refine ⟨(w2 vs hj).trans (wipe_wipe σ vs vs fun _ h => h), ht _ hm σ2 G2 H2 r2 s2.in_ _ fun G3 H3 s3 => ?_⟩
      have o3 := o2.step s3
      cases hp : p xs[i] with
      | false =>
        show ∃ G' acc, Ow G1 H1 G' H3 Dl acc _
        refine ⟨G3, acc, ?_⟩
        rw [tk, List.filter_append, List.filter_cons, hp]
        simpa using o3
      | true =>
        show te σ2 H3 _
        refine he _ hm hp σ2 G3 H3 (r2.mono s3.eg) s3.in_ _ fun z G4 H4 s4 r4 => ?_
        have o4 := o3.step s4
        refine ⟨acc, o4.at_, ?_, G4, acc ++ [z], ?_⟩
        · rw [o4.rq.rp.length, List.length_map]
          have h1 := List.length_filter_le p (xs.take i)
          rw [List.length_take] at h1
          exact Evl.sz_lt (by omega)
        · have o5 := o4.write (o4.rq.append (.cons r4 .nil))
          rw [tk, List.filter_append, List.filter_cons, hp, List.map_append]
          simpa using o5
    · have ei : i = xs.length := by omega
      subst ei
      rw [List.take_length] at o
      refine .inl ⟨W.stop _ H' (Evl.Ex.trans o.st.eg o.st.in_) (by rw [List.length_map]), ?_⟩
      have hl : ((xs.filter p).map f).length ≤ 100000 := by
        rw [List.length_map]
        exact Nat.le_trans (List.length_filter_le _ _) hlen
      obtain ⟨G2, h1, h2, h3⟩ := o.freeze hl
      exact q _ G2 H' (s1.trans h1) h3
/-- [e for target in source for target in source], no tests -/
theorem ev_lc2 {α β : Type} {xs : List α} {enc : α → D} {ys : α → List β} {enc1 : α → β → D} (f : α → β → D) {env2 : α → En} {env3 : α → β → En} (hs : SrcE wi env (xs.map enc)) (hg : ∀ x ∈ xs, GtE g (enc x) js (wipeE env vs) (env2 x)) (hj : ∀ j ∈ js, j ∈ vs)
    (hs1 : ∀ x ∈ xs, SrcE wi1 (env2 x) ((ys x).map (enc1 x))) (hg1 : ∀ x ∈ xs, ∀ y ∈ ys x, GtE g1 (enc1 x y) js1 (wipeE (env2 x) vs1) (env3 x y)) (hj1 : ∀ j ∈ js1, j ∈ vs1)
    (he : ∀ x ∈ xs, ∀ y ∈ ys x, EvE te (env3 x y) (f x y)) (hl : (xs.flatMap fun x => (ys x).map (f x)).length ≤ 100000) : EvE (tLc2 wi g tYes wi1 g1 tYes te vs vs1) env (.list (xs.flatMap fun x => (ys x).map (f x))) := fun σ G H r e Q q =>
  hs σ G H r e _ fun J G1 H1 s1 W => fun Dl hD => by
    have r1 := r.mono s1.eg
    have sub : ∀ i, ((xs.take i).flatMap fun x => (ys x).map (f x)).length ≤ 100000 := fun i => by
      refine Nat.le_trans ?_ hl
      conv => rhs; rw [← List.take_append_drop i xs, List.flatMap_append, List.length_append]
      omega
    refine ⟨fun i m H' => m = xs.length - i ∧ i ≤ xs.length ∧ ∃ G' acc, Ow G1 H1 G' H' Dl acc ((xs.take i).flatMap fun x => (ys x).map (f x)), ⟨xs.length, by simp, Nat.zero_le _, G1, [], Ow.start (Stp.refl s1.in_) hD⟩, ?_⟩
    rintro i m H' ⟨rfl, hi, G', acc, o⟩
    by_cases hlt : i < xs.length
    · refine .inr ⟨W.go i H' (Evl.Ex.trans o.st.eg o.st.in_) (by rw [List.length_map]; exact hlt), fun H2 => ∃ G' acc, Ow G1 H1 G' H2 Dl acc ((xs.take (i + 1)).flatMap fun x => (ys x).map (f x)), fun H2 o2 => ⟨xs.length - (i + 1), by omega, rfl, hlt, o2⟩, fun x H2 y => ?_⟩
      have hx : xs[i]? = some xs[i] := List.getElem?_eq_getElem hlt
      have hm : xs[i] ∈ xs := List.getElem_mem hlt
      have hd : (xs.map enc)[i]? = some (enc xs[i]) := by rw [List.getElem?_map, hx] <;> rfl
      obtain ⟨G2, s2, rx⟩ := W.yld i _ G' H' x H2 o.st.eg o.st.in_ hd y
      have o2 := o.step s2
      have tk : ((xs.take (i + 1)).flatMap fun x => (ys x).map (f x)) = ((xs.take i).flatMap fun x => (ys x).map (f x)) ++ (ys xs[i]).map (f xs[i]) := by
        rw [List.take_add_one, hx, List.flatMap_append]
        simp
      refine hg _ hm x _ G2 H2 ((r1.mono (Evl.Ex.trans o.st.eg s2.eg)).wipe vs) s2.in_ rx _ fun σ2 r2 w2 _ => ?_
      refine ⟨(w2 vs hj).trans (wipe_wipe σ vs vs fun _ h => h), ?_⟩
      show wi1 σ2 H2 _
      refine hs1 _ hm σ2 G2 H2 r2 s2.in_ _ fun J1 G3 H3 s3 W1 => ?_
      have o3 := o2.step s3
      generalize ht : xs[i] = t at hm hs1 W1 tk r2
      refine ⟨fun j k H' => k = (ys t).length - j ∧ j ≤ (ys t).length ∧ ∃ G' acc, Ow G1 H1 G' H' Dl acc (((xs.take i).flatMap fun x => (ys x).map (f x)) ++ ((ys t).take j).map (f t)) ∧ Ex G3 G', ⟨(ys t).length, by simp, Nat.zero_le _, G3, acc, by simpa using o3, Evl.Ex.refl _⟩, ?_⟩
      rintro j k H4 ⟨rfl, hj', G4, acc4, o4, e4⟩
      by_cases hlt1 : j < (ys t).length
      · refine .inr ⟨W1.go j H4 (Evl.Ex.trans e4 o4.st.in_) (by rw [List.length_map]; exact hlt1), fun H2 => ∃ G' acc, Ow G1 H1 G' H2 Dl acc (((xs.take i).flatMap fun x => (ys x).map (f x)) ++ ((ys t).take (j + 1)).map (f t)) ∧ Ex G3 G', fun H2 o2 => ⟨(ys t).length - (j + 1), by omega, rfl, hlt1, o2⟩, fun x H5 y => ?_⟩
        have hx1 : (ys t)[j]? = some (ys t)[j] := List.getElem?_eq_getElem hlt1
        have hm1 : (ys t)[j] ∈ ys t := List.getElem_mem hlt1
        have hd1 : ((ys t).map (enc1 t))[j]? = some (enc1 t (ys t)[j]) := by rw [List.getElem?_map, hx1] <;> rfl
        obtain ⟨G5, s5, rx5⟩ := W1.yld j _ G4 H4 x H5 e4 o4.st.in_ hd1 y
        have o5 := o4.step s5
        refine hg1 _ hm _ hm1 x _ G5 H5 ((r2.mono (Evl.Ex.trans s3.eg (Evl.Ex.trans e4 s5.eg))).wipe vs1) s5.in_ rx5 _ fun σ3 r3 w3 _ => ?_
        refine ⟨(w3 vs1 hj1).trans (wipe_wipe σ2 vs1 vs1 fun _ h => h), ?_⟩
        show te σ3 H5 _
        refine he _ hm _ hm1 σ3 G5 H5 r3 s5.in_ _ fun z G6 H6 s6 r6 => ?_
        have o6 := o5.step s6
        have tk1 : ((xs.take i).flatMap fun x => (ys x).map (f x)) ++ ((ys t).take (j + 1)).map (f t) = ((xs.take i).flatMap fun x => (ys x).map (f x)) ++ ((ys t).take j).map (f t) ++ [f t (ys t)[j]] := by
          rw [List.take_add_one, hx1, List.map_append, List.append_assoc]
          rfl
        have hb : (((xs.take i).flatMap fun x => (ys x).map (f x)) ++ ((ys t).take j).map (f t)).length + 1 ≤ 100000 := by
          have h1 := sub (i + 1)
          rw [tk, List.length_append, List.length_map] at h1
          rw [List.length_append, List.length_map, List.length_take]
          omega
        refine ⟨acc4, o6.at_, ?_, G6, acc4 ++ [z], ?_, Evl.Ex.trans e4 (Evl.Ex.trans s5.eg s6.eg)⟩
        · rw [o6.rq.rp.length]
          exact Evl.sz_lt (by omega)
        · rw [tk1]
          exact o6.write (o6.rq.append (.cons r6 .nil))
      · have ej : j = (ys t).length := by omega
        subst ej
        refine .inl ⟨W1.stop _ H4 (Evl.Ex.trans e4 o4.st.in_) (by rw [List.length_map]), G4, acc4, ?_⟩
        rw [tk]
        rw [List.take_length] at o4
        exact o4
    · have ei : i = xs.length := by omega
      subst ei
      rw [List.take_length] at o
      refine .inl ⟨W.stop _ H' (Evl.Ex.trans o.st.eg o.st.in_) (by rw [List.length_map]), ?_⟩
      obtain ⟨G2, h1, h2, h3⟩ := o.freeze hl
      exact q _ G2 H' (s1.trans h1) h3
end
/-! ## blocks of a def that hands back data; mu: the slot and the items of a list of its own -/
abbrev Mu := Option (Nat × List D)
def MuOk (G0 H0 G H : Hp) (σ : L2.St) : Mu → Prop
  | none => Stp G0 H0 G H
  | some (m, ds) => ∃ l vs, σ[m]? = some (some (.ref l)) ∧ Ow G0 H0 G H l vs ds
structure Mst (G0 H0 : Hp) (mu : Mu) (G H : Hp) (σ : L2.St) (env : En) : Prop where
  rs : Rs G σ env
  mu : MuOk G0 H0 G H σ mu
theorem MuOk.st {G0 H0 G H : Hp} {σ : L2.St} : ∀ {mu : Mu}, MuOk G0 H0 G H σ mu → Stp G0 H0 G H
  | none, h => h
  | some (_, _), ⟨_, _, _, o⟩ => o.st
theorem MuOk.step {G0 H0 G H G' H' : Hp} {σ : L2.St} (s : Stp G H G' H') : ∀ {mu : Mu}, MuOk G0 H0 G H σ mu → MuOk G0 H0 G' H' σ mu
  | none, h => Stp.trans h s
  | some (_, _), ⟨l, vs, h, o⟩ => ⟨l, vs, h, o.step s⟩
/-- the slots js aren't the own list's -/
def Off (js : List Nat) : Mu → Prop
  | none => True
  | some (m, _) => m ∉ js
theorem MuOk.at_ {G0 H0 G H : Hp} {σ σ2 : L2.St} {js : List Nat} (h : ∀ i : Nat, i ∉ js → σ2[i]? = σ[i]?) : ∀ {mu : Mu}, Off js mu → MuOk G0 H0 G H σ mu → MuOk G0 H0 G H σ2 mu
  | none, _, q => q
  | some (m, _), hm, ⟨l, vs, k, o⟩ => ⟨l, vs, (h m hm).trans k, o⟩
def BlE (t : TS) (env : En) (mu : Mu) (d : D) : Prop := ∀ σ G H G0 H0 (Dn : Ends), Mst G0 H0 mu G H σ env → (∀ v G2 H2, Stp G0 H0 G2 H2 → Rq G2 v d → Dn.rt v H2) → t Dn σ H
def SmE (t : TS) (env : En) (mu : Mu) (env2 : En) (mu2 : Mu) : Prop := ∀ σ G H G0 H0 (Dn : Ends), Mst G0 H0 mu G H σ env → (∀ σ2 G2 H2, Mst G0 H0 mu2 G2 H2 σ2 env2 → Ex G G2 → Dn.nx σ2 H2) → t Dn σ H
/-- the first knows less -/
inductive Lw : En → En → Prop
  | nil : Lw [] []
  | s {o : Option D} {a b : En} : Lw a b → Lw (o :: a) (o :: b)
  | n {o : Option D} {a b : En} : Lw a b → Lw (none :: a) (o :: b)
theorem Lw.len : ∀ {a b : En}, Lw a b → a.length = b.length
  | _, _, .nil => rfl
  | _, _, .s t => congrArg Nat.succ t.len
  | _, _, .n t => congrArg Nat.succ t.len
theorem Lw.at_ : ∀ {a b : En} {i : Nat} {d : D}, Lw a b → a[i]? = some (some d) → b[i]? = some (some d)
  | _, _, _, _, .nil, h => by simp at h
  | _, _, 0, _, .s _, h => by simpa using h
  | _, _, i + 1, _, .s t, h => by simpa using t.at_ (i := i) (by simpa using h)
  | _, _, 0, _, .n _, h => by simp at h
  | _, _, i + 1, _, .n t, h => by simpa using t.at_ (i := i) (by simpa using h)
theorem Lw.refl : ∀ {a : En}, Lw a a
  | [] => .nil
  | _ :: _ => .s Lw.refl
theorem Mst.weak {G0 H0 G H : Hp} {mu : Mu} {σ : L2.St} {env env2 : En} (h : Mst G0 H0 mu G H σ env) (w : Lw env2 env) : Mst G0 H0 mu G H σ env2 := ⟨h.rs.weak w.len fun _ _ q => w.at_ q, h.mu⟩
section
variable {K : PySem.W.Frag} {env env2 env3 : En} {mu mu2 mu3 : Mu} {d x : D} {ds : List D} {t u : TS} {te : TE} {tt : TT}
theorem bl_seq (h : SmE t env mu env2 mu2) (k : BlE u env2 mu2 d) : BlE (tSeq t u) env mu d := fun σ G H G0 H0 Dn m q => h σ G H G0 H0 _ m fun σ2 G2 H2 m2 _ => k σ2 G2 H2 G0 H0 Dn m2 q
theorem sm_seq (h : SmE t env mu env2 mu2) (k : SmE u env2 mu2 env3 mu3) : SmE (tSeq t u) env mu env3 mu3 := fun σ G H G0 H0 Dn m q => h σ G H G0 H0 _ m fun σ2 G2 H2 m2 e2 => k σ2 G2 H2 G0 H0 Dn m2 fun σ3 G3 H3 m3 e3 => q σ3 G3 H3 m3 (Evl.Ex.trans e2 e3)
theorem bl_ret (h : EvE te env d) : BlE (tRet te) env mu d := fun σ G H G0 H0 Dn m q => h σ G H m.rs m.mu.st.in_ _ fun v G2 H2 s r => q v G2 H2 (m.mu.st.trans s) r
theorem sm_set {i : Nat} (h : EvE te env x) (ho : Off [i] mu) : SmE (tAsg te (gName i)) env mu (env.set i (some x)) mu := fun σ G H G0 H0 Dn m q => h σ G H m.rs m.mu.st.in_ _ fun v G2 H2 s r =>
  q _ G2 H2 ⟨(m.rs.mono s.eg).set r, (m.mu.step s).at_ (js := [i]) (fun j hj => List.getElem?_set_ne fun z => hj (List.mem_singleton.mpr z.symm)) ho⟩ s.eg
theorem sm_asg {g : TG} {js : List Nat} (h : EvE te env x) (k : GtE g x js env env2) (ho : Off js mu) : SmE (tAsg te g) env mu env2 mu := fun σ G H G0 H0 Dn m q => h σ G H m.rs m.mu.st.in_ _ fun v G2 H2 s r =>
  k v σ G2 H2 (m.rs.mono s.eg) s.in_ r _ fun σ2 r2 _ n2 => q σ2 G2 H2 ⟨r2, (m.mu.step s).at_ n2 ho⟩ s.eg
theorem sm_drop (h : EvE te env x) : SmE (tDrop te) env mu env mu := fun σ G H G0 H0 Dn m q => h σ G H m.rs m.mu.st.in_ _ fun v G2 H2 s r => q σ G2 H2 ⟨m.rs.mono s.eg, m.mu.step s⟩ s.eg
theorem sm_next : SmE tNext env mu env mu := fun σ G H G0 H0 Dn m q => q σ G H m (Evl.Ex.refl G)
theorem sm_if {b : Bool} (h : EvT tt env b) (h1 : b = true → SmE t env mu env2 mu2) (h2 : b = false → SmE u env mu env2 mu2) : SmE (tIfS tt t u) env mu env2 mu2 := fun σ G H G0 H0 Dn m q => h σ G H m.rs m.mu.st.in_ _ fun G1 H1 s => by
  have m1 : Mst G0 H0 mu G1 H1 σ env := ⟨m.rs.mono s.eg, m.mu.step s⟩
  cases b with
  | true => exact h1 rfl σ G1 H1 G0 H0 Dn m1 fun σ2 G2 H2 m2 e2 => q σ2 G2 H2 m2 (Evl.Ex.trans s.eg e2)
  | false => exact h2 rfl σ G1 H1 G0 H0 Dn m1 fun σ2 G2 H2 m2 e2 => q σ2 G2 H2 m2 (Evl.Ex.trans s.eg e2)
theorem bl_if {b : Bool} {w : TS} (h : EvT tt env b) (h1 : b = true → BlE t env mu d) (h2 : b = false → BlE u env mu d) : BlE (tSeq (tIfS tt t tNext) u) env mu d := fun σ G H G0 H0 Dn m q => h σ G H m.rs m.mu.st.in_ _ fun G1 H1 s => by
  have m1 : Mst G0 H0 mu G1 H1 σ env := ⟨m.rs.mono s.eg, m.mu.step s⟩
  cases b with
  | true => exact h1 rfl σ G1 H1 G0 H0 _ m1 q
  | false => exact h2 rfl σ G1 H1 G0 H0 Dn m1 q
theorem sm_weak (h : SmE t env mu env2 mu2) (w : Lw env3 env2) : SmE t env mu env3 mu2 := fun σ G H G0 H0 Dn m q => h σ G H G0 H0 Dn m fun σ2 G2 H2 m2 e2 => q σ2 G2 H2 (m2.weak w) e2
theorem bl_weak (h : BlE t env2 mu d) (w : Lw env2 env) : BlE t env mu d := fun σ G H G0 H0 Dn m q => h σ G H G0 H0 Dn (m.weak w) q
theorem bl_is (h : BlE t env mu x) (e : x = d) : BlE t env mu d := e ▸ h
/-- x = [] : a list of one's own -/
theorem sm_own {m : Nat} (hm : m < env.length) : SmE (tAsg (tLst tNil) (gName m)) env none (env.set m none) (some (m, [])) := fun σ G H G0 H0 Dn mm q => by
  refine ⟨Nat.zero_le _, fun p hp => ?_⟩
  refine q _ G _ ⟨mm.rs.forget, p, [], ?_, Ow.start mm.mu hp⟩ (Evl.Ex.refl G)
  rw [List.getElem?_set_self (by rw [mm.rs.len]; exact hm)]
/-- the own list as data -/
theorem Mst.freeze {m : Nat} {G0 H0 G H : Hp} {σ : L2.St} (mm : Mst G0 H0 (some (m, ds)) G H σ env) (hl : ds.length ≤ 100000) : ∃ G2, Mst G0 H0 none G2 H σ (env.set m (some (.list ds))) ∧ Ex G G2 := by
  obtain ⟨l, vs, h1, o⟩ := mm.mu
  obtain ⟨G2, s, e, r⟩ := o.freeze hl
  refine ⟨G2, ⟨?_, s⟩, e⟩
  have h2 := (mm.rs.mono e).set (j := m) r
  have h3 : σ.set m (some (.ref l)) = σ := by
    obtain ⟨hm, e1⟩ := List.getElem?_eq_some_iff.mp h1
    rw [← e1, List.set_getElem_self]
  rw [h3] at h2
  exact h2
theorem bl_freeze {m : Nat} (k : BlE t (env.set m (some (.list ds))) none d) (hl : ds.length ≤ 100000) : BlE t env (some (m, ds)) d := fun σ G H G0 H0 Dn mm q => by
  obtain ⟨G2, m2, _⟩ := mm.freeze hl
  exact k σ G2 H G0 H0 Dn m2 q
theorem sm_freeze {m : Nat} (k : SmE t (env.set m (some (.list ds))) none env2 mu2) (hl : ds.length ≤ 100000) : SmE t env (some (m, ds)) env2 mu2 := fun σ G H G0 H0 Dn mm q => by
  obtain ⟨G2, m2, e2⟩ := mm.freeze hl
  exact k σ G2 H G0 H0 Dn m2 fun σ3 G3 H3 m3 e3 => q σ3 G3 H3 m3 (Evl.Ex.trans e2 e3)
theorem sm_app {m : Nat} (h : EvE te env x) (hl : ds.length < 100000) : SmE (tDrop (tBM K "list" rAppend (tVar m) (tCons te tNil))) env (some (m, ds)) env (some (m, ds ++ [x])) := fun σ G H G0 H0 Dn mm q => by
  obtain ⟨l, vs, h1, o⟩ := mm.mu
  refine ⟨.ref l, h1, .inl ⟨rfl, vs, .inl (.inl o.at_)⟩, h σ G H mm.rs o.st.in_ _ fun v G1 H1 s r => ?_⟩
  have o1 := o.step s
  refine ⟨l, vs, v, rfl, rfl, o1.at_, ?_, q σ G1 _ ⟨mm.rs.mono s.eg, l, vs ++ [v], h1, o1.write (o1.rq.append (.cons r .nil))⟩ s.eg⟩
  rw [o1.rq.rp.length]
  exact Evl.sz_lt hl
theorem sm_ext {m : Nat} {es : List D} (h : EvE te env (.list es)) (hl : ds.length + es.length ≤ 100000) : SmE (tDrop (tBM K "list" rExtend (tVar m) (tCons te tNil))) env (some (m, ds)) env (some (m, ds ++ es)) := fun σ G H G0 H0 Dn mm q => by
  obtain ⟨l, vs, h1, o⟩ := mm.mu
  refine ⟨.ref l, h1, .inl ⟨rfl, vs, .inl (.inl o.at_)⟩, h σ G H mm.rs o.st.in_ _ fun v G1 H1 s r => ?_⟩
  have o1 := o.step s
  obtain ⟨b, zs, rfl, hb, hz, _⟩ := r.list
  refine ⟨l, b, vs, zs, rfl, rfl, o1.at_, s.in_ _ _ hb, ?_, q σ G1 _ ⟨mm.rs.mono s.eg, l, vs ++ zs, h1, o1.write (o1.rq.append hz)⟩ s.eg⟩
  rw [o1.rq.rp.length, hz.rp.length]
  exact Evl.sz_of hl
/-- for target in source: a body that goes on -/
theorem sm_for {α : Type} {xs : List α} {enc : α → D} {wi : TI} {g : TG} {tb : TS} {js : List Nat} {envW : En} (F : Nat → Mu) {env4 : Nat → α → En} {env5 : Nat → α → En} (hs : SrcE wi env (xs.map enc)) (hw : Lw envW env)
    (hb : ∀ (i : Nat) (x : α), xs[i]? = some x → GtE g (enc x) js envW (env4 i x) ∧ Off js (F i) ∧ SmE tb (env4 i x) (F i) (env5 i x) (F (i + 1)) ∧ Lw envW (env5 i x)) : SmE (tFor wi g tb) env (F 0) envW (F xs.length) := fun σ G H G0 H0 Dn mm q =>
  hs σ G H mm.rs mm.mu.st.in_ _ fun J G1 H1 s1 W => by
    have m1 : Mst G0 H0 (F 0) G1 H1 σ envW := Mst.weak ⟨mm.rs.mono s1.eg, mm.mu.step s1⟩ hw
    refine ⟨fun i k σ' H' => k = xs.length - i ∧ i ≤ xs.length ∧ ∃ G', Mst G0 H0 (F i) G' H' σ' envW ∧ Ex G1 G', ⟨xs.length, by simp, Nat.zero_le _, G1, m1, Evl.Ex.refl _⟩, ?_⟩
    rintro i k σ' H' ⟨rfl, hi, G', m', e'⟩
    by_cases hlt : i < xs.length
    · refine .inr ⟨W.go i H' (Evl.Ex.trans e' m'.mu.st.in_) (by rw [List.length_map]; exact hlt), fun σ2 H2 => ∃ G', Mst G0 H0 (F (i + 1)) G' H2 σ2 envW ∧ Ex G1 G', fun σ2 H2 o2 => ⟨xs.length - (i + 1), by omega, rfl, hlt, o2⟩, fun v H2 y => ?_⟩
      have hx : xs[i]? = some xs[i] := List.getElem?_eq_getElem hlt
      have hd : (xs.map enc)[i]? = some (enc xs[i]) := by rw [List.getElem?_map, hx] <;> rfl
      obtain ⟨G2, s2, rx⟩ := W.yld i _ G' H' v H2 e' m'.mu.st.in_ hd y
      obtain ⟨b1, b2, b3, b4⟩ := hb i _ hx
      refine b1 v σ' G2 H2 (m'.rs.mono s2.eg) s2.in_ rx _ fun σ3 r3 _ n3 => ?_
      have m3 : Mst G0 H0 (F i) G2 H2 σ3 (env4 i xs[i]) := ⟨r3, (m'.mu.step s2).at_ n3 b2⟩
      exact b3 σ3 G2 H2 G0 H0 _ m3 fun σ5 G5 H5 m5 e5 => ⟨G5, m5.weak b4, Evl.Ex.trans e' (Evl.Ex.trans s2.eg e5)⟩
    · have ei : i = xs.length := by omega
      subst ei
      exact .inl ⟨W.stop _ H' (Evl.Ex.trans e' m'.mu.st.in_) (by rw [List.length_map]), q σ' G' H' m' (Evl.Ex.trans s1.eg e')⟩
end
end K16
/-! ## part Ru -/
set_option Elab.async false
set_option linter.all false
set_option maxRecDepth 100000
set_option maxHeartbeats 1000000
namespace K16
open PySem PySem.Spec PyProof.Rows L2
open Evl (Ex)
open StX (tStar)
/-! ## rules for operators and built-ins, by data -/
theorem Rq.reads {X : Cx} {pins : List (Addr × Obj)} {σ : L2.St} {H G : Hp} {s : Shared} {v : V} {u : Value} {d : D} (I : Inv X pins σ H s) (e : Ex G H) (r : Rq G v d) (ru : RelV v u) : ∃ as, Reads s.heap u d as :=
  Dp.reads I d v u ((r.mono e).rp.dp) ru
theorem OpR.imp {X : Cx} {f : Value → Value → Sem Value} {r r' : R2} (h : OpR X f r) (k : ∀ x y H Q, r' x y H Q → r x y H Q) : OpR X f r' :=
  fun pins s σ H x y v u Q I rx ry q => h pins s σ H x y v u Q I rx ry (k _ _ _ _ q)
theorem CallR.imp {X : Cx} {f : Value} {r r' : List V → Hp → VK → Prop} (h : CallR X f r) (k : ∀ xs H Q, r' xs H Q → r xs H Q) : CallR X f r' :=
  fun pins s σ H xs us Q I r q => h pins s σ H xs us Q I r (k _ _ _ q)
theorem IxR.imp {X : Cx} {r r' : R2} (h : IxR X r) (k : ∀ x y H Q, r' x y H Q → r x y H Q) : IxR X r' :=
  fun a b pins s σ H x y v u Q I rx ry q hs => h a b pins s σ H x y v u Q I rx ry (k _ _ _ _ q) hs
abbrev shp (d : D) : Prop := SeqAt.shaped d = true
def REq (a b d : D) : Prop := shp a ∧ shp b ∧ d = .bool (PyData.eqv a b)
def RNe (a b d : D) : Prop := shp a ∧ shp b ∧ d = .bool (!PyData.eqv a b)
def RIn (a b d : D) : Prop := ∃ ds, (b = .list ds ∨ b = .tuple ds) ∧ shp a ∧ shp b ∧ d = .bool (ds.any fun z => PyData.eqv z a)
def RNotIn (a b d : D) : Prop := ∃ ds, (b = .list ds ∨ b = .tuple ds) ∧ shp a ∧ shp b ∧ d = .bool (!ds.any fun z => PyData.eqv z a)
def RLt (a b d : D) : Prop := PySem.W.alike a b = true ∧ a ≠ .none ∧ shp a ∧ d = .bool (PySem.W.dataLt a b)
def RLe (a b d : D) : Prop := PySem.W.alike a b = true ∧ a ≠ .none ∧ shp a ∧ d = .bool (!PySem.W.dataLt b a)
def RIsN (a b d : D) : Prop := b = .none ∧ d = .bool (match a with | .none => true | _ => false)
def RInStr (a b d : D) : Prop := ∃ i j, a = .str i ∧ b = .str j ∧ d = .bool (!(Builtin.Str.occurrences j i 0 j.length 1).isEmpty)
def RAdd (a b d : D) : Prop := (∃ i j : Int, a = .int i ∧ b = .int j ∧ (i + j).natAbs ≤ 1000000000 ∧ d = .int (i + j)) ∨ (∃ xs ys, a = .tuple xs ∧ b = .tuple ys ∧ xs.length + ys.length ≤ 100000 ∧ d = .tuple (xs ++ ys)) ∨
  (∃ xs ys, a = .list xs ∧ b = .list ys ∧ xs.length + ys.length ≤ 100000 ∧ d = .list (xs ++ ys))
def RSub (a b d : D) : Prop := ∃ i j : Int, a = .int i ∧ b = .int j ∧ (i - j).natAbs ≤ 1000000000 ∧ d = .int (i - j)
def RIx (a b d : D) : Prop := ∃ (xs : List D) (k : Nat), (a = .list xs ∨ a = .tuple xs) ∧ b = .int (k : Int) ∧ xs[k]? = some d
section
variable {X : Cx}
theorem op_eq' (hu : X.A.units + 64 < cLine) : OpR X (compareOp .Eq) (rD2 REq) := OpR.imp (op_eqD hu) fun x y H Q ⟨G, a, b, d, ⟨sa, sb, hd⟩, e, ra, rb, q⟩ => by
  subst hd
  exact ⟨a, b, (ra.mono e).rp.dp, (rb.mono e).rp.dp, sa, sb, q _ G H (Stp.refl e) (.of_bool _)⟩
theorem op_ne' (hu : X.A.units + 64 < cLine) : OpR X (compareOp .NotEq) (rD2 RNe) := OpR.imp (op_neD hu) fun x y H Q ⟨G, a, b, d, ⟨sa, sb, hd⟩, e, ra, rb, q⟩ => by
  subst hd
  exact ⟨a, b, (ra.mono e).rp.dp, (rb.mono e).rp.dp, sa, sb, q _ G H (Stp.refl e) (.of_bool _)⟩
theorem op_in' (hu : X.A.units + 65 < cLine) : OpR X (compareOp .In) (rD2 RIn) := by
  intro pins s σ H x y v u Q I rx ry ⟨G, a, b, d, ⟨ds, hb, sa, sb, hd⟩, e, ra, rb, q⟩
  subst hd
  obtain ⟨as, r1⟩ := ra.reads I e rx
  obtain ⟨bs, r2⟩ := rb.reads I e ry
  have fin : EP X pins σ Q (.bool (ds.any fun z => PyData.eqv z a)) s := ⟨.bl _, H, I, rfl, q _ G H (Stp.refl e) (.of_bool _)⟩
  have c2 := SeqAt.canLay_of_shaped sa
  rcases hb with hb | hb
  · subst hb
    exact SeqAt.in_list_reads r2 r1 (by have := SeqAt.canLay_of_shaped sb; simpa [PyData.canLay0] using this) c2 (room_in_shaped sa hu) fin
  · subst hb
    exact SeqAt.in_tuple_reads r2 r1 (by have := SeqAt.canLay_of_shaped sb; simpa [PyData.canLay0] using this) c2 (room_in_shaped sa hu) fin
theorem op_notIn' (hu : X.A.units + 65 < cLine) : OpR X (compareOp .NotIn) (rD2 RNotIn) := by
  intro pins s σ H x y v u Q I rx ry ⟨G, a, b, d, ⟨ds, hb, sa, sb, hd⟩, e, ra, rb, q⟩
  subst hd
  obtain ⟨as, r1⟩ := ra.reads I e rx
  obtain ⟨bs, r2⟩ := rb.reads I e ry
  have fin : EP X pins σ Q (.bool (!ds.any fun z => PyData.eqv z a)) s := ⟨.bl _, H, I, rfl, q _ G H (Stp.refl e) (.of_bool _)⟩
  have c2 := SeqAt.canLay_of_shaped sa
  rcases hb with hb | hb
  · subst hb
    exact SeqAt.notIn_list_reads r2 r1 (by have := SeqAt.canLay_of_shaped sb; simpa [PyData.canLay0] using this) c2 (room_in_shaped sa hu) fin
  · subst hb
    exact SeqAt.notIn_tuple_reads r2 r1 (by have := SeqAt.canLay_of_shaped sb; simpa [PyData.canLay0] using this) c2 (room_in_shaped sa hu) fin
theorem op_lt' (hu : X.A.units + 64 < cLine) : OpR X (compareOp .Lt) (rD2 RLt) := by
  intro pins s σ H x y v u Q I rx ry ⟨G, a, b, d, ⟨al, hn, sa, hd⟩, e, ra, rb, q⟩
  subst hd
  obtain ⟨as, r1⟩ := ra.reads I e rx
  obtain ⟨bs, r2⟩ := rb.reads I e ry
  exact PySem.W.lt_data r1 r2 al hn (SeqAt.room_of_shaped sa hu) ⟨.bl _, H, I, rfl, q _ G H (Stp.refl e) (.of_bool _)⟩
theorem op_le' (hu : X.A.units + 64 < cLine) : OpR X (compareOp .LtE) (rD2 RLe) := by
  intro pins s σ H x y v u Q I rx ry ⟨G, a, b, d, ⟨al, hn, sa, hd⟩, e, ra, rb, q⟩
  subst hd
  obtain ⟨as, r1⟩ := ra.reads I e rx
  obtain ⟨bs, r2⟩ := rb.reads I e ry
  exact PySem.W.le_data r1 r2 al hn (SeqAt.room_of_shaped sa hu) ⟨.bl _, H, I, rfl, q _ G H (Stp.refl e) (.of_bool _)⟩
theorem op_isN' : OpR X (compareOp .Is) (rD2 RIsN) := OpR.imp op_isN fun x y H Q ⟨G, a, b, d, ⟨hb, hd⟩, e, ra, rb, q⟩ => by
  subst hb hd
  refine ⟨rb.none, q _ G H (Stp.refl e) ?_⟩
  have h := ra.notNone
  cases a <;> first
    | (rw [decide_eq_true (h.mpr rfl)]; exact .of_bool true)
    | (rw [decide_eq_false fun z => by have := h.mp z; cases this]; exact .of_bool false)
theorem op_inStr' : OpR X (compareOp .In) (rD2 RInStr) := OpR.imp op_in_str fun x y H Q ⟨G, a, b, d, ⟨i, j, ha, hb, hd⟩, e, ra, rb, q⟩ => by
  subst ha hb hd
  exact ⟨i, j, ra.str, rb.str, q _ G H (Stp.refl e) (.of_bool _)⟩
theorem op_add' : OpR X (binaryOp .Add) (rD2 RAdd) := OpR.imp ((op_add.or (op_catA.or op_cat))) fun x y H Q ⟨G, a, b, d, hr, e, ra, rb, q⟩ => by
  rcases hr with ⟨i, j, ha, hb, hl, hd⟩ | ⟨xs, ys, ha, hb, hl, hd⟩ | ⟨xs, ys, ha, hb, hl, hd⟩
  · subst ha hb hd
    exact .inl ⟨i, j, ra.int, rb.int, q _ G H (Stp.refl e) (.of_int hl)⟩
  · subst ha hb hd
    obtain ⟨p, vs, rfl, h1, h2, _⟩ := ra.tuple
    obtain ⟨p2, ws, rfl, k1, k2, _⟩ := rb.tuple
    have n1 := h2.rp.length
    have n2 := k2.rp.length
    refine .inr (.inl ⟨p, p2, vs, ws, rfl, rfl, .inl (.inl (e _ _ h1)), .inl (.inl (e _ _ k1)), Evl.sz_of (by omega), fun z => ?_, fun z => ?_, fun _ _ l hl' => ?_⟩)
    · subst z
      have : xs = [] := List.length_eq_zero_iff.mp (by rw [← n1]; rfl)
      subst this
      exact q _ G H (Stp.refl e) rb
    · intro z2
      subst z2
      have : ys = [] := List.length_eq_zero_iff.mp (by rw [← n2]; rfl)
      subst this
      rw [List.append_nil] at q
      exact q _ G H (Stp.refl e) ra
    · have s := Stp.new (o := .tup (vs ++ ws)) e hl'
      exact q _ _ _ s (.of_tup upd_same ((h2.append k2).mono s.eg) (by rw [List.length_append]; exact hl))
  · subst ha hb hd
    obtain ⟨p, vs, rfl, h1, h2, _⟩ := ra.list
    obtain ⟨p2, ws, rfl, k1, k2, _⟩ := rb.list
    have n1 := h2.rp.length
    have n2 := k2.rp.length
    refine .inr (.inr ⟨p, p2, vs, ws, rfl, rfl, e _ _ h1, e _ _ k1, Evl.sz_of (by omega), fun l hl' => ?_⟩)
    have s := Stp.new (o := .lst (vs ++ ws)) e hl'
    exact q _ _ _ s (.of_lst upd_same ((h2.append k2).mono s.eg) (by rw [List.length_append]; exact hl))
theorem op_sub' : OpR X (binaryOp .Sub) (rD2 RSub) := OpR.imp op_sub fun x y H Q ⟨G, a, b, d, ⟨i, j, ha, hb, hl, hd⟩, e, ra, rb, q⟩ => by
  subst ha hb hd
  exact ⟨i, j, ra.int, rb.int, q _ G H (Stp.refl e) (.of_int hl)⟩
theorem ix' : IxR X (rD2 RIx) := IxR.imp (ix_list.or ix_tup) fun x y H Q ⟨G, a, b, d, ⟨xs, k, ha, hb, hd⟩, e, ra, rb, q⟩ => by
  subst hb
  rcases ha with ha | ha
  · subst ha
    obtain ⟨p, vs, rfl, h1, h2, _⟩ := ra.list
    obtain ⟨v, hv, rv⟩ := h2.at_ hd
    exact .inl ⟨p, vs, k, v, rfl, rb.int, .inl (.inl (e _ _ h1)), atI_nat hv, q v G H (Stp.refl e) rv⟩
  · subst ha
    obtain ⟨p, vs, rfl, h1, h2, _⟩ := ra.tuple
    obtain ⟨v, hv, rv⟩ := h2.at_ hd
    exact .inr ⟨p, vs, k, v, rfl, rb.int, .inl (.inl (e _ _ h1)), atI_nat hv, q v G H (Stp.refl e) rv⟩
end
/-! ### built-ins -/
def RLen (ds : List D) (d : D) : Prop := (∃ xs, (ds = [.list xs] ∨ ds = [.tuple xs]) ∧ d = .int (xs.length : Int)) ∨ ∃ s, ds = [.str s] ∧ d = .int (s.length : Int)
def RAll (ds : List D) (d : D) : Prop := ∃ bs : List Bool, ds = [.list (bs.map .bool)] ∧ d = .bool (bs.all id)
def RAny (ds : List D) (d : D) : Prop := ∃ bs : List Bool, ds = [.list (bs.map .bool)] ∧ d = .bool (bs.any id)
def RTup (ds : List D) (d : D) : Prop := ∃ xs, (ds = [.list xs] ∨ ds = [.tuple xs]) ∧ d = .tuple xs
def RLst (ds : List D) (d : D) : Prop := ∃ xs, (ds = [.list xs] ∨ ds = [.tuple xs]) ∧ d = .list xs
def RMin (ds : List D) (d : D) : Prop := ∃ (ns : List Int) (m : Int), ds = [.list (ns.map .int)] ∧ m ∈ ns ∧ (∀ y ∈ ns, m ≤ y) ∧ m.natAbs ≤ 1000000000 ∧ d = .int m
def RMin2 (ds : List D) (d : D) : Prop := ∃ i j : Int, ds = [.int i, .int j] ∧ d = .int (if j < i then j else i)
/-- sorted of texts; the answer is told by what it is: a row of the same texts that rises -/
def RSrt (ds : List D) (d : D) : Prop := ∃ xs ys : List Str, ds = [.list (xs.map .str)] ∧ xs.length < 64 ∧ (∀ zs : List Str, zs.Perm xs → sortedS zs = true → zs = ys) ∧ d = .list (ys.map .str)
theorem small_int {n : Nat} (h : n ≤ 100000) : ((n : Nat) : Int).natAbs ≤ 1000000000 := by omega
section
variable {X : Cx}
theorem call_len' : CallR X (.builtin "len") (rD RLen) := CallR.imp (call_len_seq.or call_len_str) fun vs H Q ⟨G, ds, d, hr, e, ra, q⟩ => by
  rcases hr with ⟨xs, hd, rfl⟩ | ⟨s, rfl, rfl⟩
  · rcases hd with rfl | rfl
    · obtain ⟨v, rfl, rv⟩ := ra.one
      obtain ⟨p, ws, rfl, h1, h2, h3⟩ := rv.list
      refine .inl ⟨p, ws, rfl, .inl (.inl (.inl (e _ _ h1))), ?_⟩
      rw [h2.rp.length]
      exact q _ G H (Stp.refl e) (.of_int (small_int h3))
    · obtain ⟨v, rfl, rv⟩ := ra.one
      obtain ⟨p, ws, rfl, h1, h2, h3⟩ := rv.tuple
      refine .inl ⟨p, ws, rfl, .inr (.inl (.inl (e _ _ h1))), ?_⟩
      rw [h2.rp.length]
      exact q _ G H (Stp.refl e) (.of_int (small_int h3))
  · obtain ⟨v, rfl, rv⟩ := ra.one
    have hl : s.length ≤ 100000 := by have := rv.sm; simpa [sm] using this
    refine .inr ⟨s, by rw [rv.str], Evl.sz_of hl, q _ G H (Stp.refl e) (.of_int (small_int hl))⟩
theorem call_all' (hc : X.calm = true) : CallR X (.builtin "all") (rD RAll) := CallR.imp (cr_all hc) fun vs H Q ⟨G, ds, d, ⟨bs, hd, hd2⟩, e, ra, q⟩ => by
  subst hd hd2
  obtain ⟨v, rfl, rv⟩ := ra.one
  obtain ⟨p, ws, rfl, h1, h2, h3⟩ := rv.list
  have ew := h2.rp.bools
  subst ew
  exact ⟨p, bs, rfl, .inl (.inl (e _ _ h1)), q _ G H (Stp.refl e) (.of_bool _)⟩
theorem call_any' (hc : X.calm = true) : CallR X (.builtin "any") (rD RAny) := CallR.imp (cr_any hc) fun vs H Q ⟨G, ds, d, ⟨bs, hd, hd2⟩, e, ra, q⟩ => by
  subst hd hd2
  obtain ⟨v, rfl, rv⟩ := ra.one
  obtain ⟨p, ws, rfl, h1, h2, h3⟩ := rv.list
  have ew := h2.rp.bools
  subst ew
  exact ⟨p, bs, rfl, .inl (.inl (e _ _ h1)), q _ G H (Stp.refl e) (.of_bool _)⟩
theorem call_tuple' : CallR X (.type "tuple") (rD RTup) := CallR.imp call_tuple_of fun vs H Q ⟨G, ds, d, ⟨xs, hd, hd2⟩, e, ra, q⟩ => by
  subst hd2
  rcases hd with rfl | rfl
  · obtain ⟨v, rfl, rv⟩ := ra.one
    obtain ⟨p, ws, rfl, h1, h2, h3⟩ := rv.list
    refine ⟨p, ws, rfl, .inl ⟨.inl (.inl (e _ _ h1)), fun l hl => ?_⟩⟩
    have s := Stp.new (o := .tup ws) e hl
    exact q _ _ _ s (.of_tup upd_same (h2.mono s.eg) h3)
  · obtain ⟨v, rfl, rv⟩ := ra.one
    obtain ⟨p, ws, rfl, h1, h2, h3⟩ := rv.tuple
    exact ⟨p, ws, rfl, .inr ⟨.inl (.inl (e _ _ h1)), q _ G H (Stp.refl e) rv⟩⟩
theorem call_list' : CallR X (.type "list") (rD RLst) := CallR.imp call_list_of fun vs H Q ⟨G, ds, d, ⟨xs, hd, hd2⟩, e, ra, q⟩ => by
  subst hd2
  rcases hd with rfl | rfl
  · obtain ⟨v, rfl, rv⟩ := ra.one
    obtain ⟨p, ws, rfl, h1, h2, h3⟩ := rv.list
    refine ⟨p, ws, rfl, .inl (.inl (.inl (e _ _ h1))), fun l hl => ?_⟩
    have s := Stp.new (o := .lst ws) e hl
    exact q _ _ _ s (.of_lst upd_same (h2.mono s.eg) h3)
  · obtain ⟨v, rfl, rv⟩ := ra.one
    obtain ⟨p, ws, rfl, h1, h2, h3⟩ := rv.tuple
    refine ⟨p, ws, rfl, .inr (.inl (.inl (e _ _ h1))), fun l hl => ?_⟩
    have s := Stp.new (o := .lst ws) e hl
    exact q _ _ _ s (.of_lst upd_same (h2.mono s.eg) h3)
theorem call_min' (hc : X.calm = true) : CallR X (.builtin "min") (rD RMin) := CallR.imp (cr_min hc) fun vs H Q ⟨G, ds, d, ⟨ns, m, hd, hm, hle, hs, hd2⟩, e, ra, q⟩ => by
  subst hd hd2
  obtain ⟨v, rfl, rv⟩ := ra.one
  obtain ⟨p, ws, rfl, h1, h2, h3⟩ := rv.list
  have ew := h2.rp.ints
  subst ew
  refine ⟨p, ns, rfl, .inl (.inl (e _ _ h1)), List.length_pos_of_mem hm, fun k hk kle => ?_⟩
  have ek : k = m := Int.le_antisymm (kle m hm) (hle k hk)
  subst ek
  exact q _ G H (Stp.refl e) (.of_int hs)
theorem call_min2' (hc : X.calm = true) : CallR X (.builtin "min") (rD RMin2) := CallR.imp (call_min2 hc) fun vs H Q ⟨G, ds, d, ⟨i, j, hd, hd2⟩, e, ra, q⟩ => by
  subst hd hd2
  obtain ⟨v, w, rfl, rv, rw_⟩ := ra.two
  refine ⟨i, j, by rw [rv.int, rw_.int], q _ G H (Stp.refl e) (.of_int ?_)⟩
  have h1 := rv.sm
  have h2 := rw_.sm
  simp only [sm, decide_eq_true_eq] at h1 h2
  split <;> assumption
theorem call_sorted' : CallR X (.builtin "sorted") (rD RSrt) := CallR.imp cr_sortedS fun vs H Q ⟨G, ds, d, ⟨xs, ys, hd, h64, hy, hd2⟩, e, ra, q⟩ => by
  subst hd hd2
  obtain ⟨v, rfl, rv⟩ := ra.one
  obtain ⟨p, ws, rfl, h1, h2, h3⟩ := rv.list
  have ew := h2.rp.strs
  subst ew
  refine ⟨p, xs, rfl, .inl (.inl (e _ _ h1)), h64, fun zs l hp hs hl => ?_⟩
  have ez := hy zs hp hs
  subst ez
  have s := Stp.new (o := .lst (zs.map V.str)) e hl
  refine q _ _ _ s (.of_lst upd_same ⟨RpA.of_strs zs, smAll_iff.mpr fun x hx => ?_⟩ (by rw [List.length_map, hp.length_eq]; omega))
  obtain ⟨z, hz, rfl⟩ := List.mem_map.mp hx
  exact smAll_iff.mp h2.sm _ (List.mem_map.mpr ⟨z, hp.mem_iff.mp hz, rfl⟩)
end
/-! ### isinstance, slices, zip -/
section
variable {K : PySem.W.Frag} {env : En} {ta tb te tl th : TE} {d : D} {ds : List D}
theorem ev_isiStr {s : Str} (h : EvE ta env (.str s)) : EvE (tCB (rIsi K) (tCons ta (tCons (tC (.ty "str")) tNil))) env (.bool true) := fun σ G H r e Q q => h σ G H r e _ fun v G1 H1 s1 r1 => by
  refine ⟨v, .ty "str", .type "str", .type "str", true, rfl, .ty _, ?_, kit_ty (by decide +kernel), q _ G1 H1 s1 (.of_bool true)⟩
  rw [r1.str]
  exact .base (.str _)
theorem ev_isiTup (h : EvE ta env (.tuple ds)) : EvE (tCB (rIsi K) (tCons ta (tCons (tC (.ty "tuple")) tNil))) env (.bool true) := fun σ G H r e Q q => h σ G H r e _ fun v G1 H1 s1 r1 => by
  obtain ⟨p, ws, rfl, h1, h2, h3⟩ := r1.tuple
  exact ⟨_, .ty "tuple", .type "tuple", .type "tuple", true, rfl, .ty _, .base (.tup (s1.in_ _ _ h1)), kit_ty (by decide +kernel), q _ G1 H1 s1 (.of_bool true)⟩
/-- t[:n] -/
theorem ev_slTo {n : Nat} (h : EvE ta env (.tuple ds)) (k : EvE tb env (.int (n : Int))) : EvE (tSl (rSlA K) ta tNoPart (tPart tb)) env (.tuple (ds.take n)) := fun σ G H r e Q q => h σ G H r e _ fun v G1 H1 s1 r1 => k σ G1 H1 (r.mono s1.eg) s1.in_ _ fun w G2 H2 s2 r2 => by
  obtain ⟨p, vs, rfl, h1, h2, h3⟩ := (r1.mono s2.eg).tuple
  have hl := h2.rp.length
  refine ⟨(n : Int), r2.int, p, vs, rfl, .inl (.inl (s2.in_ _ _ h1)), fun z => ?_, fun z l hl' => ?_⟩
  · obtain ⟨_, z2⟩ := z
    rw [HT.sIx_nat] at z2
    have e1 : ds.take n = ds := List.take_of_length_le (by omega)
    rw [e1] at q
    exact q _ G2 H2 (s1.trans s2) (r1.mono s2.eg)
  · have ec : cutV vs none (some (n : Int)) = vs.take n := by
      unfold cutV
      rw [HT.sIx_none, HT.sIx_nat, List.drop_zero, Nat.sub_zero]
      rcases Nat.le_total n vs.length with c | c
      · rw [Nat.min_eq_left c]
      · rw [Nat.min_eq_right c, List.take_of_length_le (Nat.le_refl _), List.take_of_length_le c]
    rw [ec]
    have s3 := Stp.new (o := .tup (vs.take n)) s2.in_ hl'
    exact q _ _ _ ((s1.trans s2).trans s3) (.of_tup upd_same ((h2.take n).mono s3.eg) (by rw [List.length_take]; omega))
/-- t[n:] -/
theorem ev_slFrom {n : Nat} (h : EvE ta env (.tuple ds)) (k : EvE tb env (.int (n : Int))) : EvE (tSl (rSlA K) ta (tPart tb) tNoPart) env (.tuple (ds.drop n)) := fun σ G H r e Q q => h σ G H r e _ fun v G1 H1 s1 r1 => k σ G1 H1 (r.mono s1.eg) s1.in_ _ fun w G2 H2 s2 r2 => by
  obtain ⟨p, vs, rfl, h1, h2, h3⟩ := (r1.mono s2.eg).tuple
  have hl := h2.rp.length
  refine ⟨(n : Int), r2.int, p, vs, rfl, .inl (.inl (s2.in_ _ _ h1)), fun z => ?_, fun z l hl' => ?_⟩
  · obtain ⟨z1, _⟩ := z
    rw [HT.sIx_nat] at z1
    have e1 : ds.drop n = ds := by
      rcases Nat.eq_zero_or_pos n with c | c
      · rw [c, List.drop_zero]
      · have e0 : ds = [] := List.length_eq_zero_iff.mp (by omega)
        rw [e0, List.drop_nil]
    rw [e1] at q
    exact q _ G2 H2 (s1.trans s2) (r1.mono s2.eg)
  · have ec : cutV vs (some (n : Int)) none = vs.drop n := by
      unfold cutV
      rw [HT.sIx_none, HT.sIx_nat]
      rcases Nat.le_total n vs.length with c | c
      · rw [Nat.min_eq_left c, List.take_of_length_le (by rw [List.length_drop]; exact Nat.le_refl _)]
      · rw [Nat.min_eq_right c, List.drop_of_length_le c, List.drop_of_length_le (Nat.le_refl _), List.take_nil]
    rw [ec]
    have s3 := Stp.new (o := .tup (vs.drop n)) s2.in_ hl'
    exact q _ _ _ ((s1.trans s2).trans s3) (.of_tup upd_same ((h2.drop n).mono s3.eg) (by rw [List.length_drop]; omega))
/-- l[:n], a list -/
theorem ev_slToL {n : Nat} (h : EvE ta env (.list ds)) (k : EvE tb env (.int (n : Int))) : EvE (tSl (rSlL K) ta tNoPart (tPart tb)) env (.list (ds.take n)) := fun σ G H r e Q q => h σ G H r e _ fun v G1 H1 s1 r1 => k σ G1 H1 (r.mono s1.eg) s1.in_ _ fun w G2 H2 s2 r2 => by
  obtain ⟨p, vs, rfl, h1, h2, h3⟩ := (r1.mono s2.eg).list
  have hl := h2.rp.length
  refine ⟨(n : Int), r2.int, p, vs, rfl, .inl (.inl (s2.in_ _ _ h1)), fun l hl' => ?_⟩
  have ec : cutV vs none (some (n : Int)) = vs.take n := by
    unfold cutV
    rw [HT.sIx_none, HT.sIx_nat, List.drop_zero, Nat.sub_zero]
    rcases Nat.le_total n vs.length with c | c
    · rw [Nat.min_eq_left c]
    · rw [Nat.min_eq_right c, List.take_of_length_le (Nat.le_refl _), List.take_of_length_le c]
  rw [ec]
  have s3 := Stp.new (o := .lst (vs.take n)) s2.in_ hl'
  exact q _ _ _ ((s1.trans s2).trans s3) (.of_lst upd_same ((h2.take n).mono s3.eg) (by rw [List.length_take]; omega))
/-- zip(t, u), tuples -/
theorem src_zip {es : List D} {tr : TA} (h : EvA tr env [.tuple ds, .tuple es]) : SrcE (RZ.iZipA K tr) env ((ds.zip es).map fun p => .tuple [p.1, p.2]) := fun σ G H r e R q => h σ G H r e _ fun vs G1 H1 s1 r1 => by
  obtain ⟨v, w, rfl, rv, rw_⟩ := r1.two
  obtain ⟨p, xs, rfl, h1, h2, h3⟩ := rv.tuple
  obtain ⟨p', ys, rfl, k1, k2, k3⟩ := rw_.tuple
  have l1 := h2.rp.length
  have l2 := k2.rp.length
  have sx : ∀ H', Ex G1 H' → SqT K H' p xs := fun H' e' => .inl (.inl (e' _ _ h1))
  have sy : ∀ H', Ex G1 H' → SqT K H' p' ys := fun H' e' => .inl (.inl (e' _ _ k1))
  have lz : ((ds.zip es).map fun p => PyData.tuple [p.1, p.2]).length = min ds.length es.length := by rw [List.length_map, List.length_zip]
  refine ⟨p, p', xs, ys, rfl, .inr ⟨sx _ s1.in_, sy _ s1.in_, q _ G1 H1 s1 ⟨by rw [lz]; omega, fun i H' e' hi => ?_, fun i d G' H' x H'' eg e' hd y => ?_, fun i H' e' hi => ⟨xs, ys, sx _ e', sy _ e', ?_⟩⟩⟩⟩
  · rw [lz] at hi
    exact ⟨xs, ys, xs[i]'(by omega), ys[i]'(by omega), sx _ e', sy _ e', List.getElem?_eq_getElem _, List.getElem?_eq_getElem _⟩
  · have hi : i < min ds.length es.length := by
      have := (List.getElem?_eq_some_iff.mp hd).1
      rw [lz] at this
      exact this
    have d1 : ds[i]? = some (ds[i]'(by omega)) := List.getElem?_eq_getElem _
    have d2 : es[i]? = some (es[i]'(by omega)) := List.getElem?_eq_getElem _
    obtain ⟨a, ha, ra⟩ := h2.at_ d1
    obtain ⟨b, hb, rb⟩ := k2.at_ d2
    obtain ⟨T, x1, x2, rfl, nT, rfl, f1, f2⟩ := y
    have ex1 : x1 = a := Option.some.inj ((f1 xs (sx _ (Evl.Ex.trans eg e'))).symm.trans ha)
    have ex2 : x2 = b := Option.some.inj ((f2 ys (sy _ (Evl.Ex.trans eg e'))).symm.trans hb)
    subst ex1 ex2
    have ed : PyData.tuple [ds[i]'(by omega), es[i]'(by omega)] = d := by
      rw [List.getElem?_map, (List.getElem?_zip_eq_some (z := (ds[i]'(by omega), es[i]'(by omega)))).mpr ⟨d1, d2⟩] at hd
      exact Option.some.inj hd
    subst ed
    have s2 := Stp.new (o := .tup [x1, x2]) e' nT
    have eG := Evl.Ex.trans eg s2.eg
    exact ⟨_, s2, .of_tup upd_same (.cons (ra.mono eG) (.cons (rb.mono eG) .nil)) (show (2 : Nat) ≤ 100000 by decide)⟩
  · rw [lz] at hi
    omega
end
end K16
/-! ## part En -/
set_option Elab.async false
set_option linter.all false
set_option maxRecDepth 100000
set_option maxHeartbeats 1000000
/-! enumerate(t), t a tuple, for loops and comprehensions -/
namespace K16
open PySem PySem.Spec PyProof.Rows L2
open Evl (Ex)
set_option maxHeartbeats 1000000 in
/-- the model's own maker, one argument that begins as B says -/
theorem enum_make {v : Value} {o : Obj} {P : Heap → Prop} (B : Begins v o P) :
    Meets (Builtin.«enumerate.__new__» ⟨[.type "enumerate", v], []⟩) (fun _ R s => P s.heap ∧
      R (.ok (.ret (.ref (s.heap.push o).objs.size))) { s with heap := (s.heap.push o).push { cls := .type "enumerate", data := .fields #[.none, .bool false, .ref s.heap.objs.size, rawInt 0, .none, .none] } }) :=
  .of_wp fun prog w A R s h => by
    obtain ⟨hp, g, dr, tk, os⟩ := s
    obtain ⟨hP, hR⟩ := h
    have hsub := sub_enumerate
    have it : ∀ {A' : Around} {E : Value → Shared → Prop} {Q : Value → Shared → Prop}, Q (.ref hp.objs.size) ⟨hp.push o, g, dr, tk, os⟩ → wpAny (model prog w) A' (pyIter v) Q E ⟨hp, g, dr, tk, os⟩ :=
      fun q => B.iter prog w _ _ ⟨hp, g, dr, tk, os⟩ _ hP q
    wp_walk using it
    refine wpAny_stack_any fun st => wpAny_pure ?_
    split
    · rename_i c _ _ _ _ _
      cases (c == Value.type "enumerate") <;> (wp_walk using it; exact ⟨_, rfl, hR⟩)
    · wp_walk using it
      exact ⟨_, rfl, hR⟩
theorem call_enumT {prog : Program} {w : World} {A : Around} {E : Value → Shared → Prop} {s : Shared} {t : Addr} {items : Array Value} {Q : Value → Shared → Prop} (ht : s.heap.IsTuple t items)
    (h : ∀ h', IsEnum h' (s.heap.objs.size + 1) s.heap.objs.size 0 .none → h'.IsTupleIter s.heap.objs.size t 0 → (∀ b o, s.heap.get? b = some o → h'.get? b = some o) → Q (.ref (s.heap.objs.size + 1)) { s with heap := h' }) :
    wpAny (model prog w) A (call (.type "enumerate") [.ref t]) Q E s := by
  have B := begins_tuple t items
  refine callType_new F.called_enumerate (by decide) (F.typeCall_enumerate_1 _) (F.newCall_enumerate_1 _) (fun obj => F.args_object_init_2 obj _) F.entry_enumerate_new (enum_make B) ⟨ht, ?_⟩
  generalize ho : ({ cls := .type "tuple_iterator", data := .fields #[.ref t, .int 0 0] } : Obj) = o
  have hz : (s.heap.push o).objs.size = s.heap.objs.size + 1 := Heap.size_push ..
  show _ ∧ _
  rw [hz]
  have he : IsEnum ((s.heap.push o).push { cls := .type "enumerate", data := .fields #[.none, .bool false, .ref s.heap.objs.size, rawInt 0, .none, .none] }) (s.heap.objs.size + 1) s.heap.objs.size 0 .none := by
    have q := Heap.get?_push_size (s.heap.push o) (o := { cls := .type "enumerate", data := .fields #[.none, .bool false, .ref s.heap.objs.size, rawInt 0, .none, .none] }) rfl
    rw [hz] at q
    exact q
  refine ⟨⟨_, he, rfl⟩, h _ he ?_ fun b o' x => Heap.get?_push_of_some _ (Heap.get?_push_of_some _ x)⟩
  subst ho
  exact ⟨_, Heap.get?_push_of_some _ (Heap.get?_push_size _ rfl), rfl, rfl⟩
/-- the tuple at a, each item in a new pair behind its place -/
def IteT (a : Addr) : It :=
  ⟨fun i H => ∃ (xs : List V) (x : V), H a = some (.tup xs) ∧ xs[i]? = some x, fun i H v H' => ∃ T x, v = .ref T ∧ H T = none ∧ H' = upd H T (.tup [.int (i : Nat), x]) ∧ ∀ xs, H a = some (.tup xs) → xs[i]? = some x, fun i H => ∃ xs : List V, H a = some (.tup xs) ∧ xs.length = i⟩
theorem turn_enumT {P : Program} {w : World} {K : PySem.W.Frag} {elts : List Expr} {kk : Nat} {tpos : Pos} (a e it : Addr) :
    Turn P w K (.Tuple elts kk tpos) (IteT a) [e, it] e (fun i h => (∃ old, IsEnum h e it ((i : Nat) : Int) old) ∧ h.IsTupleIter it a i ∧ e ≠ it) where
  mem := by simp
  obj := fun i h st b hb => by
    obtain ⟨⟨old, he⟩, ⟨o, ho, hc, hd⟩, _⟩ := st
    rcases (show b = e ∨ b = it by simpa using hb) with z | z
    · subst z
      exact ⟨_, he, fun v q => nomatch q⟩
    · subst z
      exact ⟨o, ho, fun v q => by rw [hd] at q; cases q⟩
  keep := fun i h h' st k => by
    obtain ⟨⟨old, he⟩, hi, hne⟩ := st
    exact ⟨⟨old, k e (by simp) _ he⟩, hi.at fun o q => k it (by simp) o q, hne⟩
  item := by
    intro X hP hw hK hc i pins s σ H E I hf st hg
    subst hP hw hK
    obtain ⟨⟨old, he⟩, hit, hne⟩ := st
    obtain ⟨xs, x, hq, hx⟩ := hg
    obtain ⟨hz, its, rv, pt⟩ := I.hok a _ hq
    obtain ⟨u, hu, ru⟩ := rv.get hx
    have nit : a ≠ it := fun z => by have q := (hf it (by simp)).1; rw [← z, hq] at q; cases q
    have nea : a ≠ e := fun z => by have q := (hf e (by simp)).1; rw [← z, hq] at q; cases q
    have D := Draws.tuple (prog := X.prog) (w := X.w) (A := X.A.in1) (I.ok.hd hc) it a nit its.toArray
    have hel : e < s.heap.objs.size := Heap.lt_size he
    have hil : it < s.heap.objs.size := by obtain ⟨_, q, _⟩ := hit; exact Heap.lt_size q
    have hlt : i < its.toArray.size := by
      have q := (List.getElem?_eq_some_iff.mp hu).1
      simpa using q
    refine wpAny_pyNext_enum_itemC D he ⟨hit, pt⟩ hlt hne (by simp [hne, Ne.symm nea]) fun y h' tk hy ho hst hT hsz hk => ?_
    have ey : y = u := by
      rw [← Array.getElem?_toList] at hy
      exact Option.some.inj (hy.symm.trans hu)
    subst ey
    refine ⟨_, rfl, wpAny_letOwnedTupleGo_enum (s := { s with heap := h', toks := tk + 1 }) ho fun h'' he' sb => ?_⟩
    have hT2 : h''.get? s.heap.objs.size = some { cls := .type "tuple", data := .seq #[.int i tk, y] } := (sb.2 _ (Nat.ne_of_gt hel)).trans hT
    have new : ObjOk X.prog X.w (upd H s.heap.objs.size (.tup [.int (i : Nat), x])) h'' s.heap.objs.size (.tup [.int (i : Nat), x]) :=
      ⟨show 2 ≤ sizeLine by decide, [.int i tk, y], .cons ⟨_, rfl⟩ (.cons ru .nil), ⟨_, hT2, rfl, _, rfl⟩⟩
    have I1 : Inv X pins σ (upd H s.heap.objs.size (.tup [.int (i : Nat), x])) { s with heap := h'', toks := tk + 1 } :=
      I.turnedNew (ch := [e, it]) (fun b ob hb q => (sb.2 b (fun z => hb (by simp [z]))).trans (hk b ob (fun z => hb (by simp [z])) (fun z => hb (by simp [z])) q)) hf (Nat.le_refl _) new
    refine ⟨.ref s.heap.objs.size, _, I1, rfl, ⟨_, x, rfl, I.hok.fresh (Nat.le_refl _), rfl, fun ys hy => ?_⟩, ⟨⟨y, ?_⟩, hst.1.at fun o q => (sb.2 it (Ne.symm hne)).trans q, hne⟩, fun b hb => ?_⟩
    · rw [hq] at hy
      cases hy
      exact hx
    · have e1 : ((i + 1 : Nat) : Int) = (i : Int) + 1 := by omega
      rw [e1]
      exact he'
    · have hb' : b < s.heap.objs.size := by
        rcases (show b = e ∨ b = it by simpa using hb) with z | z
        · rw [z]; exact hel
        · rw [z]; exact hil
      rw [upd_ne (Nat.ne_of_lt hb')]
      exact (hf b hb).1
  done := by
    intro X hP hw hK hc i pins s σ H E I hf st hg
    subst hP hw hK
    obtain ⟨⟨old, he⟩, hit, hne⟩ := st
    obtain ⟨xs, hq, hx⟩ := hg
    obtain ⟨hz, its, rv, pt⟩ := I.hok a _ hq
    have nit : a ≠ it := fun z => by have q := (hf it (by simp)).1; rw [← z, hq] at q; cases q
    obtain ⟨f0, f1, f2, f3, f4, f5⟩ := hf it (by simp)
    have hl := rv.length
    have D := Draws.tuple (prog := X.prog) (w := X.w) (A := X.A.in1) (I.ok.hd hc) it a nit its.toArray
    have hn : its.toArray.size = i := by
      rw [List.size_toArray]
      omega
    rw [hn] at D
    exact wpAny_pyNext_enum_endD D he ⟨hit, pt⟩ fun h' eb => ⟨rfl, I.turned (t' := s.toks) (fun b o hb q => eb b o hb q) f0 f1 f3 f4 f5⟩
  self := fun A i s Q E st h => by
    obtain ⟨⟨_, he⟩, _⟩ := st
    exact wpAny_pyIter_enum he h
def iEnumT (ta : TA) : TI := fun σ H R => ta σ H fun vs H1 => ∃ a xs, vs = [.ref a] ∧ H1 a = some (.tup xs) ∧ R (IteT a) H1
theorem pi_enumT {X : Cx} {e : Expr} {ta : TA} {p pos tpos : Pos} {elts : List Expr} {kk : Nat} (hg : Gl X "enumerate") (hm : X.mg "enumerate" = none) (ha : PA X [e] ta) (hs : starEach [e] X.env = [(false, eval e X.env)] := by rfl) :
    PI X (.Tuple elts kk tpos) (.Call (.Name "enumerate" p) [e] [] pos) (iEnumT ta) := by
  refine ⟨fun pins s σ H R I h => ?_⟩
  refine Call_ (ld_blt I hg hm boot_enumerate (PyProof.Rows.callWith_type1 (thn (ha.run pos pins s σ H _ I h) fun us s1 ⟨vs, H1, I1, r1, q1⟩ => ?_) hs rfl))
  obtain ⟨a, xs, ex, hq, q⟩ := q1
  subst ex
  rw [Vals.ref1 r1]
  obtain ⟨hz, its, rv, pt⟩ := I1.hok a _ hq
  refine call_enumT pt fun h' he hit hk => wpAny_pyIter_enum he ?_
  have I2 : Inv X pins σ H1 { s1 with heap := h' } := I1.kept (t' := s1.toks) hk
  refine ⟨s1.heap.objs.size + 1, [s1.heap.objs.size + 1, s1.heap.objs.size], _, _, H1, rfl, I2, turn_enumT a (s1.heap.objs.size + 1) s1.heap.objs.size, ⟨⟨.none, he⟩, hit, Nat.succ_ne_self _⟩, fun b hb => ?_, q⟩
  have hle : s1.heap.objs.size ≤ b := by
    rcases (show b = s1.heap.objs.size + 1 ∨ b = s1.heap.objs.size by simpa using hb) with z | z
    · rw [z]; exact Nat.le_add_right _ _
    · rw [z]; exact Nat.le_refl _
  exact I1.fpOk hle (I1.hok.fresh hle)
theorem src_enumT {env : En} {ds : List D} {tr : TA} (h : EvA tr env [.tuple ds]) : SrcE (iEnumT tr) env (ds.zipIdx.map fun p => .tuple [.int (p.2 : Int), p.1]) := fun σ G H r e R q => h σ G H r e _ fun vs G1 H1 s1 r1 => by
  obtain ⟨v, rfl, rv⟩ := r1.one
  obtain ⟨a, xs, rfl, h1, h2, h3⟩ := rv.tuple
  have l1 := h2.rp.length
  have lz : (ds.zipIdx.map fun (p : D × Nat) => PyData.tuple [.int (p.2 : Int), p.1]).length = ds.length := by rw [List.length_map, List.length_zipIdx]
  refine ⟨a, xs, rfl, s1.in_ _ _ h1, q _ G1 H1 s1 ⟨by rw [lz]; exact h3, fun i H' e' hi => ?_, fun i d G' H' x H'' eg e' hd y => ?_, fun i H' e' hi => ⟨xs, e' _ _ h1, ?_⟩⟩⟩
  · rw [lz] at hi
    exact ⟨xs, xs[i]'(by omega), e' _ _ h1, List.getElem?_eq_getElem _⟩
  · have hi : i < ds.length := by
      have := (List.getElem?_eq_some_iff.mp hd).1
      rw [lz] at this
      exact this
    have d1 : ds[i]? = some (ds[i]'hi) := List.getElem?_eq_getElem _
    obtain ⟨w, hw, rw_⟩ := h2.at_ d1
    obtain ⟨T, x1, rfl, nT, rfl, f1⟩ := y
    have ex1 : x1 = w := Option.some.inj ((f1 xs ((Evl.Ex.trans eg e') _ _ h1)).symm.trans hw)
    subst ex1
    have ed : PyData.tuple [.int (i : Int), ds[i]'hi] = d := by
      rw [List.getElem?_map, List.getElem?_zipIdx, d1] at hd
      have e0 : 0 + i = i := Nat.zero_add i
      simpa [e0] using hd
    subst ed
    have s2 := Stp.new (o := .tup [.int (i : Int), x1]) e' nT
    have eG := Evl.Ex.trans eg s2.eg
    exact ⟨_, s2, .of_tup upd_same (.cons (.of_int (by omega)) (.cons (rw_.mono eG) .nil)) (show (2 : Nat) ≤ 100000 by decide)⟩
  · rw [lz] at hi
    omega
end K16
/-! ## part Fn -/
set_option Elab.async false
set_option linter.all false
set_option maxRecDepth 100000
set_option maxHeartbeats 1000000
/-! defs and their promises by data; the same for defs that lean on the guards (repr) -/
namespace K16
open PySem PySem.Spec PyProof.Rows L2
open Evl (Ex)
/-- what the head has told -/
structure Tx (K : PySem.W.Frag) (mg : Str → Option Value) : Prop where
  gl : ∃ h : Heap, K.In h ∧ h.Ns mainGlobals mg
  c : He.SaysD fa fn K
section
variable {K : PySem.W.Frag} {mg : Str → Option Value}
theorem Tx.glo (T : Tx K mg) (i : Nat) {x : Str} (h : fa[i]? = some (.glo x) := by rfl) : mg x = some (.ref (He.ga K x)) := let ⟨_, X, G⟩ := T.gl; He.glo_ok X G (T.c.fact i h)
theorem Tx.free (T : Tx K mg) (i : Nat) {x : Str} (h : fa[i]? = some (.free x) := by rfl) : mg x = none := let ⟨_, X, G⟩ := T.gl; He.free_ok X G (T.c.fact i h)
theorem Tx.int (T : Tx K mg) (i : Nat) {x : Str} {n : Int} (h : fa[i]? = some (.int x n) := by rfl) : ∃ t, mg x = some (.int n t) := let ⟨_, X, G⟩ := T.gl; He.int_ok X G (T.c.fact i h)
theorem Tx.str (T : Tx K mg) (i : Nat) {x z : Str} (h : fa[i]? = some (.str x z) := by rfl) : ∃ t, mg x = some (.str z t) := let ⟨_, X, G⟩ := T.gl; He.str_ok X G (T.c.fact i h)
end
/-- the def x keeps sp; dvs: the defaults behind the values that callers write -/
def Ok (P : Program) (w : World) (K : PySem.W.Frag) (mg : Str → Option Value) (base : Heap) (k : Nat) (x : Str) (ps : List Str) (dvs : List V) (sp : Sp) : Prop :=
  ∃ (fd : FuncData) (ds : List Value), FnOk P w K mg base CX0 k (He.ga K x) fd ps sp ∧ Binds K fd ps ds ∧ Vals dvs ds ∧ PySem.W.keepIn K (.ref (He.ga K x)) = true ∧ mg x = some (.ref (He.ga K x))
section
variable {X : Cx} {k j : Nat} {x : Str} {ps : List Str} {dvs : List V} {sp : Sp} {p pos : Pos} {e : Expr} {es : List Expr} {t : TA}
theorem pe_go (C : Ok X.prog X.w X.K X.mg X.base k x ps dvs sp) (hr : Room j X.A) (hk : k ≤ j) (hg : Gl X x) (ha : PA X (e :: es) t) (hdb : (x == ("__debug__" : Str)) = false := by decide)
    (he : starEach (e :: es) X.env = (false, eval e X.env) :: starEach es X.env := by rfl) (hpl : (backTo pos (starEach es X.env)).any (·.1) = false := by rfl) :
    PE X (.Call (.Name x p) (e :: es) [] pos) (tCall sp dvs E0 t) := by
  obtain ⟨fd, ds, F, b, r, kp, g⟩ := C
  exact pe_call F (hr.mono hk) hg g kp b r pass0 ha hdb he hpl
theorem pe_go0 (C : Ok X.prog X.w X.K X.mg X.base k x ps dvs sp) (hr : Room j X.A) (hk : k ≤ j) (hg : Gl X x) (hdb : (x == ("__debug__" : Str)) = false := by decide) : PE X (.Call (.Name x p) [] [] pos) (tCall sp dvs E0 tNil) := by
  obtain ⟨fd, ds, F, b, r, kp, g⟩ := C
  exact pe_call0 F (hr.mono hk) hg g kp b r pass0 hdb
end
def start0 (N : List Str) (ds : List D) : En := ds.map some ++ List.replicate (N.length - ds.length) none
theorem rs_start {G : Hp} {N : List Str} {vs : List V} {ds : List D} (r : RqA G vs ds) : Rs G (start N vs) (start0 N ds) := by
  have hl := r.rp.length
  refine ⟨?_, fun i d q => ?_⟩
  · unfold L2.start start0
    rw [List.length_append, List.length_append, List.length_map, List.length_map, List.length_replicate, List.length_replicate, hl]
  · unfold start0 at q
    by_cases hi : i < ds.length
    · rw [List.getElem?_append_left (by simpa using hi), List.getElem?_map] at q
      obtain ⟨d', hd, e⟩ := Option.map_eq_some_iff.mp q
      have e' : d' = d := Option.some.inj e
      subst e'
      obtain ⟨v, hv, rv⟩ := r.at_ hd
      refine ⟨v, ?_, rv⟩
      unfold L2.start
      rw [List.getElem?_append_left (by simpa [hl] using hi), List.getElem?_map, hv]
      rfl
    · rw [List.getElem?_append_right (by simpa using hi), List.getElem?_replicate] at q
      split at q <;> cases q
theorem run_bl {R : List D → D → Prop} {N : List Str} {t : TS} (h : ∀ ds d, R ds d → BlE t (start0 N ds) none d) {vs : List V} {H : Hp} {Q : VK} {E : XK} (hs : spR R vs H Q E) : t { nx := fun _ H' => Q .non H', rt := Q } (start N vs) H := by
  obtain ⟨G, ds, d, hR, e, ra, q⟩ := hs
  exact h ds d hR (start N vs) G H G H _ ⟨rs_start ra, Stp.refl e⟩ fun v G2 H2 s r => q v G2 H2 s r
theorem run_sm {R : List D → D → Prop} {N : List Str} {t : TS} (h : ∀ ds d, R ds d → d = .none ∧ ∃ env2, SmE t (start0 N ds) none env2 none) {vs : List V} {H : Hp} {Q : VK} {E : XK} (hs : spR R vs H Q E) : t { nx := fun _ H' => Q .non H', rt := Q } (start N vs) H := by
  obtain ⟨G, ds, d, hR, e, ra, q⟩ := hs
  obtain ⟨rfl, env2, k⟩ := h ds d hR
  exact k (start N vs) G H G H _ ⟨rs_start ra, Stp.refl e⟩ fun σ2 G2 H2 m _ => q .non G2 H2 m.mu .of_none
theorem spR_len {R : List D → D → Prop} {n : Nat} (h : ∀ ds d, R ds d → ds.length = n) {vs : List V} {H : Hp} {Q : VK} {E : XK} (hs : spR R vs H Q E) : vs.length = n := by
  obtain ⟨G, ds, d, hR, e, ra, q⟩ := hs
  rw [ra.rp.length]
  exact h ds d hR
section
variable {P : Program} {w : World} {K : PySem.W.Frag} {mg : Str → Option Value} {base : Heap}
/-- a def without defaults, any promise -/
theorem ok_any {x : Str} {N ps : List Str} {k : Nat} {sp : Sp} (T : Tx K mg) (d : He.DefD) (i j : Nat) (hd : fn[i]? = some d) (hat : d.at_ = (x, none)) (hg : fa[j]? = some (.glo x)) (h0 : d.dfl = []) (h1 : d.kwd = []) (S : FnScope N ps d.scope)
    (hb : ∀ (kV doc pm : Value) (an : Option Addr) (cdv ct : Value) (us : List Value), us.length = ps.length → bindArgs (PySem.W.fnOf d.name d.qual d.params d.body d.scope .none kV doc pm an cdv ct) ⟨us, []⟩ = pure (ps.zip us))
    (len : ∀ vs H Q E, sp vs H Q E → vs.length = ps.length)
    (body : ∀ (cdv : Value) (A : Around) (outer : List Env) (s : Shared) (H : Hp) (vs : List V) (Q : VK) (E : XK), Room k (A.deeper (envOfC d.qual d.scope s.heap.objs.size (He.ga K x) cdv)) → sp vs H Q E →
      ∃ t, PSs (cxOf CX0 P w K mg base N d.qual d.scope (He.ga K x) cdv A outer s H E) d.body t ∧ t { nx := fun _ H' => Q .non H', rt := Q } (start N vs) H) : Ok P w K mg base (k + 1) x ps [] sp := by
  obtain ⟨fd, F⟩ := T.c.def_ i hd
  have e1 : d.dvs K = [] := by unfold He.DefD.dvs; rw [h0]; rfl
  have e2 : d.kws K = [] := by unfold He.DefD.kws; rw [h1]; rfl
  have e3 : He.fAd K d.at_ = He.ga K x := by rw [hat]; rfl
  rw [e1, e2, e3] at F
  exact ⟨fd, [], F.ok S len body, F.bindsN hb, .nil, F.kp, T.glo j hg⟩
theorem ok_pure {x : Str} {N ps : List Str} {k : Nat} {R : List D → D → Prop} (T : Tx K mg) (d : He.DefD) (i j : Nat) (hd : fn[i]? = some d) (hat : d.at_ = (x, none)) (hg : fa[j]? = some (.glo x)) (h0 : d.dfl = []) (h1 : d.kwd = []) (S : FnScope N ps d.scope)
    (hb : ∀ (kV doc pm : Value) (an : Option Addr) (cdv ct : Value) (us : List Value), us.length = ps.length → bindArgs (PySem.W.fnOf d.name d.qual d.params d.body d.scope .none kV doc pm an cdv ct) ⟨us, []⟩ = pure (ps.zip us))
    (len : ∀ ds d, R ds d → ds.length = ps.length)
    (body : ∀ (cdv : Value) (A : Around) (outer : List Env) (s : Shared) (H : Hp) (E : XK), Room k (A.deeper (envOfC d.qual d.scope s.heap.objs.size (He.ga K x) cdv)) →
      ∃ t, PSs (cxOf CX0 P w K mg base N d.qual d.scope (He.ga K x) cdv A outer s H E).nox d.body t ∧ ∀ ds d, R ds d → BlE t (start0 N ds) none d) : Ok P w K mg base (k + 1) x ps [] (spR R) :=
  ok_any T d i j hd hat hg h0 h1 S hb (fun vs H Q E h => spR_len len h) fun cdv A outer s H vs Q E hr hs => by
    obtain ⟨t, h1, h2⟩ := body cdv A outer s H E hr
    exact ⟨t, PSs.nox h1, run_bl h2 hs⟩
/-- a def with defaults behind n written values, called so -/
theorem ok_dfl {x : Str} {N ps : List Str} {k : Nat} {sp : Sp} {dvs : List V} (T : Tx K mg) (d : He.DefD) (i j n : Nat) (hd : fn[i]? = some d) (hat : d.at_ = (x, none)) (hg : fa[j]? = some (.glo x)) (h0 : d.dvs K = dvs) (hne : dvs ≠ []) (h1 : d.kwd = []) (S : FnScope N ps d.scope) (hn : n + dvs.length = ps.length)
    (hb : ∀ (T : Addr) (kV doc pm : Value) (an : Option Addr) (cdv ct : Value) (us its : List Value), us.length = n → its.length = dvs.length →
      ∃ k, bindArgs (PySem.W.fnOf d.name d.qual d.params d.body d.scope (.ref T) kV doc pm an cdv ct) ⟨us, []⟩ = seqItems? (.ref T) >>= k ∧ k (some its.toArray) = pure (ps.zip (us ++ its.drop 0)))
    (len : ∀ vs H Q E, sp vs H Q E → vs.length = ps.length)
    (body : ∀ (cdv : Value) (A : Around) (outer : List Env) (s : Shared) (H : Hp) (vs : List V) (Q : VK) (E : XK), Room k (A.deeper (envOfC d.qual d.scope s.heap.objs.size (He.ga K x) cdv)) → sp vs H Q E →
      ∃ t, PSs (cxOf CX0 P w K mg base N d.qual d.scope (He.ga K x) cdv A outer s H E) d.body t ∧ t { nx := fun _ H' => Q .non H', rt := Q } (start N vs) H) : Ok P w K mg base (k + 1) x ps dvs sp := by
  obtain ⟨fd, F⟩ := T.c.def_ i hd
  have e2 : d.kws K = [] := by unfold He.DefD.kws; rw [h1]; rfl
  have e3 : He.fAd K d.at_ = He.ga K x := by rw [hat]; rfl
  rw [h0, e2, e3] at F
  obtain ⟨ds, rd, b⟩ := F.binds1 n 0 hne (by rw [Nat.sub_zero]; exact hn) hb
  exact ⟨fd, ds, F.ok S len body, b, by simpa using rd, F.kp, T.glo j hg⟩
end
/-! ### with the guards told -/
structure FnOkG (P : Program) (w : World) (K : PySem.W.Frag) (mg : Str → Option Value) (base : Heap) (k : Nat) (f : Addr) (fd : FuncData) (ps : List Str) (sp : Sp) : Prop where
  len : ∀ vs H Q E, sp vs H Q E → vs.length = ps.length
  run : ∀ (A : Around) (outer : List Env) (s : Shared) (H : Hp) (args : Args) (us : List Value) (vs : List V) (Q : VK), Room k A → A.guards = some [] → Env0 P w K mg base A outer s H → BindsTo s fd args (ps.zip us) → Vals vs us → sp vs H Q E0 →
    codeAny (model P w) A (.call (.ref f) args) (CR CX0 outer P w H s Q E0) s
theorem fnG_of {P : Program} {w : World} {K : PySem.W.Frag} {mg : Str → Option Value} {base : Heap} {x qual : Str} {params : Arguments} {body : List Stmt} {scope : Scope} {dvs : List V} {kws : List (Str × V)} {f : Addr} {fd : FuncData} {N ps : List Str} {k : Nat} {sp : Sp}
    (F : FunD K x qual params body scope dvs kws f fd) (S : FnScope N ps scope) (len : ∀ vs H Q E, sp vs H Q E → vs.length = ps.length)
    (hbody : ∀ (cdv : Value) (A : Around) (outer : List Env) (s : Shared) (H : Hp) (vs : List V) (Q : VK), A.guards = some [] → Room k (A.deeper (envOfC qual scope s.heap.objs.size f cdv)) → sp vs H Q E0 →
      ∃ t, PSs (cxOf CX0 P w K mg base N qual scope f cdv A outer s H E0).nox body t ∧ t { nx := fun _ H' => Q .non H', rt := Q } (start N vs) H) : FnOkG P w K mg base (k + 1) f fd ps sp := by
  obtain ⟨oc, od, dV, kV, doc, pm, an, cdv, ct, osl, rfl, lk, hcd, _, _⟩ := F.ex
  refine ⟨len, fun A outer s H args us vs Q hr hg e0 hb r hsp => ?_⟩
  have KX : K.In s.heap := e0.mod.kin.keeps fun b o e => (e0.bs b o e).1
  have lim : s.heap.NoLimit := e0.mod.nolimit.keeps fun b o e => (e0.bs b o e).1
  have hkind : ∀ y ∈ ps.zip us, scope.names.lookup y.1 = some .local ∨ (scope.names.lookup y.1 = some .cell ∧ ((cellsFrom (s.heap.objs.size + 1) scope.names []).lookup y.1).isSome = true) := by
    rintro ⟨n, v⟩ hy
    rcases S.par n (List.of_mem_zip hy).1 with q | q
    · exact .inl q
    · exact .inr ⟨q, PySem.W.cellsFrom_some _ _ _ (.inl q)⟩
  refine codeAny_call_function hr.depth (KX _ _ lk) rfl S.co S.gen rfl (PySem.W.codeRec_of KX hcd) (hb _ _ _ _ (wpAny_newFunctionEnv_cells S.kind hkind ?_))
  rintro env rfl s1 x
  refine ⟨lim.keeps x.toInCall.keep, codeAny_func ?_⟩
  obtain ⟨t, ht, hq⟩ := hbody cdv A outer s H vs Q hg (hr.deeper _) hsp
  have I := inv_start (CX := CX0) (P := P) (w := w) (E := E0) S hr.hd e0 (len _ _ _ _ hsp) r x
  refine wpAny_mono ((PSs.nox ht).run [] s1 (start N vs) H _ I hq) (fun fl s' hs => ?_) fun _ _ z => z
  cases fl with
  | ret u =>
    obtain ⟨v, σ', H', J, rv, q⟩ := hs
    exact ⟨v, H', J.os, J.bare, J.base, J.hok, rv, q⟩
  | next =>
    obtain ⟨σ', H', J, q⟩ := hs
    exact ⟨.non, H', J.os, J.bare, J.base, J.hok, rfl, q⟩
  | brk => exact (let ⟨_, _, _, q⟩ := hs; q.elim)
  | cont => exact (let ⟨_, _, _, q⟩ := hs; q.elim)
def OkG (P : Program) (w : World) (K : PySem.W.Frag) (mg : Str → Option Value) (base : Heap) (k : Nat) (x : Str) (ps : List Str) (sp : Sp) : Prop :=
  ∃ fd : FuncData, FnOkG P w K mg base k (He.ga K x) fd ps sp ∧ Binds K fd ps [] ∧ PySem.W.keepIn K (.ref (He.ga K x)) = true ∧ mg x = some (.ref (He.ga K x))
theorem okG_any {P : Program} {w : World} {K : PySem.W.Frag} {mg : Str → Option Value} {base : Heap} {x : Str} {N ps : List Str} {k : Nat} {sp : Sp} (T : Tx K mg) (d : He.DefD) (i j : Nat) (hd : fn[i]? = some d) (hat : d.at_ = (x, none)) (hg : fa[j]? = some (.glo x)) (h0 : d.dfl = []) (h1 : d.kwd = []) (S : FnScope N ps d.scope)
    (hb : ∀ (kV doc pm : Value) (an : Option Addr) (cdv ct : Value) (us : List Value), us.length = ps.length → bindArgs (PySem.W.fnOf d.name d.qual d.params d.body d.scope .none kV doc pm an cdv ct) ⟨us, []⟩ = pure (ps.zip us))
    (len : ∀ vs H Q E, sp vs H Q E → vs.length = ps.length)
    (body : ∀ (cdv : Value) (A : Around) (outer : List Env) (s : Shared) (H : Hp) (vs : List V) (Q : VK), A.guards = some [] → Room k (A.deeper (envOfC d.qual d.scope s.heap.objs.size (He.ga K x) cdv)) → sp vs H Q E0 →
      ∃ t, PSs (cxOf CX0 P w K mg base N d.qual d.scope (He.ga K x) cdv A outer s H E0).nox d.body t ∧ t { nx := fun _ H' => Q .non H', rt := Q } (start N vs) H) : OkG P w K mg base (k + 1) x ps sp := by
  obtain ⟨fd, F⟩ := T.c.def_ i hd
  have e1 : d.dvs K = [] := by unfold He.DefD.dvs; rw [h0]; rfl
  have e2 : d.kws K = [] := by unfold He.DefD.kws; rw [h1]; rfl
  have e3 : He.fAd K d.at_ = He.ga K x := by rw [hat]; rfl
  rw [e1, e2, e3] at F
  exact ⟨fd, fnG_of F S len body, F.bindsN hb, F.kp, T.glo j hg⟩
section
variable {X : Cx} {k j : Nat} {x : Str} {ps : List Str} {sp : Sp} {p pos : Pos} {e : Expr} {es : List Expr} {t : TA}
theorem pe_goG (C : OkG X.prog X.w X.K X.mg X.base k x ps sp) (hr : Room j X.A) (hk : k ≤ j) (hgd : X.A.guards = some []) (hg : Gl X x) (ha : PA X (e :: es) t) (hdb : (x == ("__debug__" : Str)) = false := by decide)
    (he : starEach (e :: es) X.env = (false, eval e X.env) :: starEach es X.env := by rfl) (hpl : (backTo pos (starEach es X.env)).any (·.1) = false := by rfl) :
    PE X (.Call (.Name x p) (e :: es) [] pos) (tCall sp [] E0 t) := by
  obtain ⟨fd, F, b, kp, g⟩ := C
  refine ⟨fun pins s σ H Q I h => ?_⟩
  refine wpAny_Call_Name_kw (ld_glob I hg g ?_ hdb)
  refine PySem.W.callWith_K (h₀ := X.base) I.ok.mod.kin kp (thn (ha.run pos pins s σ H _ I h) fun us s1 ⟨vs, H1, I1, r, q⟩ => ⟨I1.kIn, ?_⟩) he hpl
  have q : sp vs H1 Q E0 := by
    have z : sp (vs ++ []) H1 Q E0 := q
    rw [List.append_nil] at z
    exact z
  have hl : (us ++ []).length = ps.length := by rw [List.append_nil, ← r.length]; exact F.len _ _ _ _ q
  have hb := b s1 us I1.kIn hl
  rw [List.append_nil] at hb
  refine wpAny_call (codeAny_mono (F.run X.A X.stack s1 H1 ⟨us, []⟩ us vs Q (hr.mono hk) hgd I1.env0 hb r q) fun r s' hq => ?_)
  cases r with
  | error e => exact False.elim hq
  | ok fl =>
    cases fl with
    | ret u => exact I1.after hq
    | _ => exact False.elim hq
end
/-! ### repr of data -/
/-- what repr gives; its size is bounded -/
def RRepr (ds : List D) (d : D) : Prop := ∃ x xs, (x = .list xs ∨ x = .tuple xs) ∧ ds = [x] ∧ PyData.showable x = true ∧ x.canLay0 = true ∧ x.depth ≤ 64 ∧ x.shown.length ≤ 100000 ∧ d = .str x.shown
theorem call_repr' {X : Cx} (hg : X.A.guards = some []) (hu : X.A.units + 66 < cLine) : CallR X (.builtin "repr") (rD RRepr) := by
  intro pins s σ H vs us Q I r ⟨G, ds, d, ⟨x, xs, hx, hd, sh, cl, dp, hz, hd2⟩, e, ra, q⟩
  subst hd hd2
  obtain ⟨v, rfl, rv⟩ := ra.one
  obtain ⟨u, rfl, ru⟩ := vals1 r
  obtain ⟨as, rd⟩ := rv.reads I e ru
  have hnd : x.hasDict = false := PySem.PyData.hasDict_of_canLay x cl
  obtain ⟨a, rfl⟩ : ∃ a, u = Value.ref a := by
    rcases hx with rfl | rfl
    · obtain ⟨a, _, rfl, _⟩ := rv.list
      exact ⟨a, ru⟩
    · obtain ⟨a, _, rfl, _⟩ := rv.tuple
      exact ⟨a, ru⟩
  refine repr_of_reads' (h₀ := s.heap) rd sh (PySem.PyData.noDict_hsm hnd) hg (by omega) (fun _ _ h => h) (fun h' u' tk hk => ?_) (Evl.sz_of hz)
  exact ⟨.str x.shown, H, I.kept (t' := tk) hk, ⟨u', rfl⟩, q _ G H (Stp.refl e) (.of_str hz)⟩
end K16
/-! ## part Set -/
set_option Elab.async false
set_option linter.all false
set_option maxRecDepth 100000
set_option maxHeartbeats 2000000
/-! set(xs) of tuples of texts: the model's table over keys List Str. What a table is (TabOk, way, probes, laying anew) is HandS.TupSets's; here: such keys in it. -/
namespace K16S
open PySem PySem.Spec PyProof.Rows L2
section
variable {P : Program} {w : World} {A : Around} {E : Value → Shared → Prop} {s : Shared}
/-- a row of texts as a key, its hash -/
abbrev Ky (P : Program) (w : World) (h : Heap) (k : List Str) (a : Addr) : Prop := IsTupleKey (PySem.strKind P w) h k a
abbrev hsh (P : Program) (w : World) (k : List Str) : Int := tupleKeyHash (PySem.strKind P w) k
abbrev Row := Addr × List Str
theorem texts_of {k : List Str} {vs : List Value} (h : ItemsAre (PySem.strKind P w) k vs) : ∀ v ∈ vs, ∃ x t, v = Value.str x t := by
  induction h with
  | nil => intro v hv; cases hv
  | @cons x v' ks vs h1 _ ih =>
    intro v hv
    rcases List.mem_cons.mp hv with e | hv
    · obtain ⟨t, e2⟩ := Value.isStrOf_shape h1
      exact ⟨x, t, e.trans e2⟩
    · exact ih v hv
theorem cls_text (n : Nat) (x : Str) (t : Tok) : ofAClassStatement n (.str x t) = pure false := by cases n <;> rfl
theorem byv_text (n : Nat) (x : Str) (t : Tok) : hashByValue n (.str x t) = pure false := by cases n <;> rfl
theorem cls_key {k : List Str} {b : Addr} {Q : Bool → Shared → Prop} (hk : Ky P w s.heap k b) (h : Q false s) : wpAny (model P w) A (ofAClassStatement 8 (.ref b)) Q E s := by
  have hT := hk.typeIs
  obtain ⟨o, items, n, ho, _, hd, hi⟩ := hk
  unfold ofAClassStatement
  refine wpAny_bind (wpAny_typeOf hT ?_)
  dsimp only
  have e : (("tuple" : String) == "tuple") = true := by decide
  simp only [e, if_true, Bool.not_true, Bool.false_eq_true, if_false]
  try refine wpAny_bind (wpAny_pure ?_)
  try simp only [Bool.not_true, Bool.false_eq_true, if_false]
  show wpAny _ _ (seqItems? (.ref b) >>= _) _ _ s
  refine wpAny_bind (wpAny_seqItems ho hd ?_)
  dsimp only
  refine wpAny_bind ?_
  show wpAny _ _ (forIn items _ _) _ _ s
  rw [← Array.forIn_toList]
  refine wpAny_forIn_list _ (fun rest r s' => r.1 = none ∧ s' = s ∧ ∀ v ∈ rest, ∃ x t, v = Value.str x t) _ ?_ ?_ _ _ ⟨rfl, rfl, texts_of hi⟩
  · rintro v rest r s' ⟨hr, rfl, hall⟩
    obtain ⟨i, t, rfl⟩ := hall v List.mem_cons_self
    rw [cls_text]
    refine wpAny_bind (wpAny_pure ?_)
    simp only [Bool.false_eq_true, if_false]
    exact wpAny_pure ⟨rfl, rfl, fun u hu => hall u (List.mem_cons_of_mem _ hu)⟩
  · rintro ⟨r1, r2⟩ s' ⟨hr, rfl, _⟩
    simp only at hr
    subst hr
    exact wpAny_pure h
/-- whether the hash goes by value alone: some answer -/
theorem byv_key {k : List Str} {b : Addr} {Q : Bool → Shared → Prop} (hk : Ky P w s.heap k b) (h : ∀ c, Q c s) : wpAny (model P w) A (hashByValue 8 (.ref b)) Q E s := by
  have hT := hk.typeIs
  obtain ⟨o, items, n, ho, _, hd, hi⟩ := hk
  unfold hashByValue
  refine wpAny_bind (wpAny_specialOf hT F.slot_tuple_hash.lookup ?_)
  show wpAny _ _ (seqItems? (.ref b) >>= _) _ _ s
  refine wpAny_bind (wpAny_seqItems ho hd ?_)
  refine wpAny_bind ?_
  show wpAny _ _ (forIn items _ _) _ _ s
  rw [← Array.forIn_toList]
  refine wpAny_forIn_list _ (fun rest r s' => s' = s ∧ ∀ v ∈ rest, ∃ x t, v = Value.str x t) _ ?_ ?_ _ _ ⟨rfl, texts_of hi⟩
  · rintro v rest r s' ⟨rfl, hall⟩
    obtain ⟨i, t, rfl⟩ := hall v List.mem_cons_self
    rw [byv_text]
    refine wpAny_bind (wpAny_pure ?_)
    simp only [Bool.not_false, if_true]
    exact wpAny_pure (show wpAny _ _ (pure false) _ _ _ from wpAny_pure (h _))
  · rintro ⟨r1, r2⟩ s' ⟨rfl, _⟩
    cases r1 with
    | none => exact wpAny_pure (h _)
    | some c => exact wpAny_pure (h _)
theorem unseen {k : List Str} {b : Addr} {Q : Bool → Shared → Prop} (hk : Ky P w s.heap k b) {ys : List Value} (hy : ∀ y ∈ ys, ∃ k' c, y = Value.ref c ∧ Ky P w s.heap k' c) (h : Q false s) :
    wpAny (model P w) A (searchCouldBeSeen (.ref b) ys) Q E s := by
  unfold searchCouldBeSeen
  refine wpAny_bind (wpAny_forIn_list _ (fun rest r s' => r.1 = none ∧ s' = s ∧ ∀ y ∈ rest, ∃ k' c, y = Value.ref c ∧ Ky P w s.heap k' c) _ ?_ ?_ _ _ ⟨rfl, rfl, hy⟩)
  · rintro v rest r s' ⟨hr, rfl, hall⟩
    obtain ⟨k', c, rfl, hc⟩ := hall v List.mem_cons_self
    have next := fun u (hu : u ∈ rest) => hall u (List.mem_cons_of_mem _ hu)
    dsimp only
    by_cases hv : (b == c || (carriedByValue (.ref b) && carriedByValue (.ref c))) = true
    · exact wp_if_pos hv (wpAny_pure ⟨rfl, rfl, next⟩)
    · refine wp_if_neg hv (wpAny_bind (wpAny_eqIsQuiet_tuple hk ?_))
      simp only [Bool.not_true, Bool.false_eq_true, if_false]
      refine wpAny_bind (wpAny_eqIsQuiet_tuple hc ?_)
      simp only [Bool.not_true, Bool.false_eq_true, if_false]
      refine wpAny_bind (cls_key hk ?_)
      simp only [Bool.false_eq_true, if_false]
      refine wpAny_bind (cls_key hc ?_)
      simp only [Bool.false_eq_true, if_false]
      exact wpAny_pure ⟨rfl, rfl, next⟩
  · rintro ⟨r1, r2⟩ s' ⟨hr, rfl, _⟩
    simp only at hr
    subst hr
    exact wpAny_pure h
/-! ### the set -/
def rws (P : Program) (w : World) (L : List Row) : List (Int × Value) := L.map fun p => (hsh P w p.2, Value.ref p.1)
abbrev hss (P : Program) (w : World) (L : List Row) : List Int := L.map fun p => hsh P w p.2
/-- the set at a holds the rows L -/
structure SetS (P : Program) (w : World) (h : Heap) (a : Addr) (L : List Row) (es : Array (Int × Value)) (ep : Nat) (t : SetTable) : Prop where
  ob : ∃ o, h.get? a = some o ∧ o.ExactSet ∧ o.data = .set es ep t
  rows : es.toList = rws P w L
  tab : TabOk t (hss P w L)
  nd : (L.map (·.2)).Nodup
  tup : ∀ p ∈ L, Ky P w h p.2 p.1
  led : w.params.followText "set-order" = true ∨ t.led = true
  room : L.length * 5 < t.mask * 3
  few : L.length < 64
theorem rws_len {L : List Row} {es : Array (Int × Value)} (h : es.toList = rws P w L) : es.size = L.length := by
  rw [← Array.length_toList, h]
  exact List.length_map ..
variable {a : Addr} {L : List Row} {es : Array (Int × Value)} {ep : Nat} {t : SetTable}
theorem fits_of {L : List Row} (T : TabOk t (hss P w L)) (hl : L.length ≤ t.mask) {n : Nat} (hn : n = L.length) : t.fits n = true := by
  have h1 := T.sz
  rw [List.length_map] at h1
  unfold SetTable.fits SetTable.fill
  rw [T.dm, Bool.and_eq_true, beq_iff_eq, decide_eq_true_eq]
  show t.place.size = n ∧ t.place.size + 0 ≤ t.mask
  omega
theorem SetS.size (R : SetS P w s.heap a L es ep t) : es.size = L.length := rws_len R.rows
theorem SetS.fits (R : SetS P w s.heap a L es ep t) : t.fits es.size = true := fits_of R.tab (by have := R.room; omega) R.size
theorem SetS.entry (R : SetS P w s.heap a L es ep t) {i : Nat} {p : Row} (h : L[i]? = some p) : es[i]? = some (hsh P w p.2, Value.ref p.1) := by
  rw [← Array.getElem?_toList, R.rows]
  unfold rws
  rw [List.getElem?_map, h] <;> rfl
theorem odd_mask (T : TabOk t (hss P w L)) : ¬ t.gaveWay = true := by
  unfold SetTable.gaveWay
  rw [mask_odd T.mok]
  decide
/-- the way of a key's search -/
abbrev pth (m : Nat) (h : Int) (c : Nat) : SetTable.Probe := nth m (runAt m (SetTable.bits h % (m + 1)) (SetTable.bits h)) c
theorem pth_dummy (m : Nat) (h : Int) (c : Nat) : (pth m h c).dummy = none := by
  have key : ∀ (n : Nat) (p : SetTable.Probe), p.dummy = none → (nth m p n).dummy = none := fun n => by
    induction n with
    | zero => intro p h; exact h
    | succ n ih =>
      intro p h
      refine ih (adv m p) ?_
      unfold adv
      split <;> exact h
  exact key c _ rfl
theorem pth_add (m : Nat) (h : Int) (c q : Nat) : nth m (pth m h c) q = pth m h (c + q) := (nth_add m c _ q).symm
theorem search_go (R : SetS P w s.heap a L es ep t) {x : Addr} {k : List Str} (hx : Ky P w s.heap k x) (hu : A.units < cLine) {N : Nat} (hNf : N < 10 * SetTable.turns t.mask)
    (hN : way t.mask (hsh P w k) N ∉ t.place.toList) (hNb : ∀ c, c < N → way t.mask (hsh P w k) c ∈ t.place.toList) {Q : SetFound → Shared → Prop}
    (hin : k ∈ L.map (·.2) → Q (.there none) s) (hout : k ∉ L.map (·.2) → Q (.free (way t.mask (hsh P w k) N) false) s) :
    ∀ (f c : Nat) (stand : Option SetTable.Probe), stand.getD (t.probeStart (hsh P w k)) = pth t.mask (hsh P w k) c → c ≤ N → N - c < f →
      (∀ (i : Nat) p, L[i]? = some p → p.2 = k → ∃ c', c ≤ c' ∧ c' < N ∧ t.place.toList[i]? = some (way t.mask (hsh P w k) c')) →
      wpAny (model P w) A (setSearchFrom a (.ref x) (hsh P w k) true f stand) Q E s := by
  obtain ⟨o, ho, hex, hd⟩ := R.ob
  intro f
  induction f with
  | zero => intro c _ _ _ hf; exact absurd hf (Nat.not_lt_zero _)
  | succ f ih =>
    intro c stand hst hc hf hre
    rw [setSearchFrom_succ]
    refine wpAny_bind (wpAny_setState_of ho hd R.fits ?_)
    dsimp only
    refine wp_if_neg (odd_mask R.tab) ?_
    try refine wpAny_bind (wpAny_pure ?_)
    have e1 : ∀ q, (nth t.mask (pth t.mask (hsh P w k) c) q).j = way t.mask (hsh P w k) (c + q) := fun q => congrArg SetTable.Probe.j (pth_add t.mask _ c q)
    have ha : ∀ (i : Nat) (p : Row), L[i]? = some p → (fun i => (es[i]?.map (·.1)).getD 0) i = hsh P w p.2 := fun i p hp => by
      show (es[i]?.map (·.1)).getD 0 = _
      rw [R.entry hp] <;> rfl
    rcases go_spec t R.tab.ris R.tab.dm (fun i => (es[i]?.map (·.1)).getD 0) (hsh P w k) (10 * SetTable.turns t.mask) (N - c) _ (pth_dummy t.mask (hsh P w k) c) (by omega)
      (fun q hq => by rw [e1]; exact hNb (c + q) (by omega)) (by rw [e1, show c + (N - c) = N by omega]; exact hN) with ⟨q, i, hq, hi, hh, hno, hpr⟩ | ⟨hno, hpr⟩
    · rw [show t.probe (fun i => (es[i]?.map (·.1)).getD 0) (hsh P w k) (stand.getD (t.probeStart (hsh P w k))) = some (.candidate (way t.mask (hsh P w k) (c + q)) i (pth t.mask (hsh P w k) (c + (q + 1)))) by
        rw [hst, ← e1, ← pth_add]
        exact hpr]
      dsimp only
      rw [e1] at hi
      have hil : i < L.length := by
        have h1 := (List.getElem?_eq_some_iff.mp hi).1
        have h2 := R.tab.sz
        rw [List.length_map] at h2
        rw [Array.length_toList] at h1
        omega
      obtain ⟨p, hp⟩ : ∃ p, L[i]? = some p := ⟨_, List.getElem?_eq_getElem hil⟩
      have hm : p ∈ L := List.mem_of_getElem? hp
      have tail : wpAny (model P w) A (searchRest a (.ref x) (hsh P w k) true f es t (way t.mask (hsh P w k) (c + q)) i (pth t.mask (hsh P w k) (c + (q + 1)))) Q E s := by
        unfold searchRest
        rw [R.entry hp]
        dsimp only
        refine wpAny_bind (wpAny_holding (wpAny_eqBool_tuple hu (R.tup p hm) hx ?_))
        refine wpAny_bind (wpAny_setState_of ho hd R.fits ?_)
        dsimp only
        by_cases hkk : p.2 = k
        · exact wp_if_pos (by simp [hkk]) (wpAny_pure (hin (List.mem_map.mpr ⟨p, hm, hkk⟩)))
        · refine wp_if_neg (by simp [hkk]) ?_
          try refine wpAny_bind (wpAny_pure ?_)
          rw [sameMem]
          dsimp only
          have hsl : t.slot (way t.mask (hsh P w k) (c + q)) = .live i := slot_live R.tab.ris hi
          simp only [if_true, hsl, R.entry hp]
          refine wpAny_bind (wpAny_isSame_ref_self (wpAny_bind (wpAny_pure ?_)))
          simp only [if_true]
          refine wp_if_neg (by simp [hkk]) ?_
          refine ih (c + (q + 1)) _ rfl (by omega) (by omega) fun i0 p0 h0 hk0 => ?_
          obtain ⟨c', a1, a2, a3⟩ := hre i0 p0 h0 hk0
          refine ⟨c', ?_, a2, a3⟩
          rcases Nat.lt_trichotomy c' (c + q) with z | z | z
          · refine absurd ((ha i0 p0 h0).trans (congrArg (hsh P w) hk0)) (hno (c' - c) i0 (by omega) ?_)
            rw [e1, show c + (c' - c) = c' by omega]
            exact a3
          · rw [z] at a3
            have s0 := slot_live R.tab.ris a3
            rw [hsl] at s0
            injection s0 with s0
            rw [← s0, hp] at h0
            exact absurd ((congrArg Prod.snd (Option.some.inj h0)).trans hk0) hkk
          · omega
      by_cases hl : t.led = true
      · refine wp_if_neg (by simp [hl]) ?_
        try refine wpAny_bind (wpAny_pure ?_)
        exact tail
      · refine wp_if_pos (by simp [hl]) (wpAny_bind (unseen hx (fun y hy => ?_) ?_))
        · obtain ⟨e, he, ee⟩ := List.mem_map.mp hy
          have he1 : e ∈ es ∧ e.1 = hsh P w k := by simpa using he
          have he2 : e ∈ es.toList := by simpa using he1.1
          rw [R.rows] at he2
          obtain ⟨p2, hp2, e2⟩ := List.mem_map.mp he2
          exact ⟨p2.2, p2.1, by rw [← ee, ← e2], R.tup p2 hp2⟩
        · refine wp_if_neg (by decide) ?_
          try refine wpAny_bind (wpAny_pure ?_)
          exact tail
    · rw [show t.probe (fun i => (es[i]?.map (·.1)).getD 0) (hsh P w k) (stand.getD (t.probeStart (hsh P w k))) = some (.empty (way t.mask (hsh P w k) N) none) by
        have e2 : way t.mask (hsh P w k) N = (nth t.mask (pth t.mask (hsh P w k) c) (N - c)).j := by rw [e1, show c + (N - c) = N by omega]
        rw [hst, e2]
        exact hpr]
      dsimp only
      refine wpAny_pure (hout fun hm => ?_)
      obtain ⟨p0, h0, hk0⟩ := List.mem_map.mp hm
      obtain ⟨i0, hi0, e0⟩ := List.getElem_of_mem h0
      have h00 : L[i0]? = some p0 := by rw [List.getElem?_eq_getElem hi0, e0]
      obtain ⟨c', a1, a2, a3⟩ := hre i0 p0 h00 hk0
      refine hno (c' - c) i0 (by omega) ?_ ((ha i0 p0 h00).trans (congrArg (hsh P w) hk0))
      rw [e1, show c + (c' - c) = c' by omega]
      exact a3
theorem search_key (R : SetS P w s.heap a L es ep t) {x : Addr} {k : List Str} (hx : Ky P w s.heap k x) (hu : A.units < cLine) {Q : SetFound → Shared → Prop} (hin : k ∈ L.map (·.2) → Q (.there none) s)
    (hout : ∀ N, k ∉ L.map (·.2) → way t.mask (hsh P w k) N ∉ t.place.toList → (∀ c, c < N → way t.mask (hsh P w k) c ∈ t.place.toList) → Q (.free (way t.mask (hsh P w k) N) false) s) :
    wpAny (model P w) A (setSearch a (.ref x) (hsh P w k) true) Q E s := by
  have hroom := R.room
  obtain ⟨N, hNf, hN, hNb⟩ := R.tab.first (by rw [List.length_map]; omega) (hsh P w k)
  have hbig : N < 100000 := by
    have : 10 * SetTable.turns t.mask ≤ 1420 := by
      unfold SetTable.turns
      rcases R.tab.mok with e | e | e <;> omega
    omega
  unfold setSearch
  refine search_go R hx hu hNf hN hNb hin (fun hn => hout N hn hN hNb) 100000 0 none rfl (Nat.zero_le _) (by omega) fun i p hp hk => ?_
  have hi : (hss P w L)[i]? = some (hsh P w k) := by rw [List.getElem?_map, hp, ← hk] <;> rfl
  have hil : i < t.place.toList.length := by
    have h1 := (List.getElem?_eq_some_iff.mp hp).1
    have h2 := R.tab.sz
    rw [List.length_map] at h2
    rw [Array.length_toList]
    omega
  obtain ⟨c, hc, e⟩ := R.tab.before hN hi (List.getElem?_eq_getElem hil)
  exact ⟨c, Nat.zero_le _, hc, by rw [List.getElem?_eq_getElem hil, e]⟩
/-! ### one more, and the table laid anew -/
theorem ky_same {h h' : Heap} {k : List Str} {a b : Addr} {o : Obj} {es : Array (Int × Value)} {ep : Nat} {t : SetTable} (hb : Ky P w h k b) (ho : h.get? a = some o) (hd : o.data = .set es ep t) (hs : Heap.SameBut a h h') : Ky P w h' k b := by
  obtain ⟨o', items, n, ho', hc, hd', hi⟩ := hb
  refine ⟨o', items, n, (hs.2 b fun z => ?_).trans ho', hc, hd', hi⟩
  subst z
  rw [ho] at ho'
  rw [← Option.some.inj ho', hd] at hd'
  cases hd'
theorem ky_keep {h h' : Heap} {k : List Str} {b : Addr} (x : Ky P w h k b) (hk : ∀ c o, h.get? c = some o → h'.get? c = some o) : Ky P w h' k b := by
  obtain ⟨o, items, n, ho, r⟩ := x
  exact ⟨o, items, n, hk b o ho, r⟩
theorem rws_order {L : List Row} {es : Array (Int × Value)} {order : Array Nat} (hr : es.toList = rws P w L) (hp : order.toList.Perm (List.range L.length)) :
    ∃ L2, (order.filterMap (es[·]?)).toList = rws P w L2 ∧ L2.Perm L ∧ hss P w L2 = order.toList.map fun i => (es.map (·.1)).getD i 0 := by
  have hsz := rws_len hr
  have ent : ∀ i (h : i < L.length), es[i]? = some (hsh P w (L[i]).2, Value.ref (L[i]).1) := fun i h => by
    rw [← Array.getElem?_toList, hr]
    unfold rws
    rw [List.getElem?_map, List.getElem?_eq_getElem h] <;> rfl
  have go : ∀ l : List Nat, (∀ i ∈ l, i < L.length) → l.filterMap (fun i => es[i]?) = rws P w (l.filterMap fun i => L[i]?) ∧ hss P w (l.filterMap fun i => L[i]?) = l.map fun i => (es.map (·.1)).getD i 0 := by
    intro l
    induction l with
    | nil => intro _; exact ⟨rfl, rfl⟩
    | cons i l ih =>
      intro hl
      have hi := hl i List.mem_cons_self
      obtain ⟨e1, e2⟩ := ih fun j hj => hl j (List.mem_cons_of_mem _ hj)
      have e5 : (es.map (·.1))[i]? = some (hsh P w (L[i]).2) := by rw [Array.getElem?_map, ent i hi] <;> rfl
      rw [List.filterMap_cons_some (ent i hi), List.filterMap_cons_some (List.getElem?_eq_getElem hi), e1]
      refine ⟨rfl, ?_⟩
      show hsh P w (L[i]).2 :: hss P w _ = (es.map (·.1)).getD i 0 :: _
      rw [e2, Array.getD_eq_getD_getElem?, e5] <;> rfl
  obtain ⟨e1, e2⟩ := go order.toList fun i hi => List.mem_range.mp (hp.mem_iff.mp hi)
  refine ⟨order.toList.filterMap fun i => L[i]?, by first | (rw [Array.toList_filterMap]; exact e1) | simpa using e1, ?_, e2⟩
  have all : ∀ n, n ≤ L.length → (List.range n).filterMap (fun i => L[i]?) = L.take n := by
    intro n
    induction n with
    | zero => intro _; rfl
    | succ n ih =>
      intro hn
      have hlt : n < L.length := hn
      rw [List.range_succ, List.filterMap_append, ih (Nat.le_of_lt hlt), List.take_succ, List.getElem?_eq_getElem hlt, List.filterMap_cons_some (List.getElem?_eq_getElem hlt)] <;> rfl
  have q := hp.filterMap fun i => L[i]?
  rw [all L.length (Nat.le_refl _), List.take_length] at q
  exact q
theorem relay_key {o : Obj} (ho : s.heap.get? a = some o) (hex : o.ExactSet) (hd : o.data = .set es ep t) (hrows : es.toList = rws P w L) (T0 : TabOk t (hss P w L)) (hfl : L.length ≤ t.mask)
    (nd : (L.map (·.2)).Nodup) (tup : ∀ p ∈ L, Ky P w s.heap p.2 p.1) (ld : w.params.followText "set-order" = true ∨ t.led = true) (few : L.length < 64) {wanted M : Nat}
    (hw : SetTable.sizeAbove wanted - 1 = M) (hM : MaskOk M) (hw2 : SetTable.sizeAbove wanted ≤ 128) (hn : L.length * 5 < M * 3) {Q : Unit → Shared → Prop}
    (hQ : ∀ h' L' es' ep' t', Heap.SameBut a s.heap h' → SetS P w h' a L' es' ep' t' → L'.Perm L → Q () { s with heap := h' }) : wpAny (model P w) A (setRelay a wanted) Q E s := by
  have hsl := rws_len hrows
  obtain ⟨t', order, e, hp, T, em, el, _, _⟩ := relaid_ok t (hs := es.map (·.1)) (wanted := wanted) hw hM (by rw [Array.size_map, hsl]; omega)
  rw [Array.size_map, hsl] at hp
  obtain ⟨L2, r1, r2, r3⟩ := rws_order hrows hp
  rw [← r3] at T
  have hs2 : (order.filterMap (es[·]?)).size = es.size := by rw [rws_len r1, r2.length_eq, hsl]
  rw [setRelay_eq]
  refine wpAny_bind (wpAny_setState_of ho hd (fits_of T0 hfl hsl) ?_)
  dsimp only
  refine wp_if_neg (by rw [sizeLine_eq]; omega) ?_
  try refine wpAny_bind (wpAny_pure ?_)
  rw [e]
  dsimp only
  refine wpAny_bind (wp_if_neg (by rw [hs2]; simp) ?_)
  try refine wpAny_bind (wpAny_pure ?_)
  refine wpAny_pure ?_
  dsimp only
  refine wpAny_storeSet_of ho hd ?_ (by rw [hs2, hsl, sizeLine_eq]; omega)
  have sb : Heap.SameBut a s.heap (s.heap.update a (Obj.putSet (order.filterMap (es[·]?)) t')) := Heap.SameBut.update ..
  refine hQ _ L2 _ (ep + 1) t' sb ⟨⟨_, store_at ho hd, ⟨hex.1, hex.2.1, hex.2.2⟩, rfl⟩, r1, T, (r2.map (·.2)).nodup_iff.mpr nd, fun p hpm => ky_same (tup p (r2.mem_iff.mp hpm)) ho hd sb, by rw [el]; exact ld, ?_, by rw [r2.length_eq]; exact few⟩ r2
  rw [r2.length_eq, em]
  exact hn
theorem add_key (R : SetS P w s.heap a L es ep t) {x : Addr} {k : List Str} (hx : Ky P w s.heap k x) (hu : A.units < cLine) (hfew : k ∉ L.map (·.2) → L.length + 1 < 64) {Q : Bool → Shared → Prop}
    (hQ : ∀ b h' L' es' ep' t', Heap.SameBut a s.heap h' → SetS P w h' a L' es' ep' t' → (k ∈ L.map (·.2) → L' = L) → (k ∉ L.map (·.2) → L'.Perm ((x, k) :: L)) → Q b { s with heap := h' }) :
    wpAny (model P w) A (setAddHashed a (.ref x) (hsh P w k)) Q E s := by
  obtain ⟨o, ho, hex, hd⟩ := R.ob
  have hsl := R.size
  have hroom := R.room
  unfold setAddHashed
  refine wpAny_holding ?_
  rw [show (100000 : Nat) = 99999 + 1 from rfl, setAddHashedIn_succ]
  refine wpAny_bind (wpAny_setState_of ho hd R.fits ?_)
  dsimp only
  refine wp_if_neg (by simp [byScan, Value.scannable]) ?_
  try refine wpAny_bind (wpAny_pure ?_)
  refine wpAny_bind (search_key R hx hu (fun hm => ?_) fun N hm hN hb => ?_)
  · dsimp only
    exact wpAny_pure (hQ false s.heap L es ep t (Heap.SameBut.refl a s.heap) R (fun _ => rfl) fun z => absurd hm z)
  · have hfew := hfew hm
    dsimp only
    refine wpAny_bind (wpAny_setState_of ho hd R.fits ?_)
    dsimp only
    obtain ⟨q1, q2, q3, q4, q5, q6, q7, q8, q9⟩ := R.tab.put hN hb
    generalize hpt : t.put (way t.mask (hsh P w k) N) = pt at q1 q3 q4 q5 q6 q7 q8 q9 ⊢
    obtain ⟨t1, p⟩ := pt
    dsimp only at q1 q3 q4 q5 q6 q7 q8 q9 ⊢
    subst q1
    -- the mark for walks may fall, the table stays
    have rest : ∀ c : Bool, wpAny (model P w) A (do
        storeSet a (SetTable.insertAt es (SetTable.below t.place (way t.mask (hsh P w k) N)) (hsh P w k, Value.ref x)) (if c = true then t1 else { t1 with plain := false })
        if !false && (if c = true then t1 else { t1 with plain := false }).tooFull then setRelay a (SetTable.grown (es.size + 1))
        return true : Sem Bool) Q E s := by
      intro c
      have T1 : TabOk (if c = true then t1 else { t1 with plain := false }) ((hss P w L).take (SetTable.below t.place (way t.mask (hsh P w k) N)) ++ hsh P w k :: (hss P w L).drop (SetTable.below t.place (way t.mask (hsh P w k) N))) := by
        cases c
        · exact ⟨q3.ris, q3.dm, q3.sz, q3.mok, q3.bd, q3.reach⟩
        · exact q3
      have m1 : (if c = true then t1 else { t1 with plain := false }).mask = t.mask := by cases c <;> exact q4
      have l1 : (if c = true then t1 else { t1 with plain := false }).led = t.led := by cases c <;> exact q5
      have f1 : (if c = true then t1 else { t1 with plain := false }).fill = (hss P w L).length + 1 := by cases c <;> exact q9
      generalize (if c = true then t1 else { t1 with plain := false }) = t2 at T1 m1 l1 f1 ⊢
      generalize hpp : SetTable.below t.place (way t.mask (hsh P w k) N) = p at q2 T1 ⊢
      have pm := put_perm L p (x, k)
      have hlen : (L.take p ++ (x, k) :: L.drop p).length = L.length + 1 := pm.length_eq
      have hin : (SetTable.insertAt es p (hsh P w k, Value.ref x)).toList = rws P w (L.take p ++ (x, k) :: L.drop p) := by
        rw [SetTable.toList_insertAt, R.rows]
        unfold rws
        rw [List.map_append, List.map_cons, List.map_take, List.map_drop]
      have hhs : (hss P w L).take p ++ hsh P w k :: (hss P w L).drop p = hss P w (L.take p ++ (x, k) :: L.drop p) := by
        unfold hss
        rw [List.map_append, List.map_cons, List.map_take, List.map_drop]
      rw [hhs] at T1
      have nd1 : ((L.take p ++ (x, k) :: L.drop p).map (·.2)).Nodup := (pm.map (·.2)).nodup_iff.mpr (List.nodup_cons.mpr ⟨hm, R.nd⟩)
      generalize SetTable.insertAt es p (hsh P w k, Value.ref x) = es1 at hin ⊢
      generalize L.take p ++ (x, k) :: L.drop p = L1 at pm hlen T1 nd1 hin
      have hes : es1.size = L.length + 1 := by rw [rws_len hin, hlen]
      refine wpAny_bind (wpAny_storeSet_of ho hd ?_ (by rw [hes, sizeLine_eq]; omega))
      have sb : Heap.SameBut a s.heap (s.heap.update a (Obj.putSet es1 t2)) := Heap.SameBut.update ..
      have ho1 := store_at (es' := es1) (t' := t2) ho hd
      generalize s.heap.update a (Obj.putSet es1 t2) = h1 at sb ho1 ⊢
      have tup1 : ∀ p ∈ L1, Ky P w h1 p.2 p.1 := fun p hp => by
        rcases List.mem_cons.mp (pm.mem_iff.mp hp) with e | hp
        · rw [e]; exact ky_same hx ho hd sb
        · exact ky_same (R.tup p hp) ho hd sb
      have ld1 : w.params.followText "set-order" = true ∨ t2.led = true := by rw [l1]; exact R.led
      rw [List.length_map] at f1
      by_cases hf : t2.tooFull = true
      · have hfull : (L.length + 1) * 5 ≥ t2.mask * 3 := by
          have h := hf
          unfold SetTable.tooFull at h
          rw [decide_eq_true_eq, f1] at h
          exact h
        rw [m1] at hfull
        have two : (t.mask = 7 ∧ L.length = 4) ∨ (t.mask = 31 ∧ L.length = 18) := by
          rcases R.tab.mok with e | e | e
          · left; rw [e] at hfull hroom; exact ⟨e, by omega⟩
          · right; rw [e] at hfull hroom; exact ⟨e, by omega⟩
          · exfalso; rw [e] at hfull; omega
        have go : ∀ M, SetTable.sizeAbove (SetTable.grown (L.length + 1)) - 1 = M → MaskOk M → SetTable.sizeAbove (SetTable.grown (L.length + 1)) ≤ 128 → (L.length + 1) * 5 < M * 3 →
            wpAny (model P w) A (setRelay a (SetTable.grown (L.length + 1))) (fun _ s' => wpAny (model P w) A (pure true) Q E s') E { s with heap := h1 } := fun M h1' h2' h3' h4' =>
          relay_key (s := { s with heap := h1 }) ho1 ⟨hex.1, hex.2.1, hex.2.2⟩ rfl hin T1 (by rw [hlen, m1]; rcases two with ⟨e, e2⟩ | ⟨e, e2⟩ <;> omega) nd1 tup1 ld1 (by rw [hlen]; exact hfew) h1' h2' h3' (by rw [hlen]; exact h4')
            fun h2 L2 es2 ep2 t3 sb2 R2 pm2 => wpAny_pure (hQ true h2 L2 es2 ep2 t3 (sb.trans sb2) R2 (fun z => absurd z hm) fun _ => pm2.trans pm)
        rw [hsl]
        first
          | (refine wpAny_bind ?_; refine wp_if_pos (by simp [hf]) ?_)
          | (refine wp_if_pos (by simp [hf]) ?_; refine wpAny_bind ?_)
        rcases two with ⟨_, e2⟩ | ⟨_, e2⟩
        · exact go 31 (by rw [e2, size_20]) (.inr (.inl rfl)) (by rw [e2, size_20]; decide) (by omega)
        · exact go 127 (by rw [e2, size_76]) (.inr (.inr rfl)) (by rw [e2, size_76]; decide) (by omega)
      · first
          | refine wp_if_neg (by simp [hf]) ?_
          | (refine wpAny_bind ?_; refine wp_if_neg (by simp [hf]) ?_; refine wpAny_pure ?_)
        refine wpAny_pure (hQ true h1 L1 es1 (ep + 1) t2 sb ⟨⟨_, ho1, ⟨hex.1, hex.2.1, hex.2.2⟩, rfl⟩, hin, T1, nd1, tup1, ld1, ?_, by rw [hlen]; exact hfew⟩ (fun z => absurd z hm) fun _ => pm)
        have h := hf
        unfold SetTable.tooFull at h
        rw [decide_eq_true_eq, f1] at h
        rw [hlen]
        omega
    by_cases hpl : t1.plain = true
    · first
        | (refine wpAny_bind ?_; refine wp_if_pos hpl ?_; exact byv_key hx fun c => rest c)
        | exact wp_if_pos hpl (wpAny_bind (byv_key hx fun c => rest c))
    · first
        | (refine wpAny_bind ?_; refine wp_if_neg hpl ?_; exact wpAny_pure (rest true))
        | exact wp_if_neg hpl (wpAny_bind (wpAny_pure (rest true)))
/-! ### from a list or a tuple -/
theorem nodup_le {α : Type} [BEq α] [LawfulBEq α] : ∀ (l U : List α), l.Nodup → (∀ x ∈ l, x ∈ U) → l.length ≤ U.length
  | [], _, _, _ => Nat.zero_le _
  | x :: l, U, hn, hs => by
    obtain ⟨h1, h2⟩ := List.nodup_cons.mp hn
    have hx := hs x List.mem_cons_self
    have ih := nodup_le l (U.erase x) h2 fun y hy => (List.mem_erase_of_ne fun e => h1 (by rw [← e]; exact hy)).2 (hs y (List.mem_cons_of_mem _ hy))
    have e := List.length_erase_of_mem hx
    have hp := List.length_pos_of_mem hx
    rw [List.length_cons]
    omega
/-- what the set has of the first i items -/
structure Has (ks : List Row) (i : Nat) (L : List Row) : Prop where
  sub : ∀ p ∈ L, p ∈ ks.take i
  all : ∀ p ∈ ks.take i, p.2 ∈ L.map (·.2)
theorem Has.start (ks : List Row) : Has ks 0 [] := ⟨fun p h => (by cases h), fun p h => (by simp at h)⟩
theorem Has.next {ks L L' : List Row} {i : Nat} {x : Row} (g : Has ks i L) (h : ks[i]? = some x) (c1 : x.2 ∈ L.map (·.2) → L' = L) (c2 : x.2 ∉ L.map (·.2) → L'.Perm (x :: L)) : Has ks (i + 1) L' := by
  have tk : ks.take (i + 1) = ks.take i ++ [x] := by rw [List.take_succ, h] <;> rfl
  rcases Classical.em (x.2 ∈ L.map (·.2)) with c | c
  · rw [c1 c]
    refine ⟨fun p hp => by rw [tk]; exact List.mem_append_left _ (g.sub p hp), fun p hp => ?_⟩
    rw [tk] at hp
    rcases List.mem_append.mp hp with z | z
    · exact g.all p z
    · rw [List.mem_singleton.mp z]; exact c
  · have pm := c2 c
    refine ⟨fun p hp => ?_, fun p hp => ?_⟩
    · rw [tk]
      rcases List.mem_cons.mp (pm.mem_iff.mp hp) with e | z
      · rw [e]; exact List.mem_append_right _ (List.mem_singleton.mpr rfl)
      · exact List.mem_append_left _ (g.sub p z)
    · rw [(pm.map (·.2)).mem_iff, List.map_cons]
      rw [tk] at hp
      rcases List.mem_append.mp hp with z | z
      · exact List.mem_cons_of_mem _ (g.all p z)
      · rw [List.mem_singleton.mp z]; exact List.mem_cons_self
theorem SetS.keep {h h' : Heap} (R : SetS P w h a L es ep t) (ha : ∀ o, h.get? a = some o → h'.get? a = some o) (ht : ∀ p ∈ L, Ky P w h' p.2 p.1) : SetS P w h' a L es ep t := by
  obtain ⟨o, ho, r⟩ := R.ob
  exact ⟨⟨o, ha o ho, r⟩, R.rows, R.tab, R.nd, ht, R.led, R.room, R.few⟩
abbrev newS (w : World) : Obj := { cls := .type "set", dict := none, data := .set #[] 0 (.fresh 0 0 (!w.params.followText "set-order")) }
theorem setS_new {h : Heap} (ho : h.get? a = some (newS w)) : SetS P w h a [] #[] 0 (.fresh 0 0 (!w.params.followText "set-order")) where
  ob := ⟨_, ho, ⟨rfl, rfl, rfl⟩, rfl⟩
  rows := rfl
  tab := ⟨List.Pairwise.nil, rfl, rfl, .inl rfl, fun x hx => (by cases hx), fun i h j hi => (by simp at hi)⟩
  nd := List.nodup_nil
  tup := fun p hp => (by cases hp)
  led := by
    show _ ∨ (!w.params.followText "set-order") = true
    cases w.params.followText "set-order"
    · exact .inr rfl
    · exact .inl rfl
  room := show 0 * 5 < 7 * 3 by decide
  few := show 0 < 64 by decide
theorem update_go {I : Addr} {fp wr : List Addr} {G : Array GenState → Array GenState → Prop} {n : Nat} {Pv : Nat → Value → Prop} {St : Nat → Shared → Prop} {R : Result → Shared → Prop}
    (W : WalksS P w A.in1 I fp wr G n Pv St) (S : Addr) (hSf : S ∉ fp) (ks : List Row) (U : List (List Str)) (hn : n = ks.length) (hU : ∀ p ∈ ks, p.2 ∈ U) (hfew : U.length < 64) (hval : ∀ i v, Pv i v → ∃ p, ks[i]? = some p ∧ v = .ref p.1)
    (h0 : Heap) (hk : ∀ p ∈ ks, Ky P w h0 p.2 p.1) (hS0 : h0.get? S = none) (hw0 : ∀ b ∈ wr, h0.get? b = none) (hu : A.in1.units < cLine) :
    ∀ (k i : Nat) (s : Shared), n - i = k → i ≤ n → St i s → (∀ b o, h0.get? b = some o → s.heap.get? b = some o) → (∃ L es ep t, SetS P w s.heap S L es ep t ∧ Has ks i L) →
      (∀ s' L es ep t, Moved (S :: wr) G s s' → SetS P w s'.heap S L es ep t → Has ks n L → (∀ b o, h0.get? b = some o → s'.heap.get? b = some o) → R (.ok (.ret .none)) s') →
      codeAny (model P w) A (.builtin "set.update.loop" ⟨[.ref S, .ref I], []⟩) R s := by
  have hSw : S ∉ wr := fun h => hSf (W.sub _ h)
  have hsub : ∀ b ∈ wr, b ∈ S :: wr := fun b hb => List.mem_cons_of_mem _ hb
  have keepM : ∀ {s s' : Shared}, Moved wr G s s' → (∀ b o, h0.get? b = some o → s.heap.get? b = some o) → ∀ b o, h0.get? b = some o → s'.heap.get? b = some o := fun hm hkp b o e =>
    hm.heap b o (fun hb => by rw [hw0 b hb] at e; cases e) (hkp b o e)
  intro k
  induction k with
  | zero =>
    intro i s hk' hi hst hkp ⟨L, es, ep, t, hS, g⟩ hR
    obtain rfl : i = n := by omega
    refine codeAny_builtin F.entry_set_update_loop ?_
    rw [Around.under_plainId F.plain_set_update_loop _]
    show wpAny _ A.in1 (pyNext (.ref I) >>= _) _ _ s
    refine wpAny_bind (W.done s _ _ hst fun s' hm => ?_)
    show wpAny _ A.in1 (ret Value.none) _ _ s'
    have hkp' := keepM hm hkp
    exact wpAny_pure (hR s' L es ep t (hm.mono hsub) (hS.keep (fun o e => hm.heap S o hSw e) fun p hp => ky_keep (hk p (List.mem_of_mem_take (g.sub p hp))) hkp') g hkp')
  | succ k ih =>
    intro i s hk' hi hst hkp ⟨L, es, ep, t, hS, g⟩ hR
    have hlt : i < n := by omega
    refine codeAny_builtin F.entry_set_update_loop ?_
    rw [Around.under_plainId F.plain_set_update_loop _]
    show wpAny _ A.in1 (pyNext (.ref I) >>= _) _ _ s
    refine wpAny_bind (W.item i s _ _ hlt hst fun v s' hP hst' hm => ?_)
    obtain ⟨p, hp, rfl⟩ := hval i v hP
    have hkp' := keepM hm hkp
    have hpk : p ∈ ks := List.mem_of_getElem? hp
    have hS' : SetS P w s'.heap S L es ep t := hS.keep (fun o e => hm.heap S o hSw e) fun q hq => ky_keep (hk q (List.mem_of_mem_take (g.sub q hq))) hkp'
    have hx : Ky P w s'.heap p.2 p.1 := ky_keep (hk p hpk) hkp'
    have few : p.2 ∉ L.map (·.2) → L.length + 1 < 64 := fun hm => by
      have q := nodup_le (p.2 :: L.map (·.2)) U (List.nodup_cons.mpr ⟨hm, hS.nd⟩) fun y hy => by
        rcases List.mem_cons.mp hy with e | hy
        · rw [e]; exact hU p hpk
        · obtain ⟨r, hr, e⟩ := List.mem_map.mp hy
          rw [← e]
          exact hU r (List.mem_of_mem_take (g.sub r hr))
      rw [List.length_cons, List.length_map] at q
      omega
    show wpAny _ A.in1 (holding [Value.ref p.1] (setAdd S (.ref p.1)) >>= _) _ _ s'
    refine wpAny_bind (wpAny_holding ?_)
    unfold setAdd
    refine wpAny_holding (wpAny_bind (wpAny_pyHash_tuple hu hx ?_))
    refine add_key (s := { s' with toks := s'.toks + (p.2.length + 1) }) hS' hx hu few fun b h' L' es' ep' t' hsb hS2 c1 c2 => ?_
    have hkp2 : ∀ b o, h0.get? b = some o → h'.get? b = some o := fun b o e => (hsb.2 b (fun z => by rw [z, hS0] at e; cases e)).trans (hkp' b o e)
    refine wpAny_pure ⟨plainId_quiet F.plain_set_update_loop _, ih (i + 1) _ (by omega) hlt (W.frame _ s' _ _ hst' (Nat.le_add_right _ _) fun b hb o e => ?_) hkp2 ⟨L', es', ep', t', hS2, g.next hp c1 c2⟩ fun s'' L2 es2 ep2 t2 hm'' hS'' g'' hkp'' => ?_⟩
    · rw [hsb.2 b (fun h : b = S => hSf (by rw [← h]; exact hb))]; exact e
    · refine hR s'' L2 es2 ep2 t2 (Moved.trans W.gtrans ((hm.mono hsub).then_heap (Nat.le_add_right _ _) fun b o hb e => ?_) hm'') hS'' g'' hkp''
      rw [hsb.2 b (fun h : b = S => hb (by rw [h]; exact List.mem_cons_self))]; exact e
set_option maxHeartbeats 3200000 in
/-- set(v), v at l an object of the type T that begins by o1 and is walked by W -/
theorem set_of {l : Addr} {items : Array Value} {T : String} (fs : isSubtype (.type T) (.type "set") = pure false) (ff : isSubtype (.type T) (.type "frozenset") = pure false) (fd : (Value.type T == Value.type "dict") = false)
    {o o1 : Obj} {Hh : Heap → Prop} (ho : s.heap.get? l = some o) (hc : o.cls = .type T) (B : Begins (.ref l) o1 Hh) (hH : Hh s.heap) {St : Addr → Nat → Heap → Prop}
    (W : ∀ (it : Addr) (A' : Around), l ≠ it → A'.handled = none → Walks P w A' it [it, l] [it] items.size (fun i v => items[i]? = some v) (St it)) (hSt : ∀ it h', h'.get? it = some o1 → Hh h' → St it 0 h')
    (ks : List Row) (U : List (List Str)) (hh : A.handled = none) (hit : items.toList = ks.map fun p => Value.ref p.1) (hk : ∀ p ∈ ks, Ky P w s.heap p.2 p.1) (hU : ∀ p ∈ ks, p.2 ∈ U) (hfew : U.length < 64) (hu : A.units + 3 < cLine) {Q : Value → Shared → Prop}
    (h : ∀ (h' : Heap) (tk : Nat) L es ep t, SetS P w h' s.heap.objs.size L es ep t → Has ks ks.length L → (∀ b o, s.heap.get? b = some o → h'.get? b = some o) → Q (.ref s.heap.objs.size) { s with heap := h', toks := tk }) :
    wpAny (model P w) A (call (.type "set") [.ref l]) Q E s := by
  have hisz : items.size = ks.length := by
    have q := congrArg List.length hit
    rw [Array.length_toList, List.length_map] at q
    exact q
  obtain ⟨c, tl, hmro⟩ := F.called_set.mro
  have hmade := F.called_set.made
  have hsub := F.called_set.sub
  refine wpAny_call (codeAny_of_tree ?_)
  show wpAny _ _ (callAny (.type "set") _) _ _ _
  refine wpAny_pure ⟨Code.quiet_builtin _ (by decide +kernel), codeAny_builtin F.entry_type_call ?_⟩
  rw [Around.under_plain (weight_type_call_type "set" [.ref l] []) rfl]
  have h1 := F.called_set.notType
  have h2 := F.called_set.canCreate
  have hct := F.typeCall_set_1 (.ref l)
  repeat (any_goals (first | assumption | wp_step))
  refine codeAny_mono (code_set_led1 (.ref l) (E := E) (Q₁ := fun obj s₁ => obj = .ref s.heap.objs.size ∧ s₁ = { s with heap := s.heap.push (newS w) }) ⟨rfl, rfl⟩) fun r s₁ hr => ?_
  cases r with
  | error e => exact hr
  | ok fl =>
    cases fl with
    | ret obj =>
      obtain ⟨rfl, rfl⟩ := hr
      have hS : (s.heap.push (newS w)).get? s.heap.objs.size = some (newS w) := Heap.get?_push_size _ rfl
      have hT : Shared.TypeIs { s with heap := s.heap.push (newS w) } (.ref s.heap.objs.size) "set" := ⟨_, hS, rfl⟩
      have hli := F.called_set.init.lookup
      have hbi := F.called_set.init.bind (.ref s.heap.objs.size)
      repeat (any_goals (first | assumption | wp_step))
      refine codeAny_mono (codeAny_call_builtin (R := wants (fun r s₂ => r = .none ∧ ∃ h' tk L es ep t, s₂ = { s with heap := h', toks := tk } ∧ SetS P w h' s.heap.objs.size L es ep t ∧ Has ks ks.length L ∧
          (∀ b o, s.heap.get? b = some o → h'.get? b = some o)) E) F.called_set.init.plain F.entry_set_init (check_set_init_1 hT ?_)) fun r₂ s₂ hr₂ => ?_
      · obtain ⟨ocls, odict, odata, oslots⟩ := o
        simp only at hc
        subst hc
        have hol' := Heap.get?_push_of_some (newS w) ho
        have hz1 : (s.heap.push (newS w)).objs.size = s.heap.objs.size + 1 := Heap.size_push ..
        have hlS : l < s.heap.objs.size := Heap.lt_size ho
        have hH1 : Hh (s.heap.push (newS w)) := B.keeps _ _ hH fun b o' e => Heap.get?_push_of_some _ e
        have none_of : ∀ b, s.heap.objs.size ≤ b → s.heap.get? b = none := fun b hb => by
          cases q : s.heap.get? b with
          | none => rfl
          | some o => exact absurd (Nat.lt_of_lt_of_le (Heap.lt_size q) hb) (Nat.lt_irrefl _)
        unfold Builtin.«set.__init__» noKeywords Builtin.Frozenset.updateFrom
        generalize hPI : pyIter = PI
        wp_walk
        subst hPI
        refine B.iter _ _ _ _ _ _ hH1 ?_
        refine wpAny_bind (wpAny_runValue ?_)
        show codeAny _ _ (.builtin "set.update.loop" ⟨[.ref s.heap.objs.size, .ref (s.heap.push (newS w)).objs.size], []⟩) _ _
        rw [hz1]
        have hneI : l ≠ s.heap.objs.size + 1 := Nat.ne_of_lt (Nat.lt_succ_of_lt hlS)
        refine update_go ((W (s.heap.objs.size + 1) _ hneI (by simp [hh])).toS) s.heap.objs.size (fun q => by
            rcases List.mem_cons.mp q with q | q
            · exact Nat.ne_of_lt (Nat.lt_succ_self _) q
            · exact Nat.ne_of_gt hlS (List.mem_singleton.mp q)) ks U hisz hU hfew (fun i v hv => ?_) s.heap hk (none_of _ (Nat.le_refl _)) (fun b hb => none_of b (by
            rw [List.mem_singleton.mp hb]
            exact Nat.le_succ _)) hu (items.size - 0) 0 _ (by omega) (Nat.zero_le _) ?_ (fun b o e => Heap.get?_push_of_some _ (Heap.get?_push_of_some _ e)) ?_ ?_
        · have q : items.toList[i]? = some v := by rw [Array.getElem?_toList]; exact hv
          rw [hit, List.getElem?_map] at q
          obtain ⟨p, hq, e⟩ := Option.map_eq_some_iff.mp q
          exact ⟨p, hq, e.symm⟩
        · refine hSt _ _ ?_ (B.keeps _ _ hH1 fun b o' e => Heap.get?_push_of_some _ e)
          rw [← hz1]
          exact Heap.get?_push_size _ B.free
        · exact ⟨[], #[], 0, _, setS_new (Heap.get?_push_of_some _ hS), Has.start ks⟩
        · intro s' L es ep t hm hS' g' hkp
          obtain ⟨h', g2, d', tk', os'⟩ := s'
          have eg : g2 = s.gens := hm.gens
          have ed : d' = s.drawn := hm.drawn
          have eo : os' = s.os := hm.os
          subst eg
          subst ed
          subst eo
          show wpAny _ _ _ _ _ _
          refine wpAny_pure ?_
          show wpAny _ _ (ret Value.none) _ _ _
          rw [hisz] at g'
          exact wpAny_pure ⟨rfl, h', tk', L, es, ep, t, rfl, hS', g', hkp⟩
      · cases r₂ with
        | error e => exact hr₂
        | ok fl₂ =>
          cases fl₂ with
          | ret r =>
            obtain ⟨rfl, h', tk, L, es, ep, t, rfl, hS', g', hk'⟩ := hr₂
            repeat (any_goals (first | assumption | wp_step))
            exact h _ _ _ _ _ _ hS' g' hk'
          | _ => exact hr₂.elim
    | _ => exact hr.elim
end
end K16S
/-! ## part Sort -/
set_option Elab.async false
set_option linter.all false
set_option maxRecDepth 100000
set_option maxHeartbeats 1000000
/-! sorting tuples of which some may be empty -/
namespace K16Q
open PySem PySem.Calls PyProof.Rows PySem.W PySem.SeqAt
theorem call_tuple_lt {A : Around} {s : Shared} {prog : Program} {w : World} {E : Value → Shared → Prop} {Q : Value → Shared → Prop} {l b : Addr} {items items2 : Array Value} {e r : Nat → Bool} (hl : s.heap.IsTuple l items) (hb : s.heap.IsTuple b items2)
    (he : ∀ j (h1 : j < items.size) (h2 : j < items2.size), EqAt A.in1 s items[j] items2[j] (e j)) (hr : ∀ j (h1 : j < items.size) (h2 : j < items2.size), e j = false → RcLt A.in1 s items[j] items2[j] (r j))
    (h : Q (.bool (firstLt e r (decide (items.size < items2.size)) (List.range (min items.size items2.size)))) s) : wpAny (model prog w) A (call (.builtin "tuple.__lt__") [.ref l, .ref b]) Q E s := by
  obtain ⟨⟨cls, dd, data, sl⟩, ho, hc, n, hd⟩ := id hl
  obtain ⟨⟨cls2, dd2, data2, sl2⟩, ho2, hc2, n2, hd2⟩ := id hb
  simp only at hc hd hc2 hd2
  subst hc hd hc2 hd2
  exact call_meets F.slot_tuple_lt ⟨_, ho, rfl⟩ F.entry_tuple_lt (F.args_tuple_lt_2 _ _) (tuple_ltAt l b items items2 n n2 dd dd2 sl sl2 e r) ⟨ho, ho2, he, hr, h⟩
section
variable {prog : Program} {w : World} {A : Around} {E : Value → Shared → Prop} {s : Shared}
theorem oneLt_tup {f : Bool} {xs ys : List PyData} {a b : Value} {as bs : List Addr} {Q : Bool → Shared → Prop} (ra : Reads s.heap a (.tuple xs) as) (rb : Reads s.heap b (.tuple ys) bs) (h : alike (.tuple xs) (.tuple ys) = true)
    (hu : A.units + min (PyData.tuple xs).depth (PyData.tuple ys).depth < cLine) (hq : Q (dataLt (.tuple xs) (.tuple ys)) s) : wpAny (model prog w) A (oneLt' f a b) Q E s := by
  cases f with
  | false => exact oneLt_alike (fun z => by cases z) ra rb h (fun z => by cases z) hu hq
  | true =>
    have hal : alikeAll xs ys = true := by simpa [alike] using h
    cases ra with
    | @tuple l o vs n _ as₁ h1 h2 h3 h4 =>
      cases rb with
      | @tuple l' o' vs' n' _ bs₁ k1 k2 k3 k4 =>
        have n1 : vs.size = xs.length := by simpa using ReadsAll.length _ _ _ h4
        have n2 : vs'.size = ys.length := by simpa using ReadsAll.length _ _ _ k4
        rw [dataLt_tuple, ← firstLt_toks xs ys hal, ← n1, ← n2] at hq
        rw [oneLt'_eq]
        simp only [if_true]
        refine wpAny_bind (wpAny_cRoomFor (room_here hu) ?_)
        refine wpAny_bind (wpAny_callSpecialIfBound?_slot (T := "tuple") ⟨_, h1, h2⟩ F.slot_tuple_lt (call_tuple_lt (e := pairEq xs ys) (r := fun j => dataLt (xs.getD j .none) (ys.getD j .none)) ⟨_, h1, h2, _, h3⟩ ⟨_, k1, k2, _, k3⟩ (fun j j1 j2 => ?_) (fun j j1 j2 hj => ?_) ?_))
        · have := eqAt_alikeAll xs ys A.in1 s vs.toList vs'.toList _ _ h4 k4 hal (room_in hu) j (by simpa using j1) (by simpa using j2)
          simpa using this
        · have := rcLt_alikeAll xs ys A.in1 s vs.toList vs'.toList _ _ h4 k4 hal (room_in hu) j (by simpa using j1) (by simpa using j2) hj
          simpa using this
        · exact wpAny_truthy_bool hq
/-- what the first items are -/
theorem firsts_any : ∀ {vs : List Value} {ds : List PyData}, EachIs (fun v d => ∃ as, Reads s.heap v d as) vs ds → (∀ d ∈ ds, ∃ xs, d = .tuple xs) → ∀ {Q : List (Option Value) → Shared → Prop},
    (∀ os : List (Option Value), EachIs (fun o d => o.isSome = (match d with | PyData.tuple (_ :: _) => true | _ => false)) os ds → Q os s) → wpAny (model prog w) A (vs.mapM firstOfTuple') Q E s
  | _, _, .nil, _, Q, h => by rw [List.mapM_nil]; exact wpAny_pure (h [] .nil)
  | v :: vs, d :: ds, .cons ⟨as, r⟩ t, hd, Q, h => by
    obtain ⟨xs, rfl⟩ := hd d List.mem_cons_self
    rw [List.mapM_cons]
    cases r with
    | @tuple a o ys n _ _ ho hc hdt hr =>
      rw [kas_first_eq]
      have T : s.TypeIs (.ref a) "tuple" := ⟨o, ho, hc⟩
      refine wpAny_bind (wpAny_bind (wpAny_typeOf T ?_))
      rw [if_neg (by decide)]
      refine wpAny_bind (listItems_at ho hdt ?_)
      refine wpAny_pure (wpAny_bind (firsts_any t (fun d hd' => hd d (List.mem_cons_of_mem _ hd')) fun os hos => wpAny_pure (h _ (.cons ?_ hos))))
      have hl := ReadsAll.length _ _ _ hr
      rw [Array.length_toList] at hl
      cases xs with
      | nil =>
        have hz : ys.size = 0 := by simpa using hl
        have : ys[0]? = none := Array.getElem?_eq_none (by omega)
        rw [this]
        rfl
      | cons x xr =>
        have hz : 0 < ys.size := by simp at hl; omega
        rw [Array.getElem?_eq_getElem hz]
        rfl
theorem general_lt (x y : Value) : keyLt' general' x y = oneLt' false x y := rfl
theorem each_all {vs : List Value} {ds : List PyData} {R : Value → PyData → Prop} (e : EachIs R vs ds) : ∀ v ∈ vs, ∃ d ∈ ds, R v d := fun v hv => e.left v hv
/-- tuples of alike data can be sorted -/
theorem SortsAt.tups {vs : List Value} {ds : List PyData} (e : EachIs (fun v d => ∃ as, Reads s.heap v d as) vs ds) (hal : AllAlike ds) (ht : ∀ d ∈ ds, ∃ xs, d = .tuple xs) (hu : ∀ d, d ∈ ds → A.units + d.depth < cLine) : SortsAt prog w A s (dataKind s.heap ds) vs := by
  rcases Classical.em (∀ d ∈ ds, ∃ x r, d = .tuple (x :: r)) with c | c
  · exact SortsAt.data e hal (.inl c) hu
  · have room : ∀ {d d' : PyData}, d ∈ ds → A.units + min d.depth d'.depth < cLine := fun {d d'} hd => Nat.lt_of_le_of_lt (Nat.add_le_add_left (Nat.min_le_left _ _) _) (hu d hd)
    have lt : ∀ f, H.LtAt prog w A s (dataKind s.heap ds) (if f = true then oneType' else general') := by
      intro f E x y a b Q ha hb hq
      obtain ⟨d, as, hd, ra, rfl⟩ := dataKind_inv ha
      obtain ⟨d', as', hd', rb, rfl⟩ := dataKind_inv hb
      obtain ⟨xs, rfl⟩ := ht d hd
      obtain ⟨ys, rfl⟩ := ht d' hd'
      have := oneLt_tup (prog := prog) (w := w) (E := E) (f := f) ra rb (hal _ hd _ hd') (room hd) hq
      cases f
      · rw [if_neg (by decide), general_lt]; exact this
      · rw [if_pos rfl, keyLt'_oneType]; exact this
    refine ⟨fun v hv => ?_, ?_⟩
    · obtain ⟨d, hd, as, r⟩ := e.left v hv
      exact ⟨_, dataKind_some hal hd r⟩
    · obtain ⟨d1, hd1, hne⟩ : ∃ d ∈ ds, d = .tuple [] := by
        rcases Classical.em (∃ d ∈ ds, d = .tuple []) with k | k
        · exact k
        · exfalso
          refine c fun d hd => ?_
          obtain ⟨xs, rfl⟩ := ht d hd
          cases xs with
          | nil => exact absurd ⟨_, hd, rfl⟩ k
          | cons x r => exact ⟨x, r, rfl⟩
      cases ds with
      | nil => cases hd1
      | cons d0 ds0 =>
        refine ⟨_, lt (match d0 with | .tuple [] => true | _ => false), fun h2 E Q hq => ?_⟩
        rw [keyKind'_eq, List.mapM_toArray, map_eq_pure_bind]
        refine wpAny_bind (wpAny_bind (firsts_any e ht fun os hos => wpAny_pure ?_))
        have nall : ¬ (os.toArray.all (·.isSome)) = true := by
          rw [List.all_toArray, List.all_eq_true]
          intro h
          have : ∀ {os : List (Option Value)} {ds : List PyData}, EachIs (fun o d => o.isSome = (match d with | PyData.tuple (_ :: _) => true | _ => false)) os ds → (∀ o ∈ os, o.isSome = true) → ∀ d ∈ ds, d ≠ .tuple [] := by
            intro os ds h
            induction h with
            | nil => intro _ d hd; cases hd
            | @cons o d os ds h1 _ ih =>
              intro ho x hx
              rcases List.mem_cons.mp hx with z | z
              · subst z
                rintro rfl
                rw [ho o List.mem_cons_self] at h1
                cases h1
              · exact ih (fun o ho' => ho o (List.mem_cons_of_mem _ ho')) x z
          exact this hos h d1 hd1 hne
        rw [if_neg nall]
        cases hos with
        | @cons o _ os _ h1 _ =>
          obtain ⟨xs, rfl⟩ := ht d0 List.mem_cons_self
          cases xs with
          | cons x xr =>
            have h1' : o.isSome = true := h1
            obtain ⟨y, rfl⟩ := Option.isSome_iff_exists.mp h1'
            rw [if_pos (by rfl)]
            exact wpAny_pure hq
          | nil =>
            have h1' : o.isSome = false := h1
            cases o with
            | some y => cases h1'
            | none =>
              rw [if_neg (by simp)]
              obtain ⟨v₁, rest, rfl⟩ : ∃ v₁ rest, vs = v₁ :: rest := by
                match vs, h2 with
                | [], h2 => simp at h2
                | v₁ :: rest, _ => exact ⟨v₁, rest, rfl⟩
              rw [oneTypeOnly'_eq, List.mapM_toArray, map_eq_pure_bind]
              refine wpAny_bind (wpAny_bind (wpAny_bind (kas_mapM (r := Value.type "tuple") _ (fun v hv Q' hq => ?_) (wpAny_pure ?_))))
              · obtain ⟨d, hd, as, r⟩ := e.left v hv
                obtain ⟨xs, rfl⟩ := ht d hd
                cases r with
                | @tuple a o ys n _ _ ho hc hdt hr => exact wpAny_typeOf (T := "tuple") ⟨o, ho, hc⟩ hq
              · have hall : ((List.map (fun _ => Value.type "tuple") (v₁ :: rest)).toArray.all fun x => x == Value.type "tuple") = true := by
                  simp only [List.all_toArray, List.all_map, List.all_eq_true]
                  intro _ _
                  rfl
                have h0 : (List.map (fun _ => Value.type "tuple") (v₁ :: rest)).toArray[0]? = some (Value.type "tuple") := by simp
                rw [h0]
                simp only [hall, if_true]
                exact wpAny_pure (wpAny_pure hq)
end
end K16Q
/-! ## part Ty -/
set_option Elab.async false
set_option linter.all false
set_option maxRecDepth 100000
set_option maxHeartbeats 1000000
/-! the eight names by their order; sets of names, lists of these, triples, trusts as data -/
namespace K16
open PySem PySem.Spec PyProof.Rows L2
open Evl (Ex)
abbrev Nm := Fin 8
def txt : Nm → Str
  | 0 => "a" | 1 => "ab" | 2 => "abcdefgh" | 3 => "b" | 4 => "c" | 5 => "d" | 6 => "e" | 7 => "zz"
abbrev Sx := List Nm
def tN (i : Nm) : D := .str (txt i)
def tS (s : Sx) : D := .tuple (s.map tN)
def lS (s : Sx) : D := .list (s.map tN)
def tSS (ss : List Sx) : D := .tuple (ss.map tS)
def lSS (ss : List Sx) : D := .list (ss.map tS)
structure Tri where
  h : Nm
  lots : List Sx
  fears : List Sx
deriving DecidableEq
def tTri (t : Tri) : D := .tuple [tN t.h, tSS t.lots, tSS t.fears]
abbrev Tru := List Tri
def tT (T : Tru) : D := .tuple (T.map tTri)
theorem txt_inj : ∀ a b : Nm, txt a = txt b → a = b := by decide +kernel
theorem txt_ok : ∀ a : Nm, PyData.canLay0 (tN a) = true ∧ (txt a).length ≤ 8 := by decide +kernel
theorem tN_inj {a b : Nm} (h : tN a = tN b) : a = b := by
  unfold tN at h
  injection h with h
  exact txt_inj a b h
theorem map_inj {α β : Type} {f : α → β} (hf : ∀ a b, f a = f b → a = b) : ∀ {a b : List α}, a.map f = b.map f → a = b
  | [], [], _ => rfl
  | [], _ :: _, h => by cases h
  | _ :: _, [], h => by cases h
  | x :: a, y :: b, h => by
    rw [List.map_cons, List.map_cons] at h
    injection h with h1 h2
    rw [hf _ _ h1, map_inj hf h2]
theorem tS_inj {a b : Sx} (h : tS a = tS b) : a = b := by
  unfold tS at h
  injection h with h
  exact map_inj (fun a b => tN_inj) h
/-! ### shape -/
theorem canLayAll0_map {α : Type} {f : α → D} (h : ∀ a, (f a).canLay0 = true) : ∀ xs : List α, PyData.canLayAll0 (xs.map f) = true
  | [] => by simp [PyData.canLayAll0]
  | x :: xs => by
    rw [List.map_cons, PyData.canLayAll0, h, canLayAll0_map h xs]
    rfl
theorem depthAll_map {α : Type} {f : α → D} {n : Nat} (h : ∀ a, (f a).depth ≤ n) : ∀ xs : List α, PyData.depthAll (xs.map f) ≤ n
  | [] => by simp [PyData.depthAll]
  | x :: xs => by
    rw [List.map_cons, PyData.depthAll]
    exact Nat.max_le.mpr ⟨h x, depthAll_map h xs⟩
structure Flat (n : Nat) (d : D) : Prop where
  lay : d.canLay0 = true
  dp : d.depth ≤ n
theorem Flat.shp {n : Nat} {d : D} (h : Flat n d) (hn : n ≤ 64) : shp d := by
  show SeqAt.shaped d = true
  unfold SeqAt.shaped
  rw [h.lay, Bool.true_and]
  exact decide_eq_true (Nat.le_trans h.dp hn)
theorem flat_tN (a : Nm) : Flat 1 (tN a) := ⟨(txt_ok a).1, by simp [tN, PyData.depth]⟩
theorem flat_tup {α : Type} {f : α → D} {n : Nat} (h : ∀ a, Flat n (f a)) (xs : List α) : Flat (n + 1) (.tuple (xs.map f)) := ⟨by rw [PyData.canLay0]; exact canLayAll0_map (fun a => (h a).lay) xs, by rw [PyData.depth]; have := depthAll_map (fun a => (h a).dp) xs; omega⟩
theorem flat_lst {α : Type} {f : α → D} {n : Nat} (h : ∀ a, Flat n (f a)) (xs : List α) : Flat (n + 1) (.list (xs.map f)) := ⟨by rw [PyData.canLay0]; exact canLayAll0_map (fun a => (h a).lay) xs, by rw [PyData.depth]; have := depthAll_map (fun a => (h a).dp) xs; omega⟩
theorem flat_tS (s : Sx) : Flat 2 (tS s) := flat_tup flat_tN s
theorem flat_lS (s : Sx) : Flat 2 (lS s) := flat_lst flat_tN s
theorem flat_tSS (s : List Sx) : Flat 3 (tSS s) := flat_tup flat_tS s
theorem flat_lSS (s : List Sx) : Flat 3 (lSS s) := flat_lst flat_tS s
theorem flat_tTri (t : Tri) : Flat 4 (tTri t) := by
  have h1 := flat_tN t.h
  have h2 := flat_tSS t.lots
  have h3 := flat_tSS t.fears
  refine ⟨?_, ?_⟩
  · unfold tTri
    rw [PyData.canLay0, PyData.canLayAll0, PyData.canLayAll0, PyData.canLayAll0, h1.lay, h2.lay, h3.lay, PyData.canLayAll0]
    rfl
  · unfold tTri
    rw [PyData.depth, PyData.depthAll, PyData.depthAll, PyData.depthAll, PyData.depthAll]
    have a := h1.dp
    have b := h2.dp
    have c := h3.dp
    omega
theorem flat_tT (T : Tru) : Flat 5 (tT T) := flat_tup flat_tTri T
/-! ### equal, in, less -/
theorem eqv_tN : ∀ a b : Nm, PyData.eqv (tN a) (tN b) = decide (a = b) := by decide +kernel
theorem eqvAll_map {α : Type} [DecidableEq α] {f : α → D} (h : ∀ a b, PyData.eqv (f a) (f b) = decide (a = b)) : ∀ xs ys : List α, PyData.eqvAll (xs.map f) (ys.map f) = decide (xs = ys)
  | [], [] => by simp [PyData.eqvAll]
  | [], _ :: _ => by simp [PyData.eqvAll]
  | _ :: _, [] => by simp [PyData.eqvAll]
  | x :: xs, y :: ys => by
    rw [List.map_cons, List.map_cons, PyData.eqvAll, h, eqvAll_map h xs ys]
    simp
theorem eqv_tS (a b : Sx) : PyData.eqv (tS a) (tS b) = decide (a = b) := by
  unfold tS
  rw [PyData.eqv]
  exact eqvAll_map eqv_tN a b
theorem any_eqv {α : Type} [DecidableEq α] {f : α → D} (h : ∀ a b, PyData.eqv (f a) (f b) = decide (a = b)) (a : α) : ∀ xs : List α, ((xs.map f).any fun z => PyData.eqv z (f a)) = decide (a ∈ xs)
  | [] => by simp
  | x :: xs => by
    rw [List.map_cons, List.any_cons, h, any_eqv h a xs]
    simp only [List.mem_cons]
    rcases Classical.em (x = a) with c | c
    · subst c; simp
    · have c' : ¬ a = x := fun e => c e.symm
      simp [c, c']
theorem in_tS (a : Nm) (s : Sx) : RIn (tN a) (tS s) (.bool (decide (a ∈ s))) := ⟨_, .inr rfl, (flat_tN a).shp (by decide), (flat_tS s).shp (by decide), by rw [any_eqv eqv_tN]⟩
theorem in_lS (a : Nm) (s : Sx) : RIn (tN a) (lS s) (.bool (decide (a ∈ s))) := ⟨_, .inl rfl, (flat_tN a).shp (by decide), (flat_lS s).shp (by decide), by rw [any_eqv eqv_tN]⟩
theorem nin_tS (a : Nm) (s : Sx) : RNotIn (tN a) (tS s) (.bool (!decide (a ∈ s))) := ⟨_, .inr rfl, (flat_tN a).shp (by decide), (flat_tS s).shp (by decide), by rw [any_eqv eqv_tN]⟩
theorem in_tSS (a : Sx) (s : List Sx) : RIn (tS a) (tSS s) (.bool (decide (a ∈ s))) := ⟨_, .inr rfl, (flat_tS a).shp (by decide), (flat_tSS s).shp (by decide), by rw [any_eqv eqv_tS]; exact congrArg PyData.bool (decide_eq_decide.mpr Iff.rfl)⟩
theorem eq_tN (a b : Nm) : REq (tN a) (tN b) (.bool (decide (a = b))) := ⟨(flat_tN a).shp (by decide), (flat_tN b).shp (by decide), by rw [eqv_tN]⟩
theorem ne_tN (a b : Nm) : RNe (tN a) (tN b) (.bool (!decide (a = b))) := ⟨(flat_tN a).shp (by decide), (flat_tN b).shp (by decide), by rw [eqv_tN]⟩
theorem eq_tS (a b : Sx) : REq (tS a) (tS b) (.bool (decide (a = b))) := ⟨(flat_tS a).shp (by decide), (flat_tS b).shp (by decide), by rw [eqv_tS]⟩
theorem ne_tS (a b : Sx) : RNe (tS a) (tS b) (.bool (!decide (a = b))) := ⟨(flat_tS a).shp (by decide), (flat_tS b).shp (by decide), by rw [eqv_tS]⟩
theorem shp_int (i : Int) : shp (.int i) := by
  show SeqAt.shaped _ = true
  simp [SeqAt.shaped, PyData.canLay0, PyData.depth]
theorem eq_int (i j : Int) : REq (.int i) (.int j) (.bool (decide (i = j))) := ⟨shp_int i, shp_int j, by rw [PyData.eqv]; rfl⟩
/-- rows of names in order -/
def ltS : Sx → Sx → Bool
  | [], [] => false
  | [], _ :: _ => true
  | _ :: _, [] => false
  | x :: r, y :: t => decide (x < y) || (decide (x = y) && ltS r t)
theorem itemLt_tN : ∀ a b : Nm, itemLt (.inr (txt a).cps.toList) (.inr (txt b).cps.toList) = decide (a < b) := by decide +kernel
theorem alike_tN (a b : Nm) : PySem.W.alike (tN a) (tN b) = true := by simp [tN, PySem.W.alike]
theorem alikeAll_tN : ∀ a b : Sx, PySem.W.alikeAll (a.map tN) (b.map tN) = true
  | [], _ => by simp [PySem.W.alikeAll]
  | _ :: _, [] => by simp [PySem.W.alikeAll]
  | x :: a, y :: b => by
    rw [List.map_cons, List.map_cons, PySem.W.alikeAll, alike_tN, alikeAll_tN a b]
    rfl
theorem alike_tS (a b : Sx) : PySem.W.alike (tS a) (tS b) = true := by
  unfold tS
  rw [PySem.W.alike]
  exact alikeAll_tN a b
theorem dlt_tN (a b : Nm) : PySem.W.dataLt (tN a) (tN b) = decide (a < b) := by
  show PyProof.Rows.lexLt itemOrd [.inr (txt a).cps.toList] [.inr (txt b).cps.toList] = _
  rw [PySem.W.lex_one]
  exact itemLt_tN a b
theorem toks_ltS : ∀ a b : Sx, PyProof.Rows.lexLt itemOrd (PySem.W.keyToksAll (a.map tN)) (PySem.W.keyToksAll (b.map tN)) = ltS a b
  | [], [] => by decide +kernel
  | [], y :: b => by
    rw [List.map_cons, List.map_nil, PySem.W.keyToksAll, PySem.W.keyToksAll, lex_diff (by decide)]
    rfl
  | x :: a, [] => by
    rw [List.map_cons, List.map_nil, PySem.W.keyToksAll, PySem.W.keyToksAll, lex_diff (by decide)]
    rfl
  | x :: a, y :: b => by
    have ih := toks_ltS a b
    have hx : PySem.W.keyToks (tN x) = [.inr (txt x).cps.toList] := rfl
    have hy : PySem.W.keyToks (tN y) = [.inr (txt y).cps.toList] := rfl
    rw [List.map_cons, List.map_cons, PySem.W.keyToksAll, PySem.W.keyToksAll, lex_self, hx, hy]
    show PyProof.Rows.lexLt itemOrd (.inr (txt x).cps.toList :: PySem.W.keyToksAll (a.map tN)) (.inr (txt y).cps.toList :: PySem.W.keyToksAll (b.map tN)) = ltS (x :: a) (y :: b)
    rw [ltS]
    rcases Classical.em (x = y) with c | c
    · subst c
      rw [lex_self, ih]
      simp
    · have hne : (Sum.inr (txt x).cps.toList : Int ⊕ List Nat) ≠ .inr (txt y).cps.toList := fun e => c (txt_inj x y (PySem.W.str_of_cps (Sum.inr.inj e)))
      rw [lex_diff (O := itemOrd) hne]
      have e : itemOrd.blt (Sum.inr (txt x).cps.toList) (Sum.inr (txt y).cps.toList) = decide (x < y) := itemLt_tN x y
      rw [e]
      simp [c]
theorem dlt_tS (a b : Sx) : PySem.W.dataLt (tS a) (tS b) = ltS a b := by
  unfold tS
  rw [PySem.W.dataLt_tuple]
  exact toks_ltS a b
theorem lt_tN (a b : Nm) : RLt (tN a) (tN b) (.bool (decide (a < b))) := ⟨alike_tN a b, (fun h => by cases h), (flat_tN a).shp (by decide), by rw [dlt_tN]⟩
theorem le_tN (a b : Nm) : RLe (tN a) (tN b) (.bool (!decide (b < a))) := ⟨alike_tN a b, (fun h => by cases h), (flat_tN a).shp (by decide), by rw [dlt_tN]⟩
theorem lt_tS (a b : Sx) : RLt (tS a) (tS b) (.bool (ltS a b)) := ⟨alike_tS a b, (fun h => by cases h), (flat_tS a).shp (by decide), by rw [dlt_tS]⟩
/-! ### places -/
theorem ix_tup {xs : List D} {k : Nat} {d : D} (h : xs[k]? = some d) : RIx (.tuple xs) (.int (k : Int)) d := ⟨xs, k, .inr rfl, rfl, h⟩
theorem ix_lst {xs : List D} {k : Nat} {d : D} (h : xs[k]? = some d) : RIx (.list xs) (.int (k : Int)) d := ⟨xs, k, .inl rfl, rfl, h⟩
end K16
/-! ## part Bx -/
set_option Elab.async false
set_option linter.all false
set_option maxRecDepth 100000
set_option maxHeartbeats 1000000
/-! more rules: pairs of targets, typed built-ins, the reading's tactic -/
namespace K16
open PySem PySem.Spec PyProof.Rows L2
open Evl (Ex)
section
variable {env env2 : En} {mu mu2 : Mu} {te ta tb : TE} {tr : TA} {x y z d : D} {t u : TS} {wi : TI} {g : TG} {js vs : List Nat} {tt : TT}
theorem ev_lc0 {α : Type} {xs : List α} {enc : α → D} (f : α → D) {env2 : α → En} (hs : SrcE wi env (xs.map enc)) (hg : ∀ x ∈ xs, GtE g (enc x) js (wipeE env vs) (env2 x)) (hj : ∀ j ∈ js, j ∈ vs)
    (he : ∀ x ∈ xs, EvE te (env2 x) (f x)) : EvE (tLc wi g tYes te vs) env (.list (xs.map f)) := by
  have h := ev_lc (xs := xs) (enc := enc) (fun _ => true) f hs hg hj (fun _ _ => et_yes) (fun x hx _ => he x hx)
  have e : xs.filter (fun _ => true) = xs := List.filter_eq_self.mpr fun _ _ => rfl
  rw [e] at h
  exact h
theorem sm_par {i j : Nat} (h : EvA tr env [x, y]) (ho : Off [i, j] mu) : SmE (tPar i j tr) env mu ((env.set i (some x)).set j (some y)) mu := fun σ G H G0 H0 Dn m q => h σ G H m.rs m.mu.st.in_ _ fun vs G2 H2 s r => by
  obtain ⟨v, w, rfl, rv, rw_⟩ := r.two
  refine ⟨v, w, rfl, q _ G2 H2 ⟨((m.rs.mono s.eg).set rv).set rw_, (m.mu.step s).at_ (js := [i, j]) (fun k hk => ?_) ho⟩ s.eg⟩
  rw [List.getElem?_set_ne fun z => hk (by rw [← z]; simp), List.getElem?_set_ne fun z => hk (by rw [← z]; simp)]
theorem RqA.three {G : Hp} {vs : List V} {d e f : D} (h : RqA G vs [d, e, f]) : ∃ u v w, vs = [u, v, w] ∧ Rq G u d ∧ Rq G v e ∧ Rq G w f := by
  obtain ⟨u, hu, ru⟩ := h.at_ (i := 0) rfl
  obtain ⟨v, hv, rv⟩ := h.at_ (i := 1) rfl
  obtain ⟨w, hw, rw_⟩ := h.at_ (i := 2) rfl
  have hl := h.rp.length
  match vs, hl, hu, hv, hw with
  | [a, b, c], _, hu, hv, hw =>
    injection hu with hu
    injection hv with hv
    injection hw with hw
    exact ⟨u, v, w, by rw [← hu, ← hv, ← hw], ru, rv, rw_⟩
theorem sm_par3 {i j l : Nat} (h : EvA tr env [x, y, z]) (ho : Off [i, j, l] mu) : SmE (tPar3 i j l tr) env mu (((env.set i (some x)).set j (some y)).set l (some z)) mu := fun σ G H G0 H0 Dn m q => h σ G H m.rs m.mu.st.in_ _ fun vs G2 H2 s r => by
  obtain ⟨u, v, w, rfl, ru, rv, rw_⟩ := r.three
  refine ⟨u, v, w, rfl, q _ G2 H2 ⟨(((m.rs.mono s.eg).set ru).set rv).set rw_, (m.mu.step s).at_ (js := [i, j, l]) (fun k hk => ?_) ho⟩ s.eg⟩
  rw [List.getElem?_set_ne fun z => hk (by rw [← z]; simp), List.getElem?_set_ne fun z => hk (by rw [← z]; simp), List.getElem?_set_ne fun z => hk (by rw [← z]; simp)]
/-- a, m = e, [] : the second a list of one's own -/
theorem sm_parOwn {i m : Nat} (h : EvE te env x) (hm : m < env.length) : SmE (tPar i m (tCons te (tCons (tLst tNil) tNil))) env none ((env.set i (some x)).set m none) (some (m, [])) := fun σ G H G0 H0 Dn mm q => h σ G H mm.rs mm.mu.st.in_ _ fun v G2 H2 s r => by
  refine ⟨Nat.zero_le _, fun p hp => ⟨v, .ref p, rfl, ?_⟩⟩
  refine q _ G2 _ ⟨((mm.rs.mono s.eg).set r).forget, p, [], ?_, Ow.start (mm.mu.step s) hp⟩ s.eg
  rw [List.getElem?_set_self (by rw [List.length_set, mm.rs.len]; exact hm)]
theorem bl_cut {w : TS} (h : BlE t env mu d) : BlE (tSeq t w) env mu d := fun σ G H G0 H0 Dn m q => h σ G H G0 H0 _ m q
/-- if c: block (returns) else: block (returns), both ways end -/
theorem bl_if2 {b : Bool} (h : EvT tt env b) (h1 : b = true → BlE t env mu d) (h2 : b = false → BlE u env mu d) : BlE (tIfS tt t u) env mu d := fun σ G H G0 H0 Dn m q => h σ G H m.rs m.mu.st.in_ _ fun G1 H1 s => by
  have m1 : Mst G0 H0 mu G1 H1 σ env := ⟨m.rs.mono s.eg, m.mu.step s⟩
  cases b with
  | true => exact h1 rfl σ G1 H1 G0 H0 _ m1 q
  | false => exact h2 rfl σ G1 H1 G0 H0 Dn m1 q
end
theorem all_map {α : Type} (xs : List α) (p : α → Bool) : RAll [.list (xs.map fun x => .bool (p x))] (.bool (xs.all p)) := ⟨xs.map p, by rw [List.map_map]; rfl, by rw [List.all_map]; rfl⟩
theorem any_map {α : Type} (xs : List α) (p : α → Bool) : RAny [.list (xs.map fun x => .bool (p x))] (.bool (xs.any p)) := ⟨xs.map p, by rw [List.map_map]; rfl, by rw [List.any_map]; rfl⟩
theorem tup_lst (xs : List D) : RTup [.list xs] (.tuple xs) := ⟨xs, .inl rfl, rfl⟩
theorem lst_tup (xs : List D) : RLst [.tuple xs] (.list xs) := ⟨xs, .inr rfl, rfl⟩
theorem len_lst (xs : List D) : RLen [.list xs] (.int (xs.length : Int)) := .inl ⟨xs, .inl rfl, rfl⟩
theorem len_tup (xs : List D) : RLen [.tuple xs] (.int (xs.length : Int)) := .inl ⟨xs, .inr rfl, rfl⟩
theorem len_str (s : Str) : RLen [.str s] (.int (s.length : Int)) := .inr ⟨s, rfl, rfl⟩
theorem isn_none : RIsN .none .none (.bool true) := ⟨rfl, rfl⟩
theorem hu64 {k : Nat} {A : Around} (hr : Room k A) : A.units + 64 < cLine := by have := hr.un; omega
theorem hu65 {k : Nat} {A : Around} (hr : Room k A) : A.units + 65 < cLine := by have := hr.un; omega
theorem ev_get {env : En} {i : Nat} {d : D} (h : env[i]? = some (some d)) : EvE (tVar i) env d := ev_var h
end K16
/-! ## part SetR -/
set_option Elab.async false
set_option linter.all false
set_option maxRecDepth 100000
set_option maxHeartbeats 2000000
/-! sorted(..) and sorted(set(..)) of sets of names -/
namespace K16S
open PySem PySem.Spec PyProof.Rows L2
theorem perm_map_of {α β : Type} {f : α → β} {l m : List β} (h : l.Perm m) : ∀ L : List α, m = L.map f → ∃ L1 : List α, L1.Perm L ∧ l = L1.map f := by
  induction h with
  | nil =>
    intro L e
    cases L with
    | nil => exact ⟨[], List.Perm.nil, rfl⟩
    | cons a b => cases e
  | cons x _ ih =>
    intro L e
    cases L with
    | nil => cases e
    | cons a L =>
      rw [List.map_cons] at e
      injection e with e1 e2
      obtain ⟨L1, p, q⟩ := ih L e2
      exact ⟨a :: L1, p.cons a, by rw [List.map_cons, ← q, ← e1]⟩
  | swap x y l =>
    intro L e
    match L, e with
    | a :: b :: L, e =>
      rw [List.map_cons, List.map_cons] at e
      injection e with e1 e2
      injection e2 with e2 e3
      exact ⟨b :: a :: L, .swap _ _ _, by rw [List.map_cons, List.map_cons, ← e1, ← e2, ← e3]⟩
  | trans _ _ ih1 ih2 =>
    intro L e
    obtain ⟨L1, p1, q1⟩ := ih2 L e
    obtain ⟨L2, p2, q2⟩ := ih1 L1 q1
    exact ⟨L2, p2.trans p1, q2⟩
abbrev tSt (k : List Str) : PyData := .tuple (k.map .str)
section
variable {P : Program} {w : World} {A : Around} {E : Value → Shared → Prop} {s : Shared}
theorem items_reads {h : Heap} : ∀ {k : List Str} {vs : List Value}, ItemsAre (PySem.strKind P w) k vs → ∃ as, ReadsAll h vs (k.map .str) as
  | [], _, .nil => ⟨_, .nil⟩
  | x :: k, v :: vs, .cons h1 h2 => by
    obtain ⟨as, ih⟩ := items_reads (h := h) h2
    obtain ⟨t, rfl⟩ := Value.isStrOf_shape h1
    exact ⟨_, .cons (.str x t) ih⟩
theorem ky_reads {h : Heap} {k : List Str} {a : Addr} (x : Ky P w h k a) : ∃ as, Reads h (.ref a) (tSt k) as := by
  obtain ⟨o, items, n, ho, hc, hd, hi⟩ := x
  obtain ⟨as, r⟩ := items_reads (h := h) hi
  exact ⟨as, .tuple ho hc hd r⟩
theorem alikeAll_strs : ∀ a b : List Str, PySem.W.alikeAll (a.map .str) (b.map .str) = true
  | [], _ => by simp [PySem.W.alikeAll]
  | _ :: _, [] => by simp [PySem.W.alikeAll]
  | x :: a, y :: b => by
    rw [List.map_cons, List.map_cons, PySem.W.alikeAll, alikeAll_strs a b]
    simp [PySem.W.alike]
theorem depth_tSt (k : List Str) : (tSt k).depth ≤ 2 := by
  rw [PyData.depth]
  have h : ∀ k : List Str, PyData.depthAll (k.map .str) ≤ 1 := fun k => by
    induction k with
    | nil => simp [PyData.depthAll]
    | cons x k ih => rw [List.map_cons, PyData.depthAll]; exact Nat.max_le.mpr ⟨by simp [PyData.depth], ih⟩
  have := h k
  omega
theorem allAlike_rows (L : List Row) : PySem.W.AllAlike (L.map fun p => tSt p.2) := by
  intro d hd d' hd'
  obtain ⟨p, _, rfl⟩ := List.mem_map.mp hd
  obtain ⟨q, _, rfl⟩ := List.mem_map.mp hd'
  rw [PySem.W.alike]
  exact alikeAll_strs _ _
theorem each_rows {α β : Type} {R : α → β → Prop} {γ : Type} {f : γ → α} {g : γ → β} : ∀ {L : List γ}, (∀ p ∈ L, R (f p) (g p)) → PySem.W.EachIs R (L.map f) (L.map g)
  | [], _ => .nil
  | p :: L, h => .cons (h p List.mem_cons_self) (each_rows fun q hq => h q (List.mem_cons_of_mem _ hq))
theorem each_inv {α β : Type} {R : α → β → Prop} {f : β → α} : ∀ {as : List α} {bs : List β}, PySem.W.EachIs R as bs → (∀ a b, R a b → a = f b) → as = bs.map f
  | _, _, .nil, _ => rfl
  | _, _, .cons h t, k => by rw [List.map_cons, ← k _ _ h, ← each_inv t k]
abbrev rkey (p : Row) : List (Int ⊕ List Nat) := PySem.W.keyToks (tSt p.2)
/-- sorted(..) of a set of rows of texts -/
theorem sorted_setS {a : Addr} {L : List Row} {es : Array (Int × Value)} {ep : Nat} {t : SetTable} {Q : Value → Shared → Prop} (R : SetS P w s.heap a L es ep t) (hh : A.handled = none) (hu : A.units + 10 < cLine)
    (hQ : ∀ s' p (out : Array Value) (c : Nat) (L' : List Row), (∀ b o, s.heap.get? b = some o → s'.heap.get? b = some o) → s'.gens = s.gens → s'.os = s.os → s.heap.objs.size ≤ p →
      s'.heap.get? p = some (seqObj "list" out c) → out.toList = L'.map (fun q => Value.ref q.1) → L'.Perm L → L'.Pairwise (fun q r => lexLt itemOrd (rkey r) (rkey q) = false) → Q (.ref p) s') :
    wpAny (model P w) A (call (.builtin "sorted") [.ref a]) Q E s := by
  obtain ⟨o, ho, hex, hd⟩ := R.ob
  have hsz := R.size
  have hfew := R.few
  refine Calls.call_function_entry kind_sorted plain_sorted entry_sorted (args_sorted1 _) ?_
  unfold Builtin.«sorted»
  refine wpAny_bind (m := checkCount "sorted" 1 1 _) (wpAny_pure ?_)
  refine wpAny_bind (collect_set (A := A.in1) hh ⟨o, ho, hex.1, hd⟩ R.fits (by unfold scanBound; omega) R.tab.ris R.led fun s1 vs k1 hz g1 o1 pm => ?_)
  have hes : es.toList.map (·.2) = L.map fun q => Value.ref q.1 := by
    rw [R.rows]
    unfold rws
    rw [List.map_map] <;> rfl
  rw [hes] at pm
  obtain ⟨L1, pL, rfl⟩ := perm_map_of pm L rfl
  have hl1 : L1.length < 64 := by rw [pL.length_eq]; exact hfew
  have hlen : (L1.map fun q => Value.ref q.1).length ≤ sizeLine := by rw [List.length_map, sizeLine_eq]; omega
  refine wpAny_bind (wpAny_newList ?_ hlen)
  have hoL : (s1.heap.push (seqObj "list" (L1.map fun q => Value.ref q.1).toArray 0)).get? s1.heap.objs.size = some (seqObj "list" (L1.map fun q => Value.ref q.1).toArray 0) := Heap.get?_push_size _ rfl
  refine wpAny_bind (wpAny_holding (wpAny_call_entry_kw slot_list_sort ⟨_, hoL, rfl⟩ entry_list_sort ?body (args_list_sort _)))
  case body =>
    show wpAny (model P w) A.in1.in1 (Builtin.«list.sort» ⟨[.ref s1.heap.objs.size], []⟩) _ _ _
    have old : ∀ b u, s1.heap.get? b = some u → (PySem.W.sortingHeap (s1.heap.push (seqObj "list" (L1.map fun q => Value.ref q.1).toArray 0)) s1.heap.objs.size (L1.map fun q => Value.ref q.1)).get? b = some u := fun b u e =>
      PySem.W.sortingHeap_old (Nat.ne_of_lt (Heap.lt_size e)) (Heap.get?_push_of_some _ e)
    have rds : ∀ p ∈ L1, ∃ as, Reads (PySem.W.sortingHeap (s1.heap.push (seqObj "list" (L1.map fun q => Value.ref q.1).toArray 0)) s1.heap.objs.size (L1.map fun q => Value.ref q.1)) (.ref p.1) (tSt p.2) as := fun p hp =>
      ky_reads (ky_keep (R.tup p (pL.mem_iff.mp hp)) fun c u e => old c u (k1 c u e))
    have er := each_rows (f := fun q : Row => Value.ref q.1) (g := fun q : Row => tSt q.2) (R := fun v d => ∃ as, Reads (PySem.W.sortingHeap (s1.heap.push (seqObj "list" (L1.map fun q => Value.ref q.1).toArray 0)) s1.heap.objs.size (L1.map fun q => Value.ref q.1)) v d as) (L := L1) rds
    have S := K16Q.SortsAt.tups (prog := P) (w := w) (A := A.in1.in1) (s := { s1 with heap := PySem.W.sortingHeap (s1.heap.push (seqObj "list" (L1.map fun q => Value.ref q.1).toArray 0)) s1.heap.objs.size (L1.map fun q => Value.ref q.1) }) er (allAlike_rows L1) (fun d hd => by
        obtain ⟨p, _, rfl⟩ := List.mem_map.mp hd
        exact ⟨_, rfl⟩) (fun d hd => by
        obtain ⟨p, _, rfl⟩ := List.mem_map.mp hd
        have := depth_tSt p.2
        show A.units + 1 + 1 + _ < cLine
        omega)
    have hk : PySem.W.EachIs (fun v (b : Row) => (PySem.W.dataKind (PySem.W.sortingHeap (s1.heap.push (seqObj "list" (L1.map fun q => Value.ref q.1).toArray 0)) s1.heap.objs.size (L1.map fun q => Value.ref q.1)) (L1.map fun q : Row => tSt q.2)).keyOf v = some (rkey b)) (L1.map fun q => Value.ref q.1) L1 := by
      have := each_rows (f := fun q : Row => Value.ref q.1) (g := fun q : Row => q) (R := fun v (b : Row) => (PySem.W.dataKind (PySem.W.sortingHeap (s1.heap.push (seqObj "list" (L1.map fun q => Value.ref q.1).toArray 0)) s1.heap.objs.size (L1.map fun q => Value.ref q.1)) (L1.map fun q : Row => tSt q.2)).keyOf v = some (rkey b)) (L := L1) fun p hp => by
        obtain ⟨as, r⟩ := rds p hp
        exact PySem.W.dataKind_some (allAlike_rows L1) (List.mem_map.mpr ⟨p, hp, rfl⟩) r
      rw [List.map_id'] at this
      exact this
    have e1 := PySem.W.sortVals_each (κ := PySem.W.dataKind (PySem.W.sortingHeap (s1.heap.push (seqObj "list" (L1.map fun q => Value.ref q.1).toArray 0)) s1.heap.objs.size (L1.map fun q => Value.ref q.1)) (L1.map fun q : Row => tSt q.2)) (rev := false) (R := fun v (b : Row) => v = Value.ref b.1) rkey (by
      have := each_rows (f := fun q : Row => Value.ref q.1) (g := fun q : Row => q) (R := fun v (b : Row) => v = Value.ref b.1) (L := L1) fun p hp => rfl
      rw [List.map_id'] at this
      exact this) hk
    have e2 := each_inv e1 fun a b h => h
    refine PySem.W.list_sort_vals (s := { s1 with heap := s1.heap.push (seqObj "list" (L1.map fun q => Value.ref q.1).toArray 0) }) hoL S hlen ⟨_, rfl, ?_⟩
    obtain ⟨c, hc⟩ := sortedHeap_at (vs := (L1.map fun q => Value.ref q.1)) (out := (PySem.W.sortVals (PySem.W.dataKind (PySem.W.sortingHeap (s1.heap.push (seqObj "list" (L1.map fun q => Value.ref q.1).toArray 0)) s1.heap.objs.size (L1.map fun q => Value.ref q.1)) (L1.map fun q : Row => tSt q.2)) false (L1.map fun q => Value.ref q.1) (L1.map fun q => Value.ref q.1)).toArray) hoL
    refine wpAny_pure ⟨_, rfl, hQ _ s1.heap.objs.size _ c _ (fun b u e => ?_) g1 o1 hz hc (by rw [List.toList_toArray]; exact e2) ((List.mergeSort_perm _ _).trans pL) ?_⟩
    · have q := k1 b u e
      have hlt := Heap.lt_size q
      show (sortedHeap (s1.heap.push (seqObj "list" (L1.map fun q => Value.ref q.1).toArray 0)) s1.heap.objs.size (L1.map fun q => Value.ref q.1) _).get? b = some u
      rw [sortedHeap_old (Nat.ne_of_lt hlt) (by rw [size_push']; exact Nat.lt_succ_of_lt hlt)]
      exact Heap.get?_push_of_some _ q
    · have := PySem.W.sort_pairwise (PySem.W.sortLe_total (PySem.W.dataKind (PySem.W.sortingHeap (s1.heap.push (seqObj "list" (L1.map fun q => Value.ref q.1).toArray 0)) s1.heap.objs.size (L1.map fun q => Value.ref q.1)) (L1.map fun q : Row => tSt q.2)).toKeyOrd false rkey) L1
      refine this.imp fun {q r} h => ?_
      have h' : (!lexLt itemOrd (rkey r) (rkey q)) = true := h
      simpa using h'
end
end K16S
/-! ## part Ord -/
set_option Elab.async false
set_option linter.all false
set_option maxRecDepth 100000
set_option maxHeartbeats 1000000
/-! rows in order, without twins: one such row for its members -/
namespace K16
open PySem PySem.Spec PyProof.Rows L2
theorem nm_tot {x y : Nm} (h1 : ¬ x < y) (h2 : ¬ y < x) : x = y := by
  have a : ¬ x.val < y.val := h1
  have b : ¬ y.val < x.val := h2
  exact Fin.ext (by omega)
theorem ltS_irrefl : ∀ a : Sx, ltS a a = false
  | [] => rfl
  | x :: a => by
    rw [ltS, ltS_irrefl a]
    simp
theorem ltS_trans : ∀ a b c : Sx, ltS a b = true → ltS b c = true → ltS a c = true
  | [], [], _, h, _ => by simp [ltS] at h
  | [], _ :: _, [], _, h => by simp [ltS] at h
  | [], _ :: _, _ :: _, _, _ => rfl
  | _ :: _, [], _, h, _ => by simp [ltS] at h
  | _ :: _, _ :: _, [], _, h => by simp [ltS] at h
  | x :: a, y :: b, z :: c, h1, h2 => by
    rw [ltS, Bool.or_eq_true, Bool.and_eq_true, decide_eq_true_eq, decide_eq_true_eq] at h1 h2 ⊢
    rcases h1 with h1 | ⟨h1, h1'⟩
    · rcases h2 with h2 | ⟨h2, _⟩
      · exact .inl (Nat.lt_trans h1 h2)
      · exact .inl (h2 ▸ h1)
    · rcases h2 with h2 | ⟨h2, h2'⟩
      · exact .inl (h1 ▸ h2)
      · exact .inr ⟨h1.trans h2, ltS_trans a b c h1' h2'⟩
theorem ltS_total : ∀ a b : Sx, ltS a b = false → ltS b a = false → a = b
  | [], [], _, _ => rfl
  | [], _ :: _, h, _ => by simp [ltS] at h
  | _ :: _, [], _, h => by simp [ltS] at h
  | x :: a, y :: b, h1, h2 => by
    rw [ltS, Bool.or_eq_false_iff, Bool.and_eq_false_iff, decide_eq_false_iff_not, decide_eq_false_iff_not] at h1 h2
    have e : x = y := nm_tot h1.1 h2.1
    subst e
    rw [ltS_total a b (h1.2.resolve_left fun h => h rfl) (h2.2.resolve_left fun h => h rfl)]
/-- a strict order -/
structure Ord {α : Type} (lt : α → α → Bool) : Prop where
  irr : ∀ a, lt a a = false
  tr : ∀ a b c, lt a b = true → lt b c = true → lt a c = true
  tot : ∀ a b, lt a b = false → lt b a = false → a = b
def ltN (a b : Nm) : Bool := decide (a < b)
theorem ordN : Ord ltN := ⟨fun a => by simp [ltN], fun a b c h1 h2 => by simp only [ltN, decide_eq_true_eq] at *; exact Nat.lt_trans h1 h2, fun a b h1 h2 => by simp only [ltN, decide_eq_false_iff_not] at *; exact nm_tot h1 h2⟩
theorem ordS : Ord ltS := ⟨ltS_irrefl, ltS_trans, ltS_total⟩
/-- in order, without twins -/
def Ris {α : Type} (lt : α → α → Bool) (l : List α) : Prop := l.Pairwise fun a b => lt a b = true
section
variable {α : Type} {lt : α → α → Bool}
theorem Ris.nodup (O : Ord lt) {l : List α} (h : Ris lt l) : l.Nodup := h.imp fun {a b} h e => by
  rw [e, O.irr] at h
  cases h
theorem Ris.one (O : Ord lt) : ∀ {l m : List α}, Ris lt l → Ris lt m → (∀ x, x ∈ l ↔ x ∈ m) → l = m
  | [], [], _, _, _ => rfl
  | [], y :: m, _, _, h => absurd ((h y).mpr List.mem_cons_self) (by simp)
  | x :: l, [], _, _, h => absurd ((h x).mp List.mem_cons_self) (by simp)
  | x :: l, y :: m, h1, h2, h => by
    obtain ⟨a1, b1⟩ := List.pairwise_cons.mp h1
    obtain ⟨a2, b2⟩ := List.pairwise_cons.mp h2
    have e : x = y := by
      rcases List.mem_cons.mp ((h x).mp List.mem_cons_self) with e | hx
      · exact e
      · rcases List.mem_cons.mp ((h y).mpr List.mem_cons_self) with e | hy
        · exact e.symm
        · have := O.tr _ _ _ (a1 y hy) (a2 x hx)
          rw [O.irr] at this
          cases this
    subst e
    rw [Ris.one O b1 b2 fun z => ?_]
    constructor
    · intro hz
      rcases List.mem_cons.mp ((h z).mp (List.mem_cons_of_mem _ hz)) with e | hm
      · subst e
        have := a1 z hz
        rw [O.irr] at this
        cases this
      · exact hm
    · intro hz
      rcases List.mem_cons.mp ((h z).mpr (List.mem_cons_of_mem _ hz)) with e | hm
      · subst e
        have := a2 z hz
        rw [O.irr] at this
        cases this
      · exact hm
theorem Ris.filter {l : List α} (h : Ris lt l) (p : α → Bool) : Ris lt (l.filter p) := List.Pairwise.sublist List.filter_sublist h
def leO (lt : α → α → Bool) (a b : α) : Bool := !lt b a
def srt (lt : α → α → Bool) (l : List α) : List α := l.mergeSort (leO lt)
theorem leO_trans (O : Ord lt) (a b c : α) (h1 : leO lt a b = true) (h2 : leO lt b c = true) : leO lt a c = true := by
  unfold leO at *
  rw [Bool.not_eq_true'] at *
  cases q : lt c a with
  | false => rfl
  | true =>
    cases q2 : lt a b with
    | true => rw [O.tr c a b q q2] at h2; cases h2
    | false => rw [O.tot a b q2 h1] at q; rw [q] at h2; cases h2
theorem leO_total (O : Ord lt) (a b : α) : (leO lt a b || leO lt b a) = true := by
  unfold leO
  cases q : lt b a with
  | false => rfl
  | true =>
    cases q2 : lt a b with
    | false => rfl
    | true => have := O.tr _ _ _ q q2; rw [O.irr] at this; cases this
theorem srt_perm (l : List α) : (srt lt l).Perm l := List.mergeSort_perm _ _
theorem srt_mem {l : List α} {x : α} : x ∈ srt lt l ↔ x ∈ l := (srt_perm l).mem_iff
theorem srt_pw (O : Ord lt) (l : List α) : (srt lt l).Pairwise fun a b => leO lt a b = true := List.pairwise_mergeSort (leO_trans O) (leO_total O) l
theorem ris_of_le (O : Ord lt) {l : List α} (h : l.Pairwise fun a b => leO lt a b = true) (hn : l.Nodup) : Ris lt l := by
  refine List.Pairwise.imp₂ (fun a b h1 h2 => ?_) h hn
  cases q : lt a b with
  | true => rfl
  | false =>
    unfold leO at h1
    rw [Bool.not_eq_true'] at h1
    exact absurd (O.tot a b q h1) h2
theorem srt_ris (O : Ord lt) {l : List α} (hn : l.Nodup) : Ris lt (srt lt l) := ris_of_le O (srt_pw O l) ((srt_perm l).nodup_iff.mpr hn)
/-- two rows in order (weakly) that are one another's permutations are one -/
theorem pw_one (O : Ord lt) : ∀ {l m : List α}, l.Pairwise (fun a b => leO lt a b = true) → m.Pairwise (fun a b => leO lt a b = true) → l.Perm m → l = m
  | [], m, _, _, p => (List.Perm.nil_eq p)
  | x :: l, [], _, _, p => absurd p.length_eq (by simp)
  | x :: l, y :: m, h1, h2, p => by
    obtain ⟨a1, b1⟩ := List.pairwise_cons.mp h1
    obtain ⟨a2, b2⟩ := List.pairwise_cons.mp h2
    have e : x = y := by
      rcases List.mem_cons.mp (p.mem_iff.mp List.mem_cons_self) with e | hx
      · exact e
      · rcases List.mem_cons.mp (p.mem_iff.mpr List.mem_cons_self) with e | hy
        · exact e.symm
        · have q1 := a1 y hy
          have q2 := a2 x hx
          unfold leO at q1 q2
          rw [Bool.not_eq_true'] at q1 q2
          exact O.tot _ _ q2 q1
    subst e
    rw [pw_one O b1 b2 ((List.perm_cons x).mp p)]
theorem srt_same (O : Ord lt) {l : List α} (h : Ris lt l) : srt lt l = l := pw_one O (srt_pw O l) (h.imp fun {a b} h => by
  unfold leO
  cases q : lt b a with
  | false => rfl
  | true => have := O.tr _ _ _ h q; rw [O.irr] at this; cases this) (srt_perm l)
variable [DecidableEq α]
def nub : List α → List α
  | [] => []
  | x :: l => if x ∈ nub l then nub l else x :: nub l
theorem nub_mem : ∀ {l : List α} {x : α}, x ∈ nub l ↔ x ∈ l
  | [], x => Iff.rfl
  | y :: l, x => by
    have ih := fun {x : α} => nub_mem (l := l) (x := x)
    unfold nub
    split
    · next h =>
      rw [ih, List.mem_cons]
      constructor
      · exact .inr
      · rintro (e | h2)
        · subst e; exact ih.mp h
        · exact h2
    · rw [List.mem_cons, List.mem_cons, ih]
theorem nub_nodup : ∀ l : List α, (nub l).Nodup
  | [] => List.nodup_nil
  | y :: l => by
    unfold nub
    split
    · exact nub_nodup l
    · next h => exact List.nodup_cons.mpr ⟨h, nub_nodup l⟩
/-- the members in order, each once -/
def canon (lt : α → α → Bool) (l : List α) : List α := srt lt (nub l)
theorem canon_ris (O : Ord lt) (l : List α) : Ris lt (canon lt l) := srt_ris O (nub_nodup l)
theorem canon_mem {l : List α} {x : α} : x ∈ canon lt l ↔ x ∈ l := srt_mem.trans nub_mem
theorem canon_one (O : Ord lt) {l m : List α} (h : Ris lt m) (e : ∀ x, x ∈ m ↔ x ∈ l) : m = canon lt l := Ris.one O h (canon_ris O l) fun x => (e x).trans canon_mem.symm
theorem canon_same (O : Ord lt) {l : List α} (h : Ris lt l) : canon lt l = l := (canon_one O h fun _ => Iff.rfl).symm
end
abbrev canS (l : List Sx) : List Sx := canon ltS l
abbrev srtS (l : List Sx) : List Sx := srt ltS l
abbrev srtN (l : Sx) : Sx := srt ltN l
abbrev RisN (l : Sx) : Prop := Ris ltN l
abbrev RisS (l : List Sx) : Prop := Ris ltS l
end K16
/-! ## part Sr -/
set_option Elab.async false
set_option linter.all false
set_option maxRecDepth 100000
set_option maxHeartbeats 2000000
/-! the rules: sorted(set(e)), sorted(e) of sets, sorted(e) of names -/
namespace K16
open PySem PySem.Spec PyProof.Rows L2 K16S
open Evl (Ex)
/-- rows of references -/
theorem rows_of {G : Hp} : ∀ {ss : List Sx} {vs : List V}, RqA G vs (ss.map tS) → ∃ ks : List (Addr × Sx), vs = ks.map (fun p => V.ref p.1) ∧ ss = ks.map (·.2) ∧ ∀ p ∈ ks, Rq G (.ref p.1) (tS p.2)
  | [], vs, h => by
    have := h.rp.length
    cases vs with
    | nil => exact ⟨[], rfl, rfl, fun p hp => (by cases hp)⟩
    | cons v vs => cases this
  | s :: ss, vs, h => by
    obtain ⟨v, hv, rv⟩ := h.at_ (i := 0) (d := tS s) rfl
    have h1 := h.drop 1
    obtain ⟨a, ws, rfl, _⟩ := rv.tuple
    match vs, hv, h1 with
    | v' :: vs', hv, h1 =>
      injection hv with hv
      subst hv
      obtain ⟨ks, e1, e2, h3⟩ := rows_of (ss := ss) (vs := vs') h1
      refine ⟨(a, s) :: ks, by rw [List.map_cons, e1], by rw [List.map_cons, ← e2], fun p hp => ?_⟩
      rcases List.mem_cons.mp hp with e | hp
      · subst e; exact rv
      · exact h3 p hp
theorem refs_vals : ∀ {ks : List (Addr × Sx)} {us : List Value}, Vals (ks.map fun p => V.ref p.1) us → us = ks.map fun p => Value.ref p.1
  | [], _, .nil => rfl
  | p :: ks, _, .cons h t => by rw [List.map_cons, ← refs_vals t]; rw [show _ = Value.ref p.1 from h]
theorem reads_items {P : Program} {w : World} {h : Heap} : ∀ {k : List Str} {vs : List Value} {as : List Addr}, ReadsAll h vs (k.map .str) as → ItemsAre (PySem.strKind P w) k vs
  | [], _, _, .nil => .nil
  | x :: k, _, _, .cons r t => by
    cases r with
    | str _ tk => exact .cons (by simp [PySem.strKind, Value.isStrOf]) (reads_items t)
theorem reads_ky {P : Program} {w : World} {h : Heap} {k : List Str} {a : Addr} {as : List Addr} (r : Reads h (.ref a) (tSt k) as) : Ky P w h k a := by
  cases r with
  | tuple h1 h2 h3 h4 => exact ⟨_, _, _, h1, h2, h3, reads_items h4⟩
theorem tS_tSt (s : Sx) : tS s = tSt (s.map txt) := by
  show PyData.tuple (s.map tN) = .tuple ((s.map txt).map .str)
  rw [List.map_map]
  rfl
theorem map_txt_inj {a b : Sx} (h : a.map txt = b.map txt) : a = b := map_inj txt_inj h
/-- the reading: e is a list or a tuple of sets of names, few of them -/
def rSet : V → Hp → VK → Prop := fun v H Q => ∃ (G : Hp) (ss U : List Sx), (Rq G v (lSS ss) ∨ Rq G v (tSS ss)) ∧ Ex G H ∧ U.length < 64 ∧ (∀ s ∈ ss, s ∈ U) ∧ ∀ v2 G2 H2, Stp G H G2 H2 → Rq G2 v2 (lSS (canS ss)) → Q v2 H2
def tSrtSet (te : TE) : TE := fun σ H Q => te σ H fun v H1 => rSet v H1 Q
/-- which keys fit the rows -/
theorem sorted_rows {ks : List (Addr × Sx)} {L' : List K16S.Row} (h1 : ∀ q ∈ L', ∃ p ∈ ks, q = (p.1, p.2.map txt)) (h2 : ∀ p ∈ ks, p.2.map txt ∈ L'.map (·.2)) (nd : (L'.map (·.2)).Nodup) (pw : L'.Pairwise (fun q r => lexLt itemOrd (rkey r) (rkey q) = false)) :
    ∃ M : List (Addr × Sx), L' = M.map (fun p => (p.1, p.2.map txt)) ∧ (∀ p ∈ M, p ∈ ks) ∧ M.map (·.2) = canS (ks.map (·.2)) := by
  have ex : ∀ L : List K16S.Row, (∀ q ∈ L, ∃ p ∈ ks, q = (p.1, p.2.map txt)) → ∃ M : List (Addr × Sx), L = M.map (fun p => (p.1, p.2.map txt)) ∧ ∀ p ∈ M, p ∈ ks := by
    intro L
    induction L with
    | nil => intro _; exact ⟨[], rfl, fun p hp => (by cases hp)⟩
    | cons q L ih =>
      intro h
      obtain ⟨p, hp, e⟩ := h q List.mem_cons_self
      obtain ⟨M, e1, h1⟩ := ih fun r hr => h r (List.mem_cons_of_mem _ hr)
      refine ⟨p :: M, by rw [List.map_cons, ← e, e1], fun r hr => ?_⟩
      rcases List.mem_cons.mp hr with z | z
      · subst z; exact hp
      · exact h1 r z
  obtain ⟨M, rfl, hM⟩ := ex L' h1
  refine ⟨M, rfl, hM, ?_⟩
  rw [List.map_map] at nd h2
  have ndM : (M.map (·.2)).Nodup := by
    have := nd
    refine List.pairwise_map.mpr (List.Pairwise.imp ?_ (List.pairwise_map.mp this))
    intro a b h e
    exact h (congrArg (List.map txt) e)
  have pwM : (M.map (·.2)).Pairwise fun a b => leO ltS a b = true := by
    refine List.pairwise_map.mpr ((List.pairwise_map.mp pw).imp fun {a b} h => ?_)
    unfold leO
    have e : ltS b.2 a.2 = false := by
      rw [← dlt_tS, tS_tSt, tS_tSt]
      exact h
    rw [e]
    rfl
  refine canon_one ordS (ris_of_le ordS pwM ndM) fun x => ?_
  constructor
  · intro hx
    obtain ⟨p, hp, rfl⟩ := List.mem_map.mp hx
    exact List.mem_map.mpr ⟨p, hM p hp, rfl⟩
  · intro hx
    obtain ⟨p, hp, rfl⟩ := List.mem_map.mp hx
    obtain ⟨q, hq, e⟩ := List.mem_map.mp (h2 p hp)
    have e' : q.2 = p.2 := map_txt_inj e
    rw [← e']
    exact List.mem_map.mpr ⟨q, hq, rfl⟩
section
variable {X : Cx} {k : Nat}
theorem sortedSet_at (hr : Room k X.A) (hc : X.calm = true) {pins : List (Addr × Obj)} {s : Shared} {σ : L2.St} {H : Hp} {v : V} {u : Value} {Q : VK} (I : Inv X pins σ H s) (r : RelV v u) (h : rSet v H Q) {E : Value → Shared → Prop} :
    wpAny (model X.prog X.w) X.A (call (.type "set") [u]) (fun z s1 => wpAny (model X.prog X.w) X.A (call (.builtin "sorted") [z]) (EP X pins σ Q) E s1) E s := by
  obtain ⟨G, ss, U, hv, e, hU, hin, q⟩ := h
  have hd := I.ok.hd hc
  have hu : X.A.units + 10 < cLine := by have := hr.un; omega
  obtain ⟨a, vs, rfl, hvs, hG⟩ : ∃ a vs, v = .ref a ∧ RqA G vs (ss.map tS) ∧ (G a = some (.lst vs) ∨ G a = some (.tup vs)) := by
    rcases hv with hv | hv
    · obtain ⟨a, vs, rfl, h1, h2, _⟩ := hv.list
      exact ⟨a, vs, rfl, h2, .inl h1⟩
    · obtain ⟨a, vs, rfl, h1, h2, _⟩ := hv.tuple
      exact ⟨a, vs, rfl, h2, .inr h1⟩
  obtain ⟨ks, rfl, rfl, hks⟩ := rows_of hvs
  obtain rfl : u = Value.ref a := r
  have kys : ∀ p ∈ ks.map (fun p : Addr × Sx => ((p.1, p.2.map txt) : K16S.Row)), Ky X.prog X.w s.heap p.2 p.1 := fun p hp => by
    obtain ⟨p', hp', rfl⟩ := List.mem_map.mp hp
    obtain ⟨as, rd⟩ := (hks p' hp').reads I e (show RelV (V.ref p'.1) (Value.ref p'.1) from rfl)
    rw [tS_tSt] at rd
    exact reads_ky rd
  have fin : ∀ (items : Array Value), items.toList = ks.map (fun p => Value.ref p.1) → ∀ (h' : Heap) (tk : Nat) L es ep t, SetS X.prog X.w h' s.heap.objs.size L es ep t → Has (ks.map (fun p : Addr × Sx => ((p.1, p.2.map txt) : K16S.Row))) (ks.map (fun p : Addr × Sx => ((p.1, p.2.map txt) : K16S.Row))).length L → (∀ b o, s.heap.get? b = some o → h'.get? b = some o) →
      wpAny (model X.prog X.w) X.A (call (.builtin "sorted") [.ref s.heap.objs.size]) (EP X pins σ Q) E { s with heap := h', toks := tk } := by
    intro items hit h' tk L es ep t R g keep
    have I1 : Inv X pins σ H { s with heap := h', toks := tk } := I.kept (t' := tk) keep
    refine sorted_setS R hd hu fun s' p out c L' k g2 o hp hg hout pm pw => ?_
    have hlen := R.few
    obtain ⟨M, rfl, hM, hcan⟩ := sorted_rows (ks := ks) (L' := L') (fun q hq => by
        obtain ⟨p', hp', e'⟩ := List.mem_map.mp (List.mem_of_mem_take (g.sub q (pm.mem_iff.mp hq)))
        exact ⟨p', hp', e'.symm⟩) (fun p' hp' => by
        rw [(pm.map (·.2)).mem_iff]
        exact g.all (p'.1, p'.2.map txt) (by rw [List.take_length]; exact List.mem_map.mpr ⟨p', hp', rfl⟩)) ((pm.map (·.2)).nodup_iff.mpr R.nd) pw
    have hl64 : M.length < 64 := by
      have := pm.length_eq
      rw [List.length_map] at this
      omega
    have hn : H p = none := I1.hok.fresh hp
    rw [List.map_map] at hout
    have hv : Vals (M.map fun q => V.ref q.1) out.toList := by
      rw [hout]
      clear hout hcan hM hl64
      have : ∀ M : List (Addr × Sx), Vals (M.map fun q => V.ref q.1) (M.map ((fun q : K16S.Row => Value.ref q.1) ∘ fun p : Addr × Sx => (p.1, p.2.map txt))) := fun M => by
        induction M with
        | nil => exact .nil
        | cons m M ih => exact .cons rfl ih
      exact this M
    obtain ⟨h2, g3, d3, t3, o3⟩ := s'
    obtain rfl : o3 = s.os := o
    have J := I1.call (h' := h2) (g' := g3) (d' := d3) (t' := t3) (ch := []) (Un.laid k hp hn) (I1.hok.laid k hp (o := .lst (M.map fun q => V.ref q.1)) ⟨by rw [List.length_map, sizeLine_eq]; omega, out.toList, c, hv, hg⟩) (by rw [show g3 = s.gens from g2]; exact I1.bare) (fun _ z => nomatch z)
    have st := Stp.new (o := .lst (M.map fun q => V.ref q.1)) e hn
    refine ⟨.ref p, _, J, rfl, q _ _ _ st (.of_lst (ds := (canS (ks.map (·.2))).map tS) upd_same ?_ ?_)⟩
    · rw [← hcan]
      have : ∀ M : List (Addr × Sx), (∀ p ∈ M, p ∈ ks) → RqA G (M.map fun q => V.ref q.1) ((M.map (·.2)).map tS) := fun M => by
        induction M with
        | nil => intro _; exact .nil
        | cons m M ih => intro h; exact .cons (hks m (h m List.mem_cons_self)) (ih fun p hp => h p (List.mem_cons_of_mem _ hp))
      exact (this M hM).mono st.eg
    · rw [← hcan, List.length_map, List.length_map]
      omega
  have hUt : (U.map fun s => s.map txt).length < 64 := by rw [List.length_map]; exact hU
  have hmU : ∀ p ∈ ks.map (fun p : Addr × Sx => ((p.1, p.2.map txt) : K16S.Row)), p.2 ∈ U.map fun s => s.map txt := fun p hp => by
    obtain ⟨p', hp', rfl⟩ := List.mem_map.mp hp
    exact List.mem_map.mpr ⟨p'.2, hin _ (List.mem_map.mpr ⟨p', hp', rfl⟩), rfl⟩
  have mm : (ks.map (fun p => Value.ref p.1)) = (ks.map (fun p : Addr × Sx => ((p.1, p.2.map txt) : K16S.Row))).map fun p => Value.ref p.1 := by rw [List.map_map]; rfl
  rcases hG with hG | hG
  · obtain ⟨hl, us, n, hv, ho⟩ := I.hok a _ (e _ _ hG)
    have hus := refs_vals hv
    refine set_of (items := us.toArray) (T := "list") F.sub_list_set F.sub_list_frozenset (by decide) ho rfl (begins_list a us.toArray) ⟨_, ho, rfl, n, rfl⟩ (fun it A' hne hh' => Walks.list hh' it a hne us.toArray) (fun it h' hit hl => ⟨⟨_, hit, rfl, rfl⟩, hl⟩) _ _ hd (by rw [List.toList_toArray, hus]; exact mm) kys hmU hUt (by omega) (fin us.toArray (by rw [List.toList_toArray]; exact hus))
  · obtain ⟨hl, us, hv, o, ho, hcl, n, hdt⟩ := I.hok a _ (e _ _ hG)
    have hus := refs_vals hv
    refine set_of (items := us.toArray) (T := "tuple") F.sub_tuple_set F.sub_tuple_frozenset (by decide) ho hcl (begins_tuple a us.toArray) ⟨_, ho, hcl, n, hdt⟩ (fun it A' hne hh' => Walks.tuple hh' it a hne us.toArray) (fun it h' hit hl => ⟨⟨_, hit, rfl, rfl⟩, hl⟩) _ _ hd (by rw [List.toList_toArray, hus]; exact mm) kys hmU hUt (by omega) (fin us.toArray (by rw [List.toList_toArray]; exact hus))
theorem pe_sortedSet {e : Expr} {te : TE} {p p2 pos pos2 : Pos} (hr : Room k X.A) (hc : X.calm = true) (hg : Gl X "sorted") (hm : X.mg "sorted" = none) (hg2 : Gl X "set") (hm2 : X.mg "set" = none) (he : PE X e te)
    (na : starEach [e] X.env = (false, eval e X.env) :: starEach [] X.env := by rfl)
    (na2 : starEach [.Call (.Name "set" p2) [e] [] pos2] X.env = (false, eval (.Call (.Name "set" p2) [e] [] pos2) X.env) :: starEach [] X.env := by rfl) :
    PE X (.Call (.Name "sorted" p) [.Call (.Name "set" p2) [e] [] pos2] [] pos) (tSrtSet te) := by
  refine ⟨fun pins s σ H Q I h => ?_⟩
  refine Call_ (ld_blt I hg hm boot_sorted (PyProof.Rows.callWith_builtin1 (args_cons (Call_ (ld_blt I hg2 hm2 boot_set (PyProof.Rows.callWith_type1 (one_arg he I h (fun v s2 x H2 I2 r q => ?_) na) na))) na2) na2))
  refine wpAny_mono (sortedSet_at (E := X.xe) hr hc I2 r q) (fun z s3 hz => ?_) fun _ _ z => z
  exact args_nil hz
end
section
variable {env : En} {te : TE} {ss : List Sx}
theorem ev_srtSet (h : EvE te env (lSS ss) ∨ EvE te env (tSS ss)) (U : List Sx) (hU : U.length < 64) (hin : ∀ s ∈ ss, s ∈ U) : EvE (tSrtSet te) env (lSS (canS ss)) := fun σ G H r e Q q => by
  rcases h with h | h
  · exact h σ G H r e _ fun v G1 H1 s1 r1 => ⟨G1, ss, U, .inl r1, s1.in_, hU, hin, fun v2 G2 H2 s2 r2 => q v2 G2 H2 (s1.trans s2) r2⟩
  · exact h σ G H r e _ fun v G1 H1 s1 r1 => ⟨G1, ss, U, .inr r1, s1.in_, hU, hin, fun v2 G2 H2 s2 r2 => q v2 G2 H2 (s1.trans s2) r2⟩
end
end K16
/-! ## part Sr2 -/
set_option Elab.async false
set_option linter.all false
set_option maxRecDepth 100000
set_option maxHeartbeats 2000000
namespace K16
open PySem PySem.Spec PyProof.Rows L2 K16S
open Evl (Ex)
def RSrtS (ds : List D) (d : D) : Prop := ∃ ss : List Sx, ds = [lSS ss] ∧ d = lSS (srtS ss)
theorem rq_refs {G : Hp} {ks : List (Addr × Sx)} (hks : ∀ p ∈ ks, Rq G (.ref p.1) (tS p.2)) : ∀ M : List (Addr × Sx), (∀ p ∈ M, p ∈ ks) → RqA G (M.map fun q => V.ref q.1) ((M.map (·.2)).map tS)
  | [], _ => .nil
  | m :: M, h => .cons (hks m (h m List.mem_cons_self)) (rq_refs hks M fun p hp => h p (List.mem_cons_of_mem _ hp))
theorem vals_refs : ∀ M : List (Addr × Sx), Vals (M.map fun q => V.ref q.1) (M.map fun q => Value.ref q.1)
  | [] => .nil
  | m :: M => .cons rfl (vals_refs M)
abbrev nkey (p : Addr × Sx) : List (Int ⊕ List Nat) := PySem.W.keyToks (tS p.2)
theorem call_sortedS {X : Cx} {k : Nat} (hr : Room k X.A) : CallR X (.builtin "sorted") (rD RSrtS) := by
  intro pins s σ H vs us Q I r ⟨G, ds, d, ⟨ss, hds, hd2⟩, e, ra, q⟩
  subst hds hd2
  obtain ⟨v, rfl, rv⟩ := ra.one
  obtain ⟨a, ws, rfl, h1, h2, h3⟩ := rv.list
  obtain ⟨ks, rfl, rfl, hks⟩ := rows_of h2
  rw [Vals.ref1 r]
  obtain ⟨hl, its, n, hv, ho⟩ := I.hok a _ (e _ _ h1)
  have hus := refs_vals hv
  subst hus
  have hlen : (ks.map fun p => Value.ref p.1).length ≤ sizeLine := by
    rw [List.length_map] at hl ⊢
    exact hl
  have rds : ∀ p ∈ ks, ∃ as, Reads (PySem.W.sortingHeap (PySem.W.copyHeap s.heap (ks.map fun p => Value.ref p.1)) (s.heap.objs.size + 1) (ks.map fun p => Value.ref p.1)) (.ref p.1) (tS p.2) as := fun p hp => by
    obtain ⟨as, rd⟩ := (hks p hp).reads I e (show RelV (V.ref p.1) (Value.ref p.1) from rfl)
    rw [tS_tSt] at rd ⊢
    exact ky_reads (P := X.prog) (w := X.w) (ky_keep (reads_ky rd) fun c u e => PySem.W.sorting_copy_old e)
  have er := each_rows (f := fun q : Addr × Sx => Value.ref q.1) (g := fun q : Addr × Sx => tS q.2) (R := fun v d => ∃ as, Reads (PySem.W.sortingHeap (PySem.W.copyHeap s.heap (ks.map fun p => Value.ref p.1)) (s.heap.objs.size + 1) (ks.map fun p => Value.ref p.1)) v d as) (L := ks) rds
  have hal : PySem.W.AllAlike (ks.map fun q : Addr × Sx => tS q.2) := by
    intro d hd d' hd'
    obtain ⟨p, _, rfl⟩ := List.mem_map.mp hd
    obtain ⟨q, _, rfl⟩ := List.mem_map.mp hd'
    exact alike_tS _ _
  have S := K16Q.SortsAt.tups (prog := X.prog) (w := X.w) (A := X.A.in1.in1) (s := { s with heap := PySem.W.sortingHeap (PySem.W.copyHeap s.heap (ks.map fun p => Value.ref p.1)) (s.heap.objs.size + 1) (ks.map fun p => Value.ref p.1) }) er hal (fun d hd => by
      obtain ⟨p, _, rfl⟩ := List.mem_map.mp hd
      exact ⟨_, rfl⟩) (fun d hd => by
      obtain ⟨p, _, rfl⟩ := List.mem_map.mp hd
      have h1 := (flat_tS p.2).dp
      have h2 := hr.un
      show X.A.units + 1 + 1 + _ < cLine
      omega)
  have hk : PySem.W.EachIs (fun v (b : Addr × Sx) => (PySem.W.dataKind (PySem.W.sortingHeap (PySem.W.copyHeap s.heap (ks.map fun p => Value.ref p.1)) (s.heap.objs.size + 1) (ks.map fun p => Value.ref p.1)) (ks.map fun q : Addr × Sx => tS q.2)).keyOf v = some (nkey b)) (ks.map fun q => Value.ref q.1) ks := by
    have := each_rows (f := fun q : Addr × Sx => Value.ref q.1) (g := fun q : Addr × Sx => q) (R := fun v (b : Addr × Sx) => (PySem.W.dataKind (PySem.W.sortingHeap (PySem.W.copyHeap s.heap (ks.map fun p => Value.ref p.1)) (s.heap.objs.size + 1) (ks.map fun p => Value.ref p.1)) (ks.map fun q : Addr × Sx => tS q.2)).keyOf v = some (nkey b)) (L := ks) fun p hp => by
      obtain ⟨as, r⟩ := rds p hp
      exact PySem.W.dataKind_some hal (List.mem_map.mpr ⟨p, hp, rfl⟩) r
    rw [List.map_id'] at this
    exact this
  have e1 := PySem.W.sortVals_each (κ := PySem.W.dataKind (PySem.W.sortingHeap (PySem.W.copyHeap s.heap (ks.map fun p => Value.ref p.1)) (s.heap.objs.size + 1) (ks.map fun p => Value.ref p.1)) (ks.map fun q : Addr × Sx => tS q.2)) (rev := false) (R := fun v (b : Addr × Sx) => v = Value.ref b.1) nkey (by
    have := each_rows (f := fun q : Addr × Sx => Value.ref q.1) (g := fun q : Addr × Sx => q) (R := fun v (b : Addr × Sx) => v = Value.ref b.1) (L := ks) fun p hp => rfl
    rw [List.map_id'] at this
    exact this) hk
  have e2 := each_inv e1 fun a b h => h
  have pw0 := PySem.W.sort_pairwise (PySem.W.sortLe_total (PySem.W.dataKind (PySem.W.sortingHeap (PySem.W.copyHeap s.heap (ks.map fun p => Value.ref p.1)) (s.heap.objs.size + 1) (ks.map fun p => Value.ref p.1)) (ks.map fun q : Addr × Sx => tS q.2)).toKeyOrd false nkey) ks
  have pm := List.mergeSort_perm ks (PySem.W.sortLe (PySem.W.dataKind (PySem.W.sortingHeap (PySem.W.copyHeap s.heap (ks.map fun p => Value.ref p.1)) (s.heap.objs.size + 1) (ks.map fun p => Value.ref p.1)) (ks.map fun q : Addr × Sx => tS q.2)).toKeyOrd false nkey)
  refine PySem.W.sorted_vals ⟨_, ho, rfl, n, rfl⟩ S hlen ?_
  rw [e2]
  generalize ks.mergeSort _ = M at pw0 pm
  obtain ⟨ep, he'⟩ := sortedAll_at s.heap (ks.map fun p => Value.ref p.1) (M.map fun b => Value.ref b.1).toArray
  have hM : M.map (·.2) = srtS (ks.map (·.2)) := by
    refine pw_one ordS ?_ (srt_pw ordS _) ((pm.map (·.2)).trans (srt_perm _).symm)
    refine List.pairwise_map.mpr (pw0.imp fun {a b} h => ?_)
    have h' : (!lexLt itemOrd (nkey b) (nkey a)) = true := h
    unfold leO
    rw [← dlt_tS]
    exact h'
  have hn : H (s.heap.objs.size + 1) = none := I.hok.fresh (Nat.le_succ _)
  have st := Stp.new (o := .lst (M.map fun q => V.ref q.1)) e hn
  refine ⟨.ref _, upd H (s.heap.objs.size + 1) (.lst (M.map fun q => V.ref q.1)), I.laid (t' := s.toks) (fun _ _ => PyProof.Rows.sortedAll_old) (Nat.le_succ _) ⟨by rw [List.length_map, pm.length_eq]; rw [List.length_map] at hlen; exact hlen, _, ep, vals_refs M, he'⟩, rfl, q _ _ _ st (.of_lst upd_same ?_ ?_)⟩
  · rw [← hM]
    exact (rq_refs hks M fun p hp => pm.mem_iff.mp hp).mono st.eg
  · rw [← hM, List.length_map, List.length_map, pm.length_eq]
    rw [List.length_map, List.length_map] at h3
    exact h3
/-! ### names -/
theorem le_cps : ∀ a b : Nm, ltCps (txt a).cps.toList (txt b).cps.toList = decide (a < b) := by decide +kernel
theorem rising_txt : ∀ (l : Sx) (p : Nm), risingS (txt p) (l.map txt) = true → (p :: l).Pairwise fun a b => leO ltN a b = true
  | [], p, _ => by simp
  | x :: l, p, h => by
    rw [List.map_cons, risingS, Bool.and_eq_true, le_cps] at h
    have ih := rising_txt l x h.2
    refine List.pairwise_cons.mpr ⟨fun y hy => ?_, ih⟩
    have hpx : leO ltN p x = true := h.1
    rcases List.mem_cons.mp hy with e | hy
    · subst e; exact hpx
    · exact leO_trans ordN _ _ _ hpx ((List.pairwise_cons.mp ih).1 y hy)
theorem srt_names (s : Sx) (h : s.length < 64) : RSrt [lS s] (lS (srtN s)) := by
  refine ⟨s.map txt, (srtN s).map txt, ?_, by rw [List.length_map]; exact h, fun zs hp hs => ?_, ?_⟩
  · show [PyData.list (s.map tN)] = _
    rw [List.map_map]
    rfl
  · obtain ⟨ys, py, rfl⟩ := perm_map_of hp s rfl
    have : ys = srtN s := by
      refine pw_one ordN ?_ (srt_pw ordN s) (py.trans (srt_perm s).symm)
      cases ys with
      | nil => exact .nil
      | cons y ys => exact rising_txt ys y hs
    rw [this]
  · show PyData.list ((srtN s).map tN) = _
    rw [List.map_map]
    rfl
end K16
/-! ## part Fu -/
set_option Elab.async false
set_option linter.all false
set_option maxRecDepth 100000
set_option maxHeartbeats 1000000
/-! what the functions compute, over names, sets, trusts; typed rules -/
namespace K16
open PySem PySem.Spec PyProof.Rows L2
open Evl (Ex)
def withinF (a b : Sx) : Bool := a.all fun x => decide (x ∈ b)
def lessF (a b : Sx) : Sx := a.filter fun x => !decide (x ∈ b)
def jointF (a b : Sx) : Sx := a.filter fun x => decide (x ∈ b)
def risB {α : Type} (lt : α → α → Bool) (l : List α) : Bool := (l.zip (l.drop 1)).all fun p => lt p.1 p.2
theorem risB_true {α : Type} {lt : α → α → Bool} : ∀ {l : List α}, Ris lt l → risB lt l = true
  | [], _ => rfl
  | [x], _ => rfl
  | x :: y :: l, h => by
    obtain ⟨a1, b1⟩ := List.pairwise_cons.mp h
    have ih := risB_true (l := y :: l) b1
    unfold risB at *
    rw [List.drop_succ_cons, List.drop_zero] at *
    rw [List.zip_cons_cons, List.all_cons, Bool.and_eq_true]
    exact ⟨a1 y List.mem_cons_self, ih⟩
def housesF (T : Tru) : Sx := T.map Tri.h
def rowF (T : Tru) (a : Nm) : Tri := ((T.filter fun r => decide (r.h = a))[0]?).getD ⟨a, [], []⟩
def lotsF (T : Tru) (a : Nm) : List Sx := (rowF T a).lots
def fearsF (T : Tru) (a : Nm) : List Sx := (rowF T a).fears
def leastF (ss : List Sx) : List Sx := (canS ss).filter fun one => !((canS ss).any fun late => !decide (late = one) && withinF late one)
def greatestF (ss : List Sx) : List Sx := (canS ss).filter fun one => !((canS ss).any fun late => !decide (late = one) && withinF one late)
def fallsF (T : Tru) (a b : Nm) : List Sx := if a = b then greatestF (fearsF T a) else greatestF ((fearsF T a).flatMap fun one => (fearsF T b).map fun late => jointF one late)
abbrev Pr := Nm × Nat
def tPr (p : Pr) : D := .tuple [tN p.1, .int (p.2 : Int)]
def pairsF (T : Tru) : List Pr := T.flatMap fun t => (List.range t.lots.length).map fun k => (t.h, k)
def lotF (T : Tru) (p : Pr) : Sx := ((lotsF T p.1)[p.2]?).getD []
def foundF (T : Tru) (a : Nm) : List Sx := (pairsF T).flatMap fun p => if p.1 = a then [] else (fallsF T a p.1).map fun f => lessF (lotF T p) f
def needsF (T : Tru) (a : Nm) : List Sx := leastF (foundF T a)
def missF (ns : List Sx) (l : Sx) : Option Sx := ns.find? fun n => decide (jointF n l = [])
def stepF (need : Sx) (found : List Sx) : List Sx := found.flatMap fun lot => if jointF need lot = [] then need.map fun h => srtN (lot ++ [h]) else [lot]
def crossF (ns : List Sx) : List Sx := ns.foldl (fun found need => leastF (stepF need found)) [[]]
def subs : Sx → List Sx
  | [] => [[]]
  | x :: l => subs l ++ (subs l).map (x :: ·)
theorem subs_len : ∀ l : Sx, (subs l).length = 2 ^ l.length
  | [] => rfl
  | x :: l => by rw [subs, List.length_append, List.length_map, subs_len l, List.length_cons, Nat.pow_succ]; omega
theorem mem_subs : ∀ {l s : Sx}, s ∈ subs l ↔ s.Sublist l
  | [], s => by
    rw [subs, List.mem_singleton, List.sublist_nil]
  | x :: l, s => by
    rw [subs, List.mem_append, mem_subs (l := l), List.mem_map]
    constructor
    · rintro (h | ⟨r, hr, rfl⟩)
      · exact h.cons x
      · exact (mem_subs.mp hr).cons₂ x
    · intro h
      cases h with
      | cons _ h => exact .inl h
      | cons_cons _ h => exact .inr ⟨_, mem_subs.mpr h, rfl⟩
theorem sub_of_ris : ∀ {l s : Sx}, RisN l → RisN s → (∀ x ∈ s, x ∈ l) → s.Sublist l
  | [], s, _, _, h => by
    cases s with
    | nil => exact List.Sublist.refl _
    | cons x s => exact absurd (h x List.mem_cons_self) (by simp)
  | y :: l, [], _, _, _ => List.nil_sublist _
  | y :: l, x :: s, hl, hs, h => by
    obtain ⟨a1, b1⟩ := List.pairwise_cons.mp hl
    obtain ⟨a2, b2⟩ := List.pairwise_cons.mp hs
    rcases Classical.em (x = y) with e | e
    · subst e
      refine (sub_of_ris b1 b2 fun z hz => ?_).cons₂ x
      rcases List.mem_cons.mp (h z (List.mem_cons_of_mem _ hz)) with e | hm
      · subst e
        have := a2 z hz
        rw [ordN.irr] at this
        cases this
      · exact hm
    · refine (sub_of_ris b1 hs fun z hz => ?_).cons y
      rcases List.mem_cons.mp (h z hz) with e2 | hm
      · subst e2
        have hx : x ∈ l := (List.mem_cons.mp (h x List.mem_cons_self)).resolve_left e
        have q1 := a1 x hx
        rcases List.mem_cons.mp hz with e3 | hz
        · exact absurd e3.symm e
        · have := ordN.tr _ _ _ q1 (a2 z hz)
          rw [ordN.irr] at this
          cases this
      · exact hm
/-- a set of houses of n -/
structure SetOf (n s : Sx) : Prop where
  ris : RisN s
  sub : ∀ x ∈ s, x ∈ n
theorem SetOf.mem {n s : Sx} (hn : RisN n) (h : SetOf n s) : s ∈ subs n := mem_subs.mpr (sub_of_ris hn h.ris h.sub)
theorem SetOf.filter {n s : Sx} (h : SetOf n s) (p : Nm → Bool) : SetOf n (s.filter p) := ⟨h.ris.filter p, fun x hx => h.sub x (List.mem_filter.mp hx).1⟩
/-- a trust as drawn -/
structure VT (T : Tru) : Prop where
  ne : T ≠ []
  len : T.length ≤ 5
  ris : RisN (housesF T)
  lne : ∀ t ∈ T, t.lots ≠ []
  lris : ∀ t ∈ T, RisS t.lots
  lset : ∀ t ∈ T, ∀ s ∈ t.lots, s ≠ [] ∧ SetOf (housesF T) s
  fne : ∀ t ∈ T, t.fears ≠ []
  fris : ∀ t ∈ T, RisS t.fears
  fset : ∀ t ∈ T, ∀ s ∈ t.fears, SetOf (housesF T) s ∧ t.h ∉ s
section
variable {T : Tru}
theorem few_subs {n : Sx} (h : n.length ≤ 5) : (subs n).length ≤ 32 := by
  rw [subs_len]
  exact Nat.pow_le_pow_right (by decide) h
theorem VT.hlen (V : VT T) : (housesF T).length ≤ 5 := by unfold housesF; rw [List.length_map]; exact V.len
theorem ris_few {n : Sx} {ss : List Sx} (hn : RisN n) (h5 : n.length ≤ 5) (hr : ss.Nodup) (h : ∀ s ∈ ss, SetOf n s) : ss.length ≤ 32 :=
  Nat.le_trans (K16S.nodup_le ss (subs n) hr fun s hs => (h s hs).mem hn) (few_subs h5)
theorem VT.llen (V : VT T) {t : Tri} (ht : t ∈ T) : t.lots.length ≤ 32 := ris_few V.ris V.hlen ((V.lris t ht).nodup ordS) fun s hs => (V.lset t ht s hs).2
theorem VT.flen (V : VT T) {t : Tri} (ht : t ∈ T) : t.fears.length ≤ 32 := ris_few V.ris V.hlen ((V.fris t ht).nodup ordS) fun s hs => (V.fset t ht s hs).1
theorem rowF_some {a : Nm} (h : a ∈ housesF T) : ∃ t, (T.filter fun r => decide (r.h = a))[0]? = some t ∧ rowF T a = t ∧ t ∈ T ∧ t.h = a := by
  obtain ⟨t, ht, e⟩ := List.mem_map.mp h
  have hm : t ∈ T.filter fun r => decide (r.h = a) := List.mem_filter.mpr ⟨ht, decide_eq_true e⟩
  cases q : T.filter (fun r => decide (r.h = a)) with
  | nil => rw [q] at hm; cases hm
  | cons u r =>
    have hu : u ∈ T.filter fun r => decide (r.h = a) := by rw [q]; exact List.mem_cons_self
    obtain ⟨h1, h2⟩ := List.mem_filter.mp hu
    refine ⟨u, rfl, ?_, h1, of_decide_eq_true h2⟩
    unfold rowF
    rw [q]
    rfl
theorem rowF_mem {a : Nm} (h : a ∈ housesF T) : rowF T a ∈ T := by
  obtain ⟨t, _, e, ht, _⟩ := rowF_some h
  rw [e]; exact ht
end
/-! ### typed rules -/
section
variable {K : PySem.W.Frag} {env : En} {ta tb te tl th : TE} {tr : TA} {α : Type}
theorem src_zipT {f : α → D} {s t : List α} (h : EvA tr env [.tuple (s.map f), .tuple (t.map f)]) : SrcE (RZ.iZipA K tr) env ((s.zip t).map fun p => .tuple [f p.1, f p.2]) := by
  have := src_zip (K := K) h
  rw [List.zip_map, List.map_map] at this
  exact this
theorem ev_slFromT {f : α → D} {s : List α} {n : Nat} (h : EvE ta env (.tuple (s.map f))) (k : EvE tb env (.int (n : Int))) : EvE (tSl (rSlA K) ta (tPart tb) tNoPart) env (.tuple ((s.drop n).map f)) := by
  have := ev_slFrom (K := K) h k
  rw [← List.map_drop] at this
  exact this
theorem ev_slToT {f : α → D} {s : List α} {n : Nat} (h : EvE ta env (.tuple (s.map f))) (k : EvE tb env (.int (n : Int))) : EvE (tSl (rSlA K) ta tNoPart (tPart tb)) env (.tuple ((s.take n).map f)) := by
  have := ev_slTo (K := K) h k
  rw [← List.map_take] at this
  exact this
theorem ev_slToLT {f : α → D} {s : List α} {n : Nat} (h : EvE ta env (.list (s.map f))) (k : EvE tb env (.int (n : Int))) : EvE (tSl (rSlL K) ta tNoPart (tPart tb)) env (.list ((s.take n).map f)) := by
  have := ev_slToL (K := K) h k
  rw [← List.map_take] at this
  exact this
theorem ev_nat {n : Nat} (h : n ≤ 1000000000) : EvE (tC (.int (n : Int))) env (.int (n : Int)) := ev_int (by omega)
theorem ev_n1 : EvE (tC (.int 1)) env (.int ((1 : Nat) : Int)) := ev_nat (n := 1) (by decide)
theorem ev_n3 : EvE (tC (.int 3)) env (.int ((3 : Nat) : Int)) := ev_nat (n := 3) (by decide)
theorem ev_n4 : EvE (tC (.int 4)) env (.int ((4 : Nat) : Int)) := ev_nat (n := 4) (by decide)
theorem ix_h {t : Tri} : RIx (tTri t) (.int 0) (tN t.h) := ⟨_, 0, .inr rfl, rfl, rfl⟩
theorem ix_l {t : Tri} : RIx (tTri t) (.int 1) (tSS t.lots) := ⟨_, 1, .inr rfl, rfl, rfl⟩
theorem ix_f {t : Tri} : RIx (tTri t) (.int 2) (tSS t.fears) := ⟨_, 2, .inr rfl, rfl, rfl⟩
theorem ix_p0 {p : Pr} : RIx (tPr p) (.int 0) (tN p.1) := ⟨_, 0, .inr rfl, rfl, rfl⟩
theorem ix_p1 {p : Pr} : RIx (tPr p) (.int 1) (.int (p.2 : Int)) := ⟨_, 1, .inr rfl, rfl, rfl⟩
theorem ix_first {f : α → D} {l : List α} {x : α} (h : l[0]? = some x) : RIx (.list (l.map f)) (.int 0) (f x) := ⟨_, 0, .inl rfl, rfl, by rw [List.getElem?_map, h]; rfl⟩
theorem ix_firstT {f : α → D} {l : List α} {x : α} (h : l[0]? = some x) : RIx (.tuple (l.map f)) (.int 0) (f x) := ⟨_, 0, .inr rfl, rfl, by rw [List.getElem?_map, h]; rfl⟩
theorem ix_at {f : α → D} {l : List α} {k : Nat} {x : α} (h : l[k]? = some x) : RIx (.tuple (l.map f)) (.int (k : Int)) (f x) := ⟨_, k, .inr rfl, rfl, by rw [List.getElem?_map, h]; rfl⟩
/-- integers compared -/
def RLeI (a b d : D) : Prop := ∃ i j : Int, a = .int i ∧ b = .int j ∧ d = .bool (decide (i ≤ j))
def RGtI (a b d : D) : Prop := ∃ i j : Int, a = .int i ∧ b = .int j ∧ d = .bool (decide (j < i))
theorem op_leI' {X : Cx} : OpR X (compareOp .LtE) (rD2 RLeI) := OpR.imp op_le fun x y H Q ⟨G, a, b, d, ⟨i, j, ha, hb, hd⟩, e, ra, rb, q⟩ => by
  subst ha hb hd
  exact ⟨i, j, ra.int, rb.int, q _ G H (Stp.refl e) (.of_bool _)⟩
theorem op_gtI' {X : Cx} : OpR X (compareOp .Gt) (rD2 RGtI) := OpR.imp op_gt fun x y H Q ⟨G, a, b, d, ⟨i, j, ha, hb, hd⟩, e, ra, rb, q⟩ => by
  subst ha hb hd
  exact ⟨i, j, ra.int, rb.int, q _ G H (Stp.refl e) (.of_bool _)⟩
theorem le_int (i j : Int) : RLeI (.int i) (.int j) (.bool (decide (i ≤ j))) := ⟨i, j, rfl, rfl, rfl⟩
theorem gt_int (i j : Int) : RGtI (.int i) (.int j) (.bool (decide (j < i))) := ⟨i, j, rfl, rfl, rfl⟩
end
end K16
/-! ## part Lp -/
set_option Elab.async false
set_option linter.all false
set_option maxRecDepth 100000
set_option maxHeartbeats 1000000
/-! loops: what is known changes from turn to turn; a list of one's own that grows; a loop that may return -/
namespace K16
open PySem PySem.Spec PyProof.Rows L2
open Evl (Ex)
section
variable {α : Type} {xs : List α} {enc : α → D} {wi : TI} {g : TG} {tb u : TS} {js : List Nat} {env : En} {mu : Mu} {d0 : D}
theorem sm_forI (F : Nat → Mu) (W : Nat → En) {env4 : Nat → α → En} {env5 : Nat → α → En} (hs : SrcE wi env (xs.map enc)) (hw : Lw (W 0) env)
    (hb : ∀ (i : Nat) (x : α), xs[i]? = some x → GtE g (enc x) js (W i) (env4 i x) ∧ Off js (F i) ∧ SmE tb (env4 i x) (F i) (env5 i x) (F (i + 1)) ∧ Lw (W (i + 1)) (env5 i x)) : SmE (tFor wi g tb) env (F 0) (W xs.length) (F xs.length) := fun σ G H G0 H0 Dn mm q =>
  hs σ G H mm.rs mm.mu.st.in_ _ fun J G1 H1 s1 Wk => by
    have m1 : Mst G0 H0 (F 0) G1 H1 σ (W 0) := Mst.weak ⟨mm.rs.mono s1.eg, mm.mu.step s1⟩ hw
    refine ⟨fun i k σ' H' => k = xs.length - i ∧ i ≤ xs.length ∧ ∃ G', Mst G0 H0 (F i) G' H' σ' (W i) ∧ Ex G1 G', ⟨xs.length, by simp, Nat.zero_le _, G1, m1, Evl.Ex.refl _⟩, ?_⟩
    rintro i k σ' H' ⟨rfl, hi, G', m', e'⟩
    by_cases hlt : i < xs.length
    · refine .inr ⟨Wk.go i H' (Evl.Ex.trans e' m'.mu.st.in_) (by rw [List.length_map]; exact hlt), fun σ2 H2 => ∃ G', Mst G0 H0 (F (i + 1)) G' H2 σ2 (W (i + 1)) ∧ Ex G1 G', fun σ2 H2 o2 => ⟨xs.length - (i + 1), by omega, rfl, hlt, o2⟩, fun v H2 y => ?_⟩
      have hx : xs[i]? = some xs[i] := List.getElem?_eq_getElem hlt
      have hd : (xs.map enc)[i]? = some (enc xs[i]) := by rw [List.getElem?_map, hx] <;> rfl
      obtain ⟨G2, s2, rx⟩ := Wk.yld i _ G' H' v H2 e' m'.mu.st.in_ hd y
      obtain ⟨b1, b2, b3, b4⟩ := hb i _ hx
      refine b1 v σ' G2 H2 (m'.rs.mono s2.eg) s2.in_ rx _ fun σ3 r3 _ n3 => ?_
      have m3 : Mst G0 H0 (F i) G2 H2 σ3 (env4 i xs[i]) := ⟨r3, (m'.mu.step s2).at_ n3 b2⟩
      exact b3 σ3 G2 H2 G0 H0 _ m3 fun σ5 G5 H5 m5 e5 => ⟨G5, m5.weak b4, Evl.Ex.trans e' (Evl.Ex.trans s2.eg e5)⟩
    · have ei : i = xs.length := by omega
      subst ei
      exact .inl ⟨Wk.stop _ H' (Evl.Ex.trans e' m'.mu.st.in_) (by rw [List.length_map]), q σ' G' H' m' (Evl.Ex.trans s1.eg e')⟩
theorem take_flat {β : Type} {f : α → List β} {i : Nat} {x : α} (h : xs[i]? = some x) : (xs.take (i + 1)).flatMap f = (xs.take i).flatMap f ++ f x := by
  rw [List.take_succ, h, List.flatMap_append]
  simp
theorem take_flat_le {β : Type} {f : α → List β} {i : Nat} {x : α} (h : xs[i]? = some x) : ((xs.take i).flatMap f).length + (f x).length ≤ (xs.flatMap f).length := by
  have e := congrArg List.length (take_flat (f := f) h)
  rw [List.length_append] at e
  rw [← e]
  conv => rhs; rw [← List.take_append_drop (i + 1) xs, List.flatMap_append, List.length_append]
  omega
/-- a loop that lets an own list grow -/
theorem sm_forOwn (f : α → List D) (m : Nat) (acc0 : List D) {envW : En} {env4 env5 : α → En} (hs : SrcE wi env (xs.map enc)) (hw : Lw envW env) (hl : acc0.length + (xs.flatMap f).length ≤ 100000)
    (hb : ∀ x ∈ xs, GtE g (enc x) js envW (env4 x) ∧ m ∉ js ∧ (∀ acc : List D, acc.length + (f x).length ≤ 100000 → SmE tb (env4 x) (some (m, acc)) (env5 x) (some (m, acc ++ f x))) ∧ Lw envW (env5 x)) : SmE (tFor wi g tb) env (some (m, acc0)) envW (some (m, acc0 ++ xs.flatMap f)) := by
  have h := sm_forI (js := js) (tb := tb) (g := g) (fun i => some (m, acc0 ++ (xs.take i).flatMap f)) (fun _ => envW) (env4 := fun _ x => env4 x) (env5 := fun _ x => env5 x) hs hw fun i x hx => by
    obtain ⟨b1, b2, b3, b4⟩ := hb x (List.mem_of_getElem? hx)
    refine ⟨b1, b2, ?_, b4⟩
    rw [take_flat hx, ← List.append_assoc]
    exact b3 _ (by rw [List.length_append]; have := take_flat_le (f := f) hx; omega)
  simp only [List.take_zero, List.flatMap_nil, List.append_nil, List.take_length] at h
  exact h
/-- a loop that may return -/
theorem bl_for (p : α → Bool) (dx : α → D) {envW : En} {env4 env5 : α → En} (hs : SrcE wi env (xs.map enc)) (hw : Lw envW env)
    (hb : ∀ x ∈ xs, GtE g (enc x) js envW (env4 x) ∧ Off js mu ∧ (p x = true → BlE tb (env4 x) mu (dx x)) ∧ (p x = false → SmE tb (env4 x) mu (env5 x) mu ∧ Lw envW (env5 x))) (hr : BlE u envW mu d0) :
    BlE (tSeq (tFor wi g tb) u) env mu (match xs.find? p with | some x => dx x | none => d0) := fun σ G H G0 H0 Dn mm q =>
  hs σ G H mm.rs mm.mu.st.in_ _ fun J G1 H1 s1 Wk => by
    have m1 : Mst G0 H0 mu G1 H1 σ envW := Mst.weak ⟨mm.rs.mono s1.eg, mm.mu.step s1⟩ hw
    refine ⟨fun i k σ' H' => k = xs.length - i ∧ i ≤ xs.length ∧ (∀ y ∈ xs.take i, p y = false) ∧ ∃ G', Mst G0 H0 mu G' H' σ' envW ∧ Ex G1 G', ⟨xs.length, by simp, Nat.zero_le _, (fun y hy => by simp at hy), G1, m1, Evl.Ex.refl _⟩, ?_⟩
    rintro i k σ' H' ⟨rfl, hi, hn, G', m', e'⟩
    by_cases hlt : i < xs.length
    · have hx : xs[i]? = some xs[i] := List.getElem?_eq_getElem hlt
      have hd : (xs.map enc)[i]? = some (enc xs[i]) := by rw [List.getElem?_map, hx] <;> rfl
      obtain ⟨b1, b2, b3, b4⟩ := hb xs[i] (List.getElem_mem hlt)
      refine .inr ⟨Wk.go i H' (Evl.Ex.trans e' m'.mu.st.in_) (by rw [List.length_map]; exact hlt), fun σ2 H2 => p xs[i] = false ∧ ∃ G', Mst G0 H0 mu G' H2 σ2 envW ∧ Ex G1 G', fun σ2 H2 o2 => ⟨xs.length - (i + 1), by omega, rfl, hlt, fun y hy => ?_, o2.2⟩, fun v H2 y => ?_⟩
      · rw [List.take_succ, hx] at hy
        rcases List.mem_append.mp hy with hy | hy
        · exact hn y hy
        · have : y = xs[i] := by simpa using hy
          rw [this]; exact o2.1
      · obtain ⟨G2, s2, rx⟩ := Wk.yld i _ G' H' v H2 e' m'.mu.st.in_ hd y
        refine b1 v σ' G2 H2 (m'.rs.mono s2.eg) s2.in_ rx _ fun σ3 r3 _ n3 => ?_
        have m3 : Mst G0 H0 mu G2 H2 σ3 (env4 xs[i]) := ⟨r3, (m'.mu.step s2).at_ n3 b2⟩
        cases hp : p xs[i] with
        | true =>
          have hf : xs.find? p = some xs[i] := by
            have h1 : (xs.take i).find? p = none := List.find?_eq_none.mpr fun y hy => by rw [hn y hy]; decide
            have h2 : xs.find? p = (xs.take i ++ xs.drop i).find? p := by rw [List.take_append_drop]
            rw [h2, List.find?_append, h1, List.drop_eq_getElem_cons hlt, List.find?_cons_of_pos hp]
            rfl
          rw [hf] at q
          exact b3 hp σ3 G2 H2 G0 H0 _ m3 q
        | false => exact (b4 hp).1 σ3 G2 H2 G0 H0 _ m3 fun σ5 G5 H5 m5 e5 => ⟨rfl, G5, m5.weak (b4 hp).2, Evl.Ex.trans e' (Evl.Ex.trans s2.eg e5)⟩
    · have ei : i = xs.length := by omega
      subst ei
      have hf : xs.find? p = none := List.find?_eq_none.mpr fun y hy => by rw [hn y (by rw [List.take_length]; exact hy)]; decide
      rw [hf] at q
      exact .inl ⟨Wk.stop _ H' (Evl.Ex.trans e' m'.mu.st.in_) (by rw [List.length_map]), hr σ' G' H' G0 H0 Dn m' q⟩
end
end K16
/-! ## part P1 -/
set_option Elab.async false
set_option linter.all false
set_option maxRecDepth 100000
set_option maxHeartbeats 1000000
namespace K16
open PySem PySem.Spec PyProof.Rows L2
open Evl (Ex)
section
variable {P : Program} {w : World} {K : PySem.W.Frag} {mg : Str → Option Value} {base : Heap}
def R_is_within (ds : List D) (d : D) : Prop := ∃ a b : Sx, ds = [tS a, tS b] ∧ d = .bool (withinF a b)
theorem ok_is_within (T : Tx K mg) : Ok P w K mg base 1 "is_within" ["one", "other"] [] (spR R_is_within) := by
  refine ok_pure T d_is_within 14 14 rfl rfl rfl rfl rfl sc_is_within (fun _ _ _ _ _ _ us hl => match us, hl with | [_, _], _ => rfl) ?_ ?_
  · rintro ds d ⟨a, b, rfl, rfl⟩; rfl
  intro cdv A outer s H E hr
  have nd := sc_is_within.nd
  refine ⟨_, (pss_one (ps_ret (pe_callB (call_all' rfl) rfl (T.free 63) boot_all (pa_cons (pe_lc (own := [("house", 2)]) (g := (gName 2)) (wi := (iTup K (tVar 0))) (tt := tYes) (te := (tOp (rD2 RIn) (tVar 2) (tVar 1))) rfl nd (pi_tup (pv 0)) (blkOk_by (N := N_is_within) (sc := defScope s_is_within) (by decide +kernel)) (fun _ _ _ _ _ => (pg_name (i := 2) nd rfl (by first | exact Or.inl rfl | exact Or.inr rfl))) (fun _ _ _ _ _ => pts_nil) (fun _ _ _ _ _ => (pe_cmpR (op_in' (hu65 hr)) (pv 2) (pv 1) (by with_unfolding_all rfl)))) pa_nil)))), ?_⟩
  rintro ds d ⟨a, b, rfl, rfl⟩
  refine bl_ret ?_
  apply ev_is
  case h => repeat' (first | decide | apply ev_and | apply ev_or | apply et_and | apply et_or | (with_reducible intro x hx) | (with_reducible intro hp) | exact ev_get rfl | exact ev_bl | exact ev_non | exact ev_int (by decide) | exact ev_str (by decide) | exact ea_nil | apply ea_cons | apply ev_op | apply ev_cb | apply ev_call | apply ev_tup | apply ev_lst | apply et_test | apply et_B | exact et_yes | apply et_not | apply ev_lc0 | apply ev_lc | apply src_tup | apply src_list | exact gt_name | apply gt_tup | apply gts_cons | exact gts_nil | exact in_tS _ _ | exact in_lS _ _ | exact nin_tS _ _ | exact in_tSS _ _ | exact eq_tN _ _ | exact ne_tN _ _ | exact eq_tS _ _ | exact ne_tS _ _ | exact eq_int _ _ | exact lt_tN _ _ | exact lt_tS _ _ | exact all_map _ _ | exact any_map _ _ | exact tup_lst _ | exact len_lst _ | exact len_tup _ | exact ix_h | exact ix_l | exact ix_f | exact ix_p0 | exact ix_p1 | exact isn_none | exact le_int _ _ | exact gt_int _ _ | apply src_zipT | apply ev_slFromT | exact ev_n1 | exact ev_n3 | exact ev_n4 | apply ev_isiStr | apply ev_isiTup | apply src_str | decide | exact rfl)
  rfl
def R_less_by (ds : List D) (d : D) : Prop := ∃ a b : Sx, ds = [tS a, tS b] ∧ d = tS (lessF a b)
theorem ok_less_by (T : Tx K mg) : Ok P w K mg base 1 "less_by" ["lot", "fall"] [] (spR R_less_by) := by
  refine ok_pure T d_less_by 15 15 rfl rfl rfl rfl rfl sc_less_by (fun _ _ _ _ _ _ us hl => match us, hl with | [_, _], _ => rfl) ?_ ?_
  · rintro ds d ⟨a, b, rfl, rfl⟩; rfl
  intro cdv A outer s H E hr
  have nd := sc_less_by.nd
  refine ⟨_, (pss_one (ps_ret (pe_callTy call_tuple' rfl (T.free 65) boot_tuple (pa_cons (pe_lc (own := [("house", 2)]) (g := (gName 2)) (wi := (iTup K (tVar 0))) (tt := (tTest (tOp (rD2 RNotIn) (tVar 2) (tVar 1)))) (te := (tVar 2)) rfl nd (pi_tup (pv 0)) (blkOk_by (N := N_less_by) (sc := defScope s_less_by) (by decide +kernel)) (fun _ _ _ _ _ => (pg_name (i := 2) nd rfl (by first | exact Or.inl rfl | exact Or.inr rfl))) (fun _ _ _ _ _ => (pts_one (pt_cmpR (op_notIn' (hu65 hr)) (pv 2) (pv 1) (by with_unfolding_all rfl)))) (fun _ _ _ _ _ => (pv 2))) pa_nil)))), ?_⟩
  rintro ds d ⟨a, b, rfl, rfl⟩
  refine bl_ret ?_
  apply ev_is
  case h => repeat' (first | decide | apply ev_and | apply ev_or | apply et_and | apply et_or | (with_reducible intro x hx) | (with_reducible intro hp) | exact ev_get rfl | exact ev_bl | exact ev_non | exact ev_int (by decide) | exact ev_str (by decide) | exact ea_nil | apply ea_cons | apply ev_op | apply ev_cb | apply ev_call | apply ev_tup | apply ev_lst | apply et_test | apply et_B | exact et_yes | apply et_not | apply ev_lc0 | apply ev_lc | apply src_tup | apply src_list | exact gt_name | apply gt_tup | apply gts_cons | exact gts_nil | exact in_tS _ _ | exact in_lS _ _ | exact nin_tS _ _ | exact in_tSS _ _ | exact eq_tN _ _ | exact ne_tN _ _ | exact eq_tS _ _ | exact ne_tS _ _ | exact eq_int _ _ | exact lt_tN _ _ | exact lt_tS _ _ | exact all_map _ _ | exact any_map _ _ | exact tup_lst _ | exact len_lst _ | exact len_tup _ | exact ix_h | exact ix_l | exact ix_f | exact ix_p0 | exact ix_p1 | exact isn_none | exact le_int _ _ | exact gt_int _ _ | apply src_zipT | apply ev_slFromT | exact ev_n1 | exact ev_n3 | exact ev_n4 | apply ev_isiStr | apply ev_isiTup | apply src_str | decide | exact rfl)
  rfl
def R_joint_in (ds : List D) (d : D) : Prop := ∃ a b : Sx, ds = [tS a, tS b] ∧ d = tS (jointF a b)
theorem ok_joint_in (T : Tx K mg) : Ok P w K mg base 1 "joint_in" ["one", "other"] [] (spR R_joint_in) := by
  refine ok_pure T d_joint_in 10 10 rfl rfl rfl rfl rfl sc_joint_in (fun _ _ _ _ _ _ us hl => match us, hl with | [_, _], _ => rfl) ?_ ?_
  · rintro ds d ⟨a, b, rfl, rfl⟩; rfl
  intro cdv A outer s H E hr
  have nd := sc_joint_in.nd
  refine ⟨_, (pss_one (ps_ret (pe_callTy call_tuple' rfl (T.free 65) boot_tuple (pa_cons (pe_lc (own := [("name", 2)]) (g := (gName 2)) (wi := (iTup K (tVar 0))) (tt := (tTest (tOp (rD2 RIn) (tVar 2) (tVar 1)))) (te := (tVar 2)) rfl nd (pi_tup (pv 0)) (blkOk_by (N := N_joint_in) (sc := defScope s_joint_in) (by decide +kernel)) (fun _ _ _ _ _ => (pg_name (i := 2) nd rfl (by first | exact Or.inl rfl | exact Or.inr rfl))) (fun _ _ _ _ _ => (pts_one (pt_cmpR (op_in' (hu65 hr)) (pv 2) (pv 1) (by with_unfolding_all rfl)))) (fun _ _ _ _ _ => (pv 2))) pa_nil)))), ?_⟩
  rintro ds d ⟨a, b, rfl, rfl⟩
  refine bl_ret ?_
  apply ev_is
  case h => repeat' (first | decide | apply ev_and | apply ev_or | apply et_and | apply et_or | (with_reducible intro x hx) | (with_reducible intro hp) | exact ev_get rfl | exact ev_bl | exact ev_non | exact ev_int (by decide) | exact ev_str (by decide) | exact ea_nil | apply ea_cons | apply ev_op | apply ev_cb | apply ev_call | apply ev_tup | apply ev_lst | apply et_test | apply et_B | exact et_yes | apply et_not | apply ev_lc0 | apply ev_lc | apply src_tup | apply src_list | exact gt_name | apply gt_tup | apply gts_cons | exact gts_nil | exact in_tS _ _ | exact in_lS _ _ | exact nin_tS _ _ | exact in_tSS _ _ | exact eq_tN _ _ | exact ne_tN _ _ | exact eq_tS _ _ | exact ne_tS _ _ | exact eq_int _ _ | exact lt_tN _ _ | exact lt_tS _ _ | exact all_map _ _ | exact any_map _ _ | exact tup_lst _ | exact len_lst _ | exact len_tup _ | exact ix_h | exact ix_l | exact ix_f | exact ix_p0 | exact ix_p1 | exact isn_none | exact le_int _ _ | exact gt_int _ _ | apply src_zipT | apply ev_slFromT | exact ev_n1 | exact ev_n3 | exact ev_n4 | apply ev_isiStr | apply ev_isiTup | apply src_str | decide | exact rfl)
  rfl
def R_houses_in (ds : List D) (d : D) : Prop := ∃ T : Tru, ds = [tT T] ∧ d = tS (housesF T)
theorem ok_houses_in (T : Tx K mg) : Ok P w K mg base 1 "houses_in" ["trust"] [] (spR R_houses_in) := by
  refine ok_pure T d_houses_in 11 11 rfl rfl rfl rfl rfl sc_houses_in (fun _ _ _ _ _ _ us hl => match us, hl with | [_], _ => rfl) ?_ ?_
  · rintro ds d ⟨T, rfl, rfl⟩; rfl
  intro cdv A outer s H E hr
  have nd := sc_houses_in.nd
  refine ⟨_, (pss_one (ps_ret (pe_callTy call_tuple' rfl (T.free 65) boot_tuple (pa_cons (pe_lc (own := [("triple", 1)]) (g := (gName 1)) (wi := (iTup K (tVar 0))) (tt := tYes) (te := (tOp (rD2 RIx) (tVar 1) (tC (.int 0)))) rfl nd (pi_tup (pv 0)) (blkOk_by (N := N_houses_in) (sc := defScope s_houses_in) (by decide +kernel)) (fun _ _ _ _ _ => (pg_name (i := 1) nd rfl (by first | exact Or.inl rfl | exact Or.inr rfl))) (fun _ _ _ _ _ => pts_nil) (fun _ _ _ _ _ => (pe_ix ix' (pv 1) pe_int (fun _ _ => rfl)))) pa_nil)))), ?_⟩
  rintro ds d ⟨T, rfl, rfl⟩
  refine bl_ret ?_
  apply ev_is
  case h => repeat' (first | decide | apply ev_and | apply ev_or | apply et_and | apply et_or | (with_reducible intro x hx) | (with_reducible intro hp) | exact ev_get rfl | exact ev_bl | exact ev_non | exact ev_int (by decide) | exact ev_str (by decide) | exact ea_nil | apply ea_cons | apply ev_op | apply ev_cb | apply ev_call | apply ev_tup | apply ev_lst | apply et_test | apply et_B | exact et_yes | apply et_not | apply ev_lc0 | apply ev_lc | apply src_tup | apply src_list | exact gt_name | apply gt_tup | apply gts_cons | exact gts_nil | exact in_tS _ _ | exact in_lS _ _ | exact nin_tS _ _ | exact in_tSS _ _ | exact eq_tN _ _ | exact ne_tN _ _ | exact eq_tS _ _ | exact ne_tS _ _ | exact eq_int _ _ | exact lt_tN _ _ | exact lt_tS _ _ | exact all_map _ _ | exact any_map _ _ | exact tup_lst _ | exact len_lst _ | exact len_tup _ | exact ix_h | exact ix_l | exact ix_f | exact ix_p0 | exact ix_p1 | exact isn_none | exact le_int _ _ | exact gt_int _ _ | apply src_zipT | apply ev_slFromT | exact ev_n1 | exact ev_n3 | exact ev_n4 | apply ev_isiStr | apply ev_isiTup | apply src_str | decide | exact rfl)
  unfold tS housesF
  rw [List.map_map]
  rfl
def R_is_among (ds : List D) (d : D) : Prop := ∃ (a : Nm) (s : Sx), ds = [tN a, tS s] ∧ d = .bool (decide (a ∈ s))
theorem ok_is_among (T : Tx K mg) : Ok P w K mg base 1 "is_among" ["thing", "names"] [] (spR R_is_among) := by
  refine ok_pure T d_is_among 0 0 rfl rfl rfl rfl rfl sc_is_among (fun _ _ _ _ _ _ us hl => match us, hl with | [_, _], _ => rfl) ?_ ?_
  · rintro ds d ⟨a, s, rfl, rfl⟩; rfl
  intro cdv A outer s H E hr
  have nd := sc_is_among.nd
  refine ⟨_, (pss_one (ps_ret (pe_and (pe_callB call_isi rfl (T.free 61) boot_isinstance (pa_cons (pv 0) (pa_cons (pe_bltn (v := .ty "str") rfl (T.free 75) boot_str rfl) pa_nil))) (pe_one (pe_cmpR (op_in' (hu65 hr)) (pv 0) (pv 1) (by with_unfolding_all rfl)))))), ?_⟩
  rintro ds d ⟨a, s, rfl, rfl⟩
  refine bl_ret ?_
  apply ev_is
  case h => repeat' (first | decide | apply ev_and | apply ev_or | apply et_and | apply et_or | (with_reducible intro x hx) | (with_reducible intro hp) | exact ev_get rfl | exact ev_bl | exact ev_non | exact ev_int (by decide) | exact ev_str (by decide) | exact ea_nil | apply ea_cons | apply ev_op | apply ev_cb | apply ev_call | apply ev_tup | apply ev_lst | apply et_test | apply et_B | exact et_yes | apply et_not | apply ev_lc0 | apply ev_lc | apply src_tup | apply src_list | exact gt_name | apply gt_tup | apply gts_cons | exact gts_nil | exact in_tS _ _ | exact in_lS _ _ | exact nin_tS _ _ | exact in_tSS _ _ | exact eq_tN _ _ | exact ne_tN _ _ | exact eq_tS _ _ | exact ne_tS _ _ | exact eq_int _ _ | exact lt_tN _ _ | exact lt_tS _ _ | exact all_map _ _ | exact any_map _ _ | exact tup_lst _ | exact len_lst _ | exact len_tup _ | exact ix_h | exact ix_l | exact ix_f | exact ix_p0 | exact ix_p1 | exact isn_none | exact le_int _ _ | exact gt_int _ _ | apply src_zipT | apply ev_slFromT | exact ev_n1 | exact ev_n3 | exact ev_n4 | apply ev_isiStr | apply ev_isiTup | apply src_str | decide | exact rfl)
  rfl
def R_is_tuple_of (ds : List D) (d : D) : Prop := ∃ (xs : List D) (n : Nat), ds = [.tuple xs, .int (n : Int)] ∧ d = .bool (decide (xs.length = n))
theorem ok_is_tuple_of (T : Tx K mg) : Ok P w K mg base 1 "is_tuple_of" ["thing", "many"] [] (spR R_is_tuple_of) := by
  refine ok_pure T d_is_tuple_of 2 2 rfl rfl rfl rfl rfl sc_is_tuple_of (fun _ _ _ _ _ _ us hl => match us, hl with | [_, _], _ => rfl) ?_ ?_
  · rintro ds d ⟨xs, n, rfl, rfl⟩; rfl
  intro cdv A outer s H E hr
  have nd := sc_is_tuple_of.nd
  refine ⟨_, (pss_one (ps_ret (pe_and (pe_callB call_isi rfl (T.free 61) boot_isinstance (pa_cons (pv 0) (pa_cons (pe_bltn (v := .ty "tuple") rfl (T.free 65) boot_tuple rfl) pa_nil))) (pe_one (pe_cmpR (op_eq' (hu64 hr)) (pe_callB call_len' rfl (T.free 62) boot_len (pa_cons (pv 0) pa_nil)) (pv 1) (nomark _)))))), ?_⟩
  rintro ds d ⟨xs, n, rfl, rfl⟩
  refine bl_ret ?_
  apply ev_is
  case h => repeat' (first | decide | apply ev_and | apply ev_or | apply et_and | apply et_or | (with_reducible intro x hx) | (with_reducible intro hp) | exact ev_get rfl | exact ev_bl | exact ev_non | exact ev_int (by decide) | exact ev_str (by decide) | exact ea_nil | apply ea_cons | apply ev_op | apply ev_cb | apply ev_call | apply ev_tup | apply ev_lst | apply et_test | apply et_B | exact et_yes | apply et_not | apply ev_lc0 | apply ev_lc | apply src_tup | apply src_list | exact gt_name | apply gt_tup | apply gts_cons | exact gts_nil | exact in_tS _ _ | exact in_lS _ _ | exact nin_tS _ _ | exact in_tSS _ _ | exact eq_tN _ _ | exact ne_tN _ _ | exact eq_tS _ _ | exact ne_tS _ _ | exact eq_int _ _ | exact lt_tN _ _ | exact lt_tS _ _ | exact all_map _ _ | exact any_map _ _ | exact tup_lst _ | exact len_lst _ | exact len_tup _ | exact ix_h | exact ix_l | exact ix_f | exact ix_p0 | exact ix_p1 | exact isn_none | exact le_int _ _ | exact gt_int _ _ | apply src_zipT | apply ev_slFromT | exact ev_n1 | exact ev_n3 | exact ev_n4 | apply ev_isiStr | apply ev_isiTup | apply src_str | decide | exact rfl)
  exact congrArg PyData.bool (decide_eq_decide.mpr Int.ofNat_inj)
def R_are_rising1 (ds : List D) (d : D) : Prop := ∃ s : Sx, ds = [tS s] ∧ d = .bool (risB ltN s)
def R_are_rising2 (ds : List D) (d : D) : Prop := ∃ ss : List Sx, ds = [tSS ss] ∧ d = .bool (risB ltS ss)
def R_are_rising (ds : List D) (d : D) : Prop := R_are_rising1 ds d ∨ R_are_rising2 ds d
theorem ok_are_rising (T : Tx K mg) : Ok P w K mg base 1 "are_rising" ["parts"] [] (spR R_are_rising) := by
  refine ok_pure T d_are_rising 3 3 rfl rfl rfl rfl rfl sc_are_rising (fun _ _ _ _ _ _ us hl => match us, hl with | [_], _ => rfl) ?_ ?_
  · rintro ds d (⟨s, rfl, rfl⟩ | ⟨s, rfl, rfl⟩) <;> rfl
  intro cdv A outer s H E hr
  have nd := sc_are_rising.nd
  refine ⟨_, (pss_one (ps_ret (pe_callB (call_all' rfl) rfl (T.free 63) boot_all (pa_cons (pe_lc (own := [("one", 1), ("other", 2)]) (g := (gTup K 2 (gCons (gName 1) (gCons (gName 2) gNil)))) (wi := (RZ.iZipA K (tCons (tVar 0) (tCons (tSl (rSlA K) (tVar 0) (tPart (tC (.int 1))) tNoPart) tNil)))) (tt := tYes) (te := (tOp (rD2 RLt) (tVar 1) (tVar 2))) rfl nd (RZ.pi_zipA (by rfl) (T.free 66) (pa_cons (pv 0) (pa_cons (pe_slice sl_tupA (pv 0) (po_some pe_int) po_none) pa_nil))) (blkOk_by (N := N_are_rising) (sc := defScope s_are_rising) (by decide +kernel)) (fun _ _ _ _ _ => (pg_tup (by rfl) (pgs_cons (pg_name (i := 1) nd rfl (by first | exact Or.inl rfl | exact Or.inr rfl)) (pgs_cons (pg_name (i := 2) nd rfl (by first | exact Or.inl rfl | exact Or.inr rfl)) pgs_nil)))) (fun _ _ _ _ _ => pts_nil) (fun _ _ _ _ _ => (pe_cmpR (op_lt' (hu64 hr)) (pv 1) (pv 2) (nomark _)))) pa_nil)))), ?_⟩
  rintro ds d (⟨s, rfl, rfl⟩ | ⟨s, rfl, rfl⟩)
  · refine bl_ret ?_
    apply ev_is
    case h => repeat' (first | decide | apply ev_and | apply ev_or | apply et_and | apply et_or | (with_reducible intro x hx) | (with_reducible intro hp) | exact ev_get rfl | exact ev_bl | exact ev_non | exact ev_int (by decide) | exact ev_str (by decide) | exact ea_nil | apply ea_cons | apply ev_op | apply ev_cb | apply ev_call | apply ev_tup | apply ev_lst | apply et_test | apply et_B | exact et_yes | apply et_not | apply ev_lc0 | apply ev_lc | apply src_tup | apply src_list | exact gt_name | apply gt_tup | apply gts_cons | exact gts_nil | exact in_tS _ _ | exact in_lS _ _ | exact nin_tS _ _ | exact in_tSS _ _ | exact eq_tN _ _ | exact ne_tN _ _ | exact eq_tS _ _ | exact ne_tS _ _ | exact eq_int _ _ | exact lt_tN _ _ | exact lt_tS _ _ | exact all_map _ _ | exact any_map _ _ | exact tup_lst _ | exact len_lst _ | exact len_tup _ | exact ix_h | exact ix_l | exact ix_f | exact ix_p0 | exact ix_p1 | exact isn_none | exact le_int _ _ | exact gt_int _ _ | apply src_zipT | apply ev_slFromT | exact ev_n1 | exact ev_n3 | exact ev_n4 | apply ev_isiStr | apply ev_isiTup | apply src_str | decide | exact rfl)
    rfl
  · refine bl_ret ?_
    apply ev_is
    case h => repeat' (first | decide | apply ev_and | apply ev_or | apply et_and | apply et_or | (with_reducible intro x hx) | (with_reducible intro hp) | exact ev_get rfl | exact ev_bl | exact ev_non | exact ev_int (by decide) | exact ev_str (by decide) | exact ea_nil | apply ea_cons | apply ev_op | apply ev_cb | apply ev_call | apply ev_tup | apply ev_lst | apply et_test | apply et_B | exact et_yes | apply et_not | apply ev_lc0 | apply ev_lc | apply src_tup | apply src_list | exact gt_name | apply gt_tup | apply gts_cons | exact gts_nil | exact in_tS _ _ | exact in_lS _ _ | exact nin_tS _ _ | exact in_tSS _ _ | exact eq_tN _ _ | exact ne_tN _ _ | exact eq_tS _ _ | exact ne_tS _ _ | exact eq_int _ _ | exact lt_tN _ _ | exact lt_tS _ _ | exact all_map _ _ | exact any_map _ _ | exact tup_lst _ | exact len_lst _ | exact len_tup _ | exact ix_h | exact ix_l | exact ix_f | exact ix_p0 | exact ix_p1 | exact isn_none | exact le_int _ _ | exact gt_int _ _ | apply src_zipT | apply ev_slFromT | exact ev_n1 | exact ev_n3 | exact ev_n4 | apply ev_isiStr | apply ev_isiTup | apply src_str | decide | exact rfl)
    rfl
end
end K16
/-! ## part P2 -/
set_option Elab.async false
set_option linter.all false
set_option maxRecDepth 100000
set_option maxHeartbeats 1000000
namespace K16
open PySem PySem.Spec PyProof.Rows L2
open Evl (Ex)
section
variable {P : Program} {w : World} {K : PySem.W.Frag} {mg : Str → Option Value} {base : Heap}
theorem any_eq (a : Nm) : REq (tN a) (.str "any") (.bool false) := ⟨(flat_tN a).shp (by decide), by decide +kernel, congrArg PyData.bool (by revert a; decide +kernel)⟩
def abcB (c : Nat) : Bool := !(Builtin.Str.occurrences "abcdefghijklmnopqrstuvwxyz" ⟨#[c]⟩ 0 (Str.length "abcdefghijklmnopqrstuvwxyz") 1).isEmpty
theorem occ_all : ∀ a : Nm, ((txt a).cps.toList.all abcB) = true := by decide +kernel
theorem inStr_abc (c : Nat) : RInStr (.str ⟨#[c]⟩) (.str "abcdefghijklmnopqrstuvwxyz") (.bool (abcB c)) := ⟨_, _, rfl, rfl, rfl⟩
theorem len_txt : ∀ a : Nm, 1 ≤ ((txt a).length : Int) ∧ ((txt a).length : Int) ≤ 8 := by decide +kernel
theorem ev_tN {te : TE} {env : En} {a : Nm} (h : EvE te env (tN a)) : EvE te env (.str (txt a)) := h
theorem len_tN (a : Nm) : RLen [tN a] (.int ((txt a).length : Int)) := len_str _
def R_is_name (ds : List D) (d : D) : Prop := ∃ a : Nm, ds = [tN a] ∧ d = .bool true
theorem ok_is_name (T : Tx K mg) : Ok P w K mg base 1 "is_name" ["thing"] [] (spR R_is_name) := by
  refine ok_pure T d_is_name 1 1 rfl rfl rfl rfl rfl sc_is_name (fun _ _ _ _ _ _ us hl => match us, hl with | [_], _ => rfl) ?_ ?_
  · rintro ds d ⟨a, rfl, rfl⟩; rfl
  intro cdv A outer s H E hr
  have nd := sc_is_name.nd
  obtain ⟨_, hMS⟩ := T.int 76
  obtain ⟨_, hAB⟩ := T.str 77
  obtain ⟨_, hAN⟩ := T.str 78
  refine ⟨_, (pss_cons (ps_if (PW.pt (pw_or (pt_not (pt_val (pe_callB call_isi rfl (T.free 61) boot_isinstance (pa_cons (pv 0) (pa_cons (pe_bltn (v := .ty "str") rfl (T.free 75) boot_str rfl) pa_nil))))) (pw_or1 (pt_cmpR (op_eq' (hu64 hr)) (pv 0) (pe_glob (v := .str "any") rfl hAN ⟨_, rfl⟩) (nomark _))))) (pss_one (ps_ret pe_bl)) pss_nil) (pss_one (ps_ret (pe_and (pe_chain op_leI' op_leI' pe_int (pe_callB call_len' rfl (T.free 62) boot_len (pa_cons (pv 0) pa_nil)) (pe_glob (v := .int 8) rfl hMS ⟨_, rfl⟩)) (pe_one (pe_callB (call_all' rfl) rfl (T.free 63) boot_all (pa_cons (pe_lc (own := [("sign", 1)]) (g := (gName 1)) (wi := (iStr (tVar 0))) (tt := tYes) (te := (tOp (rD2 RInStr) (tVar 1) (tC (.str "abcdefghijklmnopqrstuvwxyz")))) rfl nd (pi_str (pv 0)) (blkOk_by (N := N_is_name) (sc := defScope s_is_name) (by decide +kernel)) (fun _ _ _ _ _ => (pg_name (i := 1) nd rfl (by first | exact Or.inl rfl | exact Or.inr rfl))) (fun _ _ _ _ _ => pts_nil) (fun _ _ _ _ _ => (pe_cmpR op_inStr' (pv 1) (pe_glob (v := .str "abcdefghijklmnopqrstuvwxyz") rfl hAB ⟨_, rfl⟩) (by with_unfolding_all rfl)))) pa_nil))))))), ?_⟩
  rintro ds d ⟨a, rfl, rfl⟩
  refine bl_if (w := tNext) (b := false) ?_ (fun h => absurd h (by decide)) (fun _ => ?_)
  · apply et_is
    case h => repeat' (first | exact any_eq _ | decide | apply ev_and | apply ev_or | apply et_and | apply et_or | (with_reducible intro x hx) | (with_reducible intro hp) | exact ev_get rfl | exact ev_bl | exact ev_non | exact ev_int (by decide) | exact ev_str (by decide) | exact ea_nil | apply ea_cons | apply ev_op | apply ev_cb | apply ev_call | apply ev_tup | apply ev_lst | apply et_test | apply et_B | exact et_yes | apply et_not | apply ev_lc0 | apply ev_lc | apply src_tup | apply src_list | exact gt_name | apply gt_tup | apply gts_cons | exact gts_nil | exact in_tS _ _ | exact in_lS _ _ | exact nin_tS _ _ | exact in_tSS _ _ | exact eq_tN _ _ | exact ne_tN _ _ | exact eq_tS _ _ | exact ne_tS _ _ | exact eq_int _ _ | exact lt_tN _ _ | exact lt_tS _ _ | exact all_map _ _ | exact any_map _ _ | exact tup_lst _ | exact len_lst _ | exact len_tup _ | exact ix_h | exact ix_l | exact ix_f | exact ix_p0 | exact ix_p1 | exact isn_none | exact le_int _ _ | exact gt_int _ _ | apply src_zipT | apply ev_slFromT | exact ev_n1 | exact ev_n3 | exact ev_n4 | apply ev_isiStr | apply ev_isiTup | apply src_str | decide | exact rfl)
    rfl
  refine bl_ret ?_
  apply ev_is
  case h =>
    refine ev_and (ev_chain ev_n1 (ev_cb (ea_cons (ev_get rfl) ea_nil) (len_tN a)) (ev_int (by decide)) (le_int _ _) (le_int _ _)) fun _ => ev_cb (ea_cons ?_ ea_nil) (all_map (txt a).cps.toList abcB)
    refine ev_lc0 _ (src_str (s := txt a) (ev_get rfl) (by revert a; decide +kernel)) (fun x hx => gt_name) (by decide) fun x hx => ev_op (ev_get rfl) (ev_str (by decide +kernel)) (inStr_abc x)
  exact congrArg PyData.bool (by revert a; decide +kernel)
def R_is_names (ds : List D) (d : D) : Prop := ∃ s : Sx, ds = [tS s] ∧ d = .bool (risB ltN s)
theorem ok_is_names (T : Tx K mg) (C_is_name : Ok P w K mg base 1 "is_name" ["thing"] [] (spR R_is_name)) (C_are_rising : Ok P w K mg base 1 "are_rising" ["parts"] [] (spR R_are_rising)) : Ok P w K mg base 2 "is_names" ["thing"] [] (spR R_is_names) := by
  refine ok_pure T d_is_names 4 4 rfl rfl rfl rfl rfl sc_is_names (fun _ _ _ _ _ _ us hl => match us, hl with | [_], _ => rfl) ?_ ?_
  · rintro ds d ⟨s, rfl, rfl⟩; rfl
  intro cdv A outer s H E hr
  have nd := sc_is_names.nd
  refine ⟨_, (pss_one (ps_ret (pe_and (pe_callB call_isi rfl (T.free 61) boot_isinstance (pa_cons (pv 0) (pa_cons (pe_bltn (v := .ty "tuple") rfl (T.free 65) boot_tuple rfl) pa_nil))) (pe_and (pe_callB (call_all' rfl) rfl (T.free 63) boot_all (pa_cons (pe_lc (own := [("name", 1)]) (g := (gName 1)) (wi := (iTup K (tVar 0))) (tt := tYes) (te := (tCall (spR R_is_name) [] E0 (tCons (tVar 1) tNil))) rfl nd (pi_tup (pv 0)) (blkOk_by (N := N_is_names) (sc := defScope s_is_names) (by decide +kernel)) (fun _ _ _ _ _ => (pg_name (i := 1) nd rfl (by first | exact Or.inl rfl | exact Or.inr rfl))) (fun _ _ _ _ _ => pts_nil) (fun _ _ _ _ _ => (pe_go C_is_name hr (by decide) rfl (pa_cons (pv 1) pa_nil)))) pa_nil)) (pe_one (pe_go C_are_rising hr (by decide) rfl (pa_cons (pv 0) pa_nil))))))), ?_⟩
  rintro ds d ⟨s, rfl, rfl⟩
  refine bl_ret ?_
  apply ev_is
  case h => repeat' (first | exact ⟨_, rfl, rfl⟩ | exact .inl ⟨_, rfl, rfl⟩ | decide | apply ev_and | apply ev_or | apply et_and | apply et_or | (with_reducible intro x hx) | (with_reducible intro hp) | exact ev_get rfl | exact ev_bl | exact ev_non | exact ev_int (by decide) | exact ev_str (by decide) | exact ea_nil | apply ea_cons | apply ev_op | apply ev_cb | apply ev_call | apply ev_tup | apply ev_lst | apply et_test | apply et_B | exact et_yes | apply et_not | apply ev_lc0 | apply ev_lc | apply src_tup | apply src_list | exact gt_name | apply gt_tup | apply gts_cons | exact gts_nil | exact in_tS _ _ | exact in_lS _ _ | exact nin_tS _ _ | exact in_tSS _ _ | exact eq_tN _ _ | exact ne_tN _ _ | exact eq_tS _ _ | exact ne_tS _ _ | exact eq_int _ _ | exact lt_tN _ _ | exact lt_tS _ _ | exact all_map _ _ | exact any_map _ _ | exact tup_lst _ | exact len_lst _ | exact len_tup _ | exact ix_h | exact ix_l | exact ix_f | exact ix_p0 | exact ix_p1 | exact isn_none | exact le_int _ _ | exact gt_int _ _ | apply src_zipT | apply ev_slFromT | exact ev_n1 | exact ev_n3 | exact ev_n4 | apply ev_isiStr | apply ev_isiTup | apply src_str | decide | exact rfl)
  simp
def NamesD (n : Sx) (d : D) : Prop := d = tS n ∨ d = lS n
def R_is_names_among (ds : List D) (d : D) : Prop := ∃ (s n : Sx) (b : D), ds = [tS s, b] ∧ NamesD n b ∧ d = .bool (risB ltN s && s.all fun x => decide (x ∈ n))
theorem ok_is_names_among (T : Tx K mg) (C_is_names : Ok P w K mg base 2 "is_names" ["thing"] [] (spR R_is_names)) : Ok P w K mg base 3 "is_names_among" ["thing", "names"] [] (spR R_is_names_among) := by
  refine ok_pure T d_is_names_among 5 5 rfl rfl rfl rfl rfl sc_is_names_among (fun _ _ _ _ _ _ us hl => match us, hl with | [_, _], _ => rfl) ?_ ?_
  · rintro ds d ⟨s, n, b, rfl, hb, rfl⟩; rfl
  intro cdv A outer s H E hr
  have nd := sc_is_names_among.nd
  refine ⟨_, (pss_one (ps_ret (pe_and (pe_go C_is_names hr (by decide) rfl (pa_cons (pv 0) pa_nil)) (pe_one (pe_callB (call_all' rfl) rfl (T.free 63) boot_all (pa_cons (pe_lc (own := [("name", 2)]) (g := (gName 2)) (wi := (iTup K (tVar 0))) (tt := tYes) (te := (tOp (rD2 RIn) (tVar 2) (tVar 1))) rfl nd (pi_tup (pv 0)) (blkOk_by (N := N_is_names_among) (sc := defScope s_is_names_among) (by decide +kernel)) (fun _ _ _ _ _ => (pg_name (i := 2) nd rfl (by first | exact Or.inl rfl | exact Or.inr rfl))) (fun _ _ _ _ _ => pts_nil) (fun _ _ _ _ _ => (pe_cmpR (op_in' (hu65 hr)) (pv 2) (pv 1) (by with_unfolding_all rfl)))) pa_nil)))))), ?_⟩
  rintro ds d ⟨s, n, b, rfl, hb, rfl⟩
  rcases hb with rfl | rfl
  · refine bl_ret ?_
    apply ev_is
    case h => repeat' (first | exact ⟨_, rfl, rfl⟩ | decide | apply ev_and | apply ev_or | apply et_and | apply et_or | (with_reducible intro x hx) | (with_reducible intro hp) | exact ev_get rfl | exact ev_bl | exact ev_non | exact ev_int (by decide) | exact ev_str (by decide) | exact ea_nil | apply ea_cons | apply ev_op | apply ev_cb | apply ev_call | apply ev_tup | apply ev_lst | apply et_test | apply et_B | exact et_yes | apply et_not | apply ev_lc0 | apply ev_lc | apply src_tup | apply src_list | exact gt_name | apply gt_tup | apply gts_cons | exact gts_nil | exact in_tS _ _ | exact in_lS _ _ | exact nin_tS _ _ | exact in_tSS _ _ | exact eq_tN _ _ | exact ne_tN _ _ | exact eq_tS _ _ | exact ne_tS _ _ | exact eq_int _ _ | exact lt_tN _ _ | exact lt_tS _ _ | exact all_map _ _ | exact any_map _ _ | exact tup_lst _ | exact len_lst _ | exact len_tup _ | exact ix_h | exact ix_l | exact ix_f | exact ix_p0 | exact ix_p1 | exact isn_none | exact le_int _ _ | exact gt_int _ _ | apply src_zipT | apply ev_slFromT | exact ev_n1 | exact ev_n3 | exact ev_n4 | apply ev_isiStr | apply ev_isiTup | apply src_str | decide | exact rfl)
    rfl
  · refine bl_ret ?_
    apply ev_is
    case h => repeat' (first | exact ⟨_, rfl, rfl⟩ | decide | apply ev_and | apply ev_or | apply et_and | apply et_or | (with_reducible intro x hx) | (with_reducible intro hp) | exact ev_get rfl | exact ev_bl | exact ev_non | exact ev_int (by decide) | exact ev_str (by decide) | exact ea_nil | apply ea_cons | apply ev_op | apply ev_cb | apply ev_call | apply ev_tup | apply ev_lst | apply et_test | apply et_B | exact et_yes | apply et_not | apply ev_lc0 | apply ev_lc | apply src_tup | apply src_list | exact gt_name | apply gt_tup | apply gts_cons | exact gts_nil | exact in_tS _ _ | exact in_lS _ _ | exact nin_tS _ _ | exact in_tSS _ _ | exact eq_tN _ _ | exact ne_tN _ _ | exact eq_tS _ _ | exact ne_tS _ _ | exact eq_int _ _ | exact lt_tN _ _ | exact lt_tS _ _ | exact all_map _ _ | exact any_map _ _ | exact tup_lst _ | exact len_lst _ | exact len_tup _ | exact ix_h | exact ix_l | exact ix_f | exact ix_p0 | exact ix_p1 | exact isn_none | exact le_int _ _ | exact gt_int _ _ | apply src_zipT | apply ev_slFromT | exact ev_n1 | exact ev_n3 | exact ev_n4 | apply ev_isiStr | apply ev_isiTup | apply src_str | decide | exact rfl)
    rfl
def setsB (n : Sx) (ss : List Sx) : Bool := !decide (ss = []) && ((ss.all fun s => risB ltN s && s.all fun x => decide (x ∈ n)) && risB ltS ss)
def R_are_sets_among (ds : List D) (d : D) : Prop := ∃ (ss : List Sx) (n : Sx), ds = [tSS ss, lS n] ∧ ss ≠ [] ∧ d = .bool ((ss.all fun s => risB ltN s && s.all fun x => decide (x ∈ n)) && risB ltS ss)
theorem ok_are_sets_among (T : Tx K mg) (C_is_names_among : Ok P w K mg base 3 "is_names_among" ["thing", "names"] [] (spR R_is_names_among)) (C_are_rising : Ok P w K mg base 1 "are_rising" ["parts"] [] (spR R_are_rising)) : Ok P w K mg base 4 "are_sets_among" ["thing", "names"] [] (spR R_are_sets_among) := by
  refine ok_pure T d_are_sets_among 6 6 rfl rfl rfl rfl rfl sc_are_sets_among (fun _ _ _ _ _ _ us hl => match us, hl with | [_, _], _ => rfl) ?_ ?_
  · rintro ds d ⟨ss, n, rfl, hne, rfl⟩; rfl
  intro cdv A outer s H E hr
  have nd := sc_are_sets_among.nd
  refine ⟨_, (pss_cons (ps_if (PW.pt (pw_or (pt_not (pt_val (pe_callB call_isi rfl (T.free 61) boot_isinstance (pa_cons (pv 0) (pa_cons (pe_bltn (v := .ty "tuple") rfl (T.free 65) boot_tuple rfl) pa_nil))))) (pw_or1 (pt_cmpR (op_eq' (hu64 hr)) (pe_callB call_len' rfl (T.free 62) boot_len (pa_cons (pv 0) pa_nil)) pe_int (nomark _))))) (pss_one (ps_ret pe_bl)) pss_nil) (pss_one (ps_ret (pe_and (pe_callB (call_all' rfl) rfl (T.free 63) boot_all (pa_cons (pe_lc (own := [("one", 2)]) (g := (gName 2)) (wi := (iTup K (tVar 0))) (tt := tYes) (te := (tCall (spR R_is_names_among) [] E0 (tCons (tVar 2) (tCons (tVar 1) tNil)))) rfl nd (pi_tup (pv 0)) (blkOk_by (N := N_are_sets_among) (sc := defScope s_are_sets_among) (by decide +kernel)) (fun _ _ _ _ _ => (pg_name (i := 2) nd rfl (by first | exact Or.inl rfl | exact Or.inr rfl))) (fun _ _ _ _ _ => pts_nil) (fun _ _ _ _ _ => (pe_go C_is_names_among hr (by decide) rfl (pa_cons (pv 2) (pa_cons (pv 1) pa_nil))))) pa_nil)) (pe_one (pe_go C_are_rising hr (by decide) rfl (pa_cons (pv 0) pa_nil))))))), ?_⟩
  rintro ds d ⟨ss, n, rfl, hne, rfl⟩
  refine bl_if (w := tNext) (b := false) ?_ (fun h => absurd h (by decide)) (fun _ => ?_)
  · apply et_is
    case h => repeat' (first | decide | apply ev_and | apply ev_or | apply et_and | apply et_or | (with_reducible intro x hx) | (with_reducible intro hp) | exact ev_get rfl | exact ev_bl | exact ev_non | exact ev_int (by decide) | exact ev_str (by decide) | exact ea_nil | apply ea_cons | apply ev_op | apply ev_cb | apply ev_call | apply ev_tup | apply ev_lst | apply et_test | apply et_B | exact et_yes | apply et_not | apply ev_lc0 | apply ev_lc | apply src_tup | apply src_list | exact gt_name | apply gt_tup | apply gts_cons | exact gts_nil | exact in_tS _ _ | exact in_lS _ _ | exact nin_tS _ _ | exact in_tSS _ _ | exact eq_tN _ _ | exact ne_tN _ _ | exact eq_tS _ _ | exact ne_tS _ _ | exact eq_int _ _ | exact lt_tN _ _ | exact lt_tS _ _ | exact all_map _ _ | exact any_map _ _ | exact tup_lst _ | exact len_lst _ | exact len_tup _ | exact ix_h | exact ix_l | exact ix_f | exact ix_p0 | exact ix_p1 | exact isn_none | exact le_int _ _ | exact gt_int _ _ | apply src_zipT | apply ev_slFromT | exact ev_n1 | exact ev_n3 | exact ev_n4 | apply ev_isiStr | apply ev_isiTup | apply src_str | decide | exact rfl)
    have : ¬ ((ss.map tS).length : Int) = 0 := by
      rw [List.length_map]
      cases ss with
      | nil => exact absurd rfl hne
      | cons a b => simp; omega
    rw [decide_eq_false this]
    rfl
  refine bl_ret ?_
  apply ev_is
  case h => repeat' (first | exact ⟨_, _, _, rfl, .inr rfl, rfl⟩ | exact .inr ⟨_, rfl, rfl⟩ | decide | apply ev_and | apply ev_or | apply et_and | apply et_or | (with_reducible intro x hx) | (with_reducible intro hp) | exact ev_get rfl | exact ev_bl | exact ev_non | exact ev_int (by decide) | exact ev_str (by decide) | exact ea_nil | apply ea_cons | apply ev_op | apply ev_cb | apply ev_call | apply ev_tup | apply ev_lst | apply et_test | apply et_B | exact et_yes | apply et_not | apply ev_lc0 | apply ev_lc | apply src_tup | apply src_list | exact gt_name | apply gt_tup | apply gts_cons | exact gts_nil | exact in_tS _ _ | exact in_lS _ _ | exact nin_tS _ _ | exact in_tSS _ _ | exact eq_tN _ _ | exact ne_tN _ _ | exact eq_tS _ _ | exact ne_tS _ _ | exact eq_int _ _ | exact lt_tN _ _ | exact lt_tS _ _ | exact all_map _ _ | exact any_map _ _ | exact tup_lst _ | exact len_lst _ | exact len_tup _ | exact ix_h | exact ix_l | exact ix_f | exact ix_p0 | exact ix_p1 | exact isn_none | exact le_int _ _ | exact gt_int _ _ | apply src_zipT | apply ev_slFromT | exact ev_n1 | exact ev_n3 | exact ev_n4 | apply ev_isiStr | apply ev_isiTup | apply src_str | decide | exact rfl)
  rfl
def R_is_triple_from (ds : List D) (d : D) : Prop := ∃ t : Tri, ds = [tTri t] ∧ d = .bool true
theorem ok_is_triple_from (T : Tx K mg) (C_is_tuple_of : Ok P w K mg base 1 "is_tuple_of" ["thing", "many"] [] (spR R_is_tuple_of)) (C_is_name : Ok P w K mg base 1 "is_name" ["thing"] [] (spR R_is_name)) : Ok P w K mg base 2 "is_triple_from" ["thing"] [] (spR R_is_triple_from) := by
  refine ok_pure T d_is_triple_from 7 7 rfl rfl rfl rfl rfl sc_is_triple_from (fun _ _ _ _ _ _ us hl => match us, hl with | [_], _ => rfl) ?_ ?_
  · rintro ds d ⟨t, rfl, rfl⟩; rfl
  intro cdv A outer s H E hr
  have nd := sc_is_triple_from.nd
  refine ⟨_, (pss_one (ps_ret (pe_and (pe_go C_is_tuple_of hr (by decide) rfl (pa_cons (pv 0) (pa_cons pe_int pa_nil))) (pe_one (pe_go C_is_name hr (by decide) rfl (pa_cons (pe_ix ix' (pv 0) pe_int (fun _ _ => rfl)) pa_nil)))))), ?_⟩
  rintro ds d ⟨t, rfl, rfl⟩
  refine bl_ret ?_
  apply ev_is
  case h => repeat' (first | exact ⟨_, 3, rfl, rfl⟩ | exact ⟨_, rfl, rfl⟩ | decide | apply ev_and | apply ev_or | apply et_and | apply et_or | (with_reducible intro x hx) | (with_reducible intro hp) | exact ev_get rfl | exact ev_bl | exact ev_non | exact ev_int (by decide) | exact ev_str (by decide) | exact ea_nil | apply ea_cons | apply ev_op | apply ev_cb | apply ev_call | apply ev_tup | apply ev_lst | apply et_test | apply et_B | exact et_yes | apply et_not | apply ev_lc0 | apply ev_lc | apply src_tup | apply src_list | exact gt_name | apply gt_tup | apply gts_cons | exact gts_nil | exact in_tS _ _ | exact in_lS _ _ | exact nin_tS _ _ | exact in_tSS _ _ | exact eq_tN _ _ | exact ne_tN _ _ | exact eq_tS _ _ | exact ne_tS _ _ | exact eq_int _ _ | exact lt_tN _ _ | exact lt_tS _ _ | exact all_map _ _ | exact any_map _ _ | exact tup_lst _ | exact len_lst _ | exact len_tup _ | exact ix_h | exact ix_l | exact ix_f | exact ix_p0 | exact ix_p1 | exact isn_none | exact le_int _ _ | exact gt_int _ _ | apply src_zipT | apply ev_slFromT | exact ev_n1 | exact ev_n3 | exact ev_n4 | apply ev_isiStr | apply ev_isiTup | apply src_str | decide | exact rfl)
  rfl
end
end K16
/-! ## part P3 -/
set_option Elab.async false
set_option linter.all false
set_option maxRecDepth 100000
set_option maxHeartbeats 1000000
namespace K16
open PySem PySem.Spec PyProof.Rows L2
open Evl (Ex)
section
variable {P : Program} {w : World} {K : PySem.W.Frag} {mg : Str → Option Value} {base : Heap}
/-- sets of names, few in all -/
def Few (ss : List Sx) : Prop := ∃ n : Sx, RisN n ∧ n.length ≤ 5 ∧ ∀ s ∈ ss, SetOf n s
theorem Few.U {ss : List Sx} (h : Few ss) : ∃ U : List Sx, U.length < 64 ∧ ∀ s ∈ ss, s ∈ U := by
  obtain ⟨n, hn, h5, hs⟩ := h
  exact ⟨subs n, by have := few_subs h5; omega, fun s h => (hs s h).mem hn⟩
theorem VT.fewF {T : Tru} (V : VT T) {a : Nm} (ha : a ∈ housesF T) : Few (fearsF T a) := ⟨_, V.ris, V.hlen, fun s hs => (V.fset _ (rowF_mem ha) s hs).1⟩
def jfF (T : Tru) (a b : Nm) : List Sx := (fearsF T a).flatMap fun one => (fearsF T b).map fun late => jointF one late
theorem VT.fewJ {T : Tru} (V : VT T) {a b : Nm} (ha : a ∈ housesF T) (hb : b ∈ housesF T) : Few (jfF T a b) := ⟨_, V.ris, V.hlen, fun s hs => by
  obtain ⟨one, h1, hs⟩ := List.mem_flatMap.mp hs
  obtain ⟨late, h2, rfl⟩ := List.mem_map.mp hs
  exact (V.fset _ (rowF_mem ha) one h1).1.filter _⟩
theorem few_least {n : Sx} {ss : List Sx} (hn : RisN n) (h5 : n.length ≤ 5) (hs : ∀ s ∈ ss, SetOf n s) (p : Sx → Bool) : ((canS ss).filter p).length ≤ 32 :=
  ris_few hn h5 (((canon_ris ordS ss).filter p).nodup ordS) fun s h => hs s (canon_mem.mp (List.mem_filter.mp h).1)
theorem VT.falls {T : Tru} (V : VT T) {a b : Nm} (ha : a ∈ housesF T) (hb : b ∈ housesF T) : (fallsF T a b).length ≤ 32 ∧ ∀ s ∈ fallsF T a b, SetOf (housesF T) s := by
  have k : ∀ ss : List Sx, (∀ s ∈ ss, SetOf (housesF T) s) → (greatestF ss).length ≤ 32 ∧ ∀ s ∈ greatestF ss, SetOf (housesF T) s := fun ss h => ⟨few_least V.ris V.hlen h _, fun s hs => h s (canon_mem.mp (List.mem_filter.mp hs).1)⟩
  unfold fallsF
  split
  · exact k _ fun s hs => (V.fset _ (rowF_mem ha) s hs).1
  · refine k _ fun s hs => ?_
    obtain ⟨one, h1, hs⟩ := List.mem_flatMap.mp hs
    obtain ⟨late, h2, rfl⟩ := List.mem_map.mp hs
    exact (V.fset _ (rowF_mem ha) one h1).1.filter _
theorem flat_len {α β : Type} {f : α → List β} {k : Nat} : ∀ {l : List α}, (∀ x ∈ l, (f x).length ≤ k) → (l.flatMap f).length ≤ l.length * k
  | [], _ => by simp
  | x :: l, h => by
    rw [List.flatMap_cons, List.length_append, List.length_cons, Nat.add_mul, Nat.one_mul]
    have := h x List.mem_cons_self
    have := flat_len (l := l) fun y hy => h y (List.mem_cons_of_mem _ hy)
    omega
theorem VT.plen {T : Tru} (V : VT T) : (pairsF T).length ≤ 160 := by
  have := flat_len (l := T) (f := fun t => (List.range t.lots.length).map fun k => (t.h, k)) (k := 32) fun t ht => by
    rw [List.length_map, List.length_range]
    exact V.llen ht
  have h5 := V.len
  unfold pairsF
  omega
theorem VT.pair {T : Tru} (V : VT T) {p : Pr} (hp : p ∈ pairsF T) : p.1 ∈ housesF T ∧ (lotsF T p.1)[p.2]? = some (lotF T p) ∧ ∃ t ∈ T, t.h = p.1 ∧ lotF T p ∈ t.lots ∧ rowF T p.1 = t := by
  obtain ⟨t, ht, hp⟩ := List.mem_flatMap.mp hp
  obtain ⟨k, hk, rfl⟩ := List.mem_map.mp hp
  have hh : t.h ∈ housesF T := List.mem_map.mpr ⟨t, ht, rfl⟩
  obtain ⟨u, _, e2, hu, e3⟩ := rowF_some hh
  have hut : u = t := by
    have nd := V.ris.nodup ordN
    have := List.pairwise_map.mp nd
    rcases Classical.em (u = t) with c | c
    · exact c
    · exfalso
      obtain ⟨i, hi, ei⟩ := List.getElem_of_mem hu
      obtain ⟨j, hj, ej⟩ := List.getElem_of_mem ht
      have hne : i ≠ j := fun e => c (by subst e; rw [← ei, ← ej])
      rcases Nat.lt_or_gt_of_ne hne with l | l
      · exact (List.pairwise_iff_getElem.mp this i j hi hj l) (by rw [ei, ej, e3])
      · exact (List.pairwise_iff_getElem.mp this j i hj hi l) (by rw [ei, ej, e3])
  subst hut
  have hk' : k < u.lots.length := List.mem_range.mp hk
  have el : lotsF T u.h = u.lots := by unfold lotsF; rw [e2]
  have e1 : (lotsF T u.h)[k]? = some u.lots[k] := by rw [el]; exact List.getElem?_eq_getElem hk'
  have e4 : lotF T (u.h, k) = u.lots[k] := by
    unfold lotF
    rw [e1]
    rfl
  refine ⟨hh, by rw [e4]; exact e1, u, hu, rfl, by rw [e4]; exact List.getElem_mem hk', e2⟩
def R_lots_of (ds : List D) (d : D) : Prop := ∃ (T : Tru) (a : Nm), ds = [tT T, tN a] ∧ a ∈ housesF T ∧ d = tSS (lotsF T a)
theorem ok_lots_of (T : Tx K mg) : Ok P w K mg base 1 "lots_of" ["trust", "house"] [] (spR R_lots_of) := by
  refine ok_pure T d_lots_of 12 12 rfl rfl rfl rfl rfl sc_lots_of (fun _ _ _ _ _ _ us hl => match us, hl with | [_, _], _ => rfl) ?_ ?_
  · rintro ds d ⟨T, a, rfl, ha, rfl⟩; rfl
  intro cdv A outer s H E hr
  have nd := sc_lots_of.nd
  refine ⟨_, (pss_one (ps_ret (pe_ix ix' (pe_ix ix' (pe_lc (own := [("row", 2)]) (g := (gName 2)) (wi := (iTup K (tVar 0))) (tt := (tTest (tOp (rD2 REq) (tOp (rD2 RIx) (tVar 2) (tC (.int 0))) (tVar 1)))) (te := (tVar 2)) rfl nd (pi_tup (pv 0)) (blkOk_by (N := N_lots_of) (sc := defScope s_lots_of) (by decide +kernel)) (fun _ _ _ _ _ => (pg_name (i := 2) nd rfl (by first | exact Or.inl rfl | exact Or.inr rfl))) (fun _ _ _ _ _ => (pts_one (pt_cmpR (op_eq' (hu64 hr)) (pe_ix ix' (pv 2) pe_int (fun _ _ => rfl)) (pv 1) (nomark _)))) (fun _ _ _ _ _ => (pv 2))) pe_int (fun _ _ => rfl)) pe_int (fun _ _ => rfl)))), ?_⟩
  rintro ds d ⟨T, a, rfl, ha, rfl⟩
  obtain ⟨t, h1, h2, h3, h4⟩ := rowF_some ha
  refine bl_ret ?_
  apply ev_is
  case h => repeat' (first | exact ix_first h1 | decide | apply ev_and | apply ev_or | apply et_and | apply et_or | (with_reducible intro x hx) | (with_reducible intro hp) | exact ev_get rfl | exact ev_bl | exact ev_non | exact ev_int (by decide) | exact ev_str (by decide) | exact ea_nil | apply ea_cons | apply ev_op | apply ev_cb | apply ev_call | apply ev_tup | apply ev_lst | apply et_test | apply et_B | exact et_yes | apply et_not | apply ev_lc0 | apply ev_lc | apply src_tup | apply src_list | exact gt_name | apply gt_tup | apply gts_cons | exact gts_nil | exact in_tS _ _ | exact in_lS _ _ | exact nin_tS _ _ | exact in_tSS _ _ | exact eq_tN _ _ | exact ne_tN _ _ | exact eq_tS _ _ | exact ne_tS _ _ | exact eq_int _ _ | exact lt_tN _ _ | exact lt_tS _ _ | exact all_map _ _ | exact any_map _ _ | exact tup_lst _ | exact len_lst _ | exact len_tup _ | exact ix_h | exact ix_l | exact ix_f | exact ix_p0 | exact ix_p1 | exact isn_none | exact le_int _ _ | exact gt_int _ _ | apply src_zipT | apply ev_slFromT | exact ev_n1 | exact ev_n3 | exact ev_n4 | apply ev_isiStr | apply ev_isiTup | apply src_str | decide | exact rfl)
  show tSS t.lots = tSS (rowF T a).lots
  rw [h2]
def R_fears_of (ds : List D) (d : D) : Prop := ∃ (T : Tru) (a : Nm), ds = [tT T, tN a] ∧ a ∈ housesF T ∧ d = tSS (fearsF T a)
theorem ok_fears_of (T : Tx K mg) : Ok P w K mg base 1 "fears_of" ["trust", "house"] [] (spR R_fears_of) := by
  refine ok_pure T d_fears_of 13 13 rfl rfl rfl rfl rfl sc_fears_of (fun _ _ _ _ _ _ us hl => match us, hl with | [_, _], _ => rfl) ?_ ?_
  · rintro ds d ⟨T, a, rfl, ha, rfl⟩; rfl
  intro cdv A outer s H E hr
  have nd := sc_fears_of.nd
  refine ⟨_, (pss_one (ps_ret (pe_ix ix' (pe_ix ix' (pe_lc (own := [("row", 2)]) (g := (gName 2)) (wi := (iTup K (tVar 0))) (tt := (tTest (tOp (rD2 REq) (tOp (rD2 RIx) (tVar 2) (tC (.int 0))) (tVar 1)))) (te := (tVar 2)) rfl nd (pi_tup (pv 0)) (blkOk_by (N := N_fears_of) (sc := defScope s_fears_of) (by decide +kernel)) (fun _ _ _ _ _ => (pg_name (i := 2) nd rfl (by first | exact Or.inl rfl | exact Or.inr rfl))) (fun _ _ _ _ _ => (pts_one (pt_cmpR (op_eq' (hu64 hr)) (pe_ix ix' (pv 2) pe_int (fun _ _ => rfl)) (pv 1) (nomark _)))) (fun _ _ _ _ _ => (pv 2))) pe_int (fun _ _ => rfl)) pe_int (fun _ _ => rfl)))), ?_⟩
  rintro ds d ⟨T, a, rfl, ha, rfl⟩
  obtain ⟨t, h1, h2, h3, h4⟩ := rowF_some ha
  refine bl_ret ?_
  apply ev_is
  case h => repeat' (first | exact ix_first h1 | decide | apply ev_and | apply ev_or | apply et_and | apply et_or | (with_reducible intro x hx) | (with_reducible intro hp) | exact ev_get rfl | exact ev_bl | exact ev_non | exact ev_int (by decide) | exact ev_str (by decide) | exact ea_nil | apply ea_cons | apply ev_op | apply ev_cb | apply ev_call | apply ev_tup | apply ev_lst | apply et_test | apply et_B | exact et_yes | apply et_not | apply ev_lc0 | apply ev_lc | apply src_tup | apply src_list | exact gt_name | apply gt_tup | apply gts_cons | exact gts_nil | exact in_tS _ _ | exact in_lS _ _ | exact nin_tS _ _ | exact in_tSS _ _ | exact eq_tN _ _ | exact ne_tN _ _ | exact eq_tS _ _ | exact ne_tS _ _ | exact eq_int _ _ | exact lt_tN _ _ | exact lt_tS _ _ | exact all_map _ _ | exact any_map _ _ | exact tup_lst _ | exact len_lst _ | exact len_tup _ | exact ix_h | exact ix_l | exact ix_f | exact ix_p0 | exact ix_p1 | exact isn_none | exact le_int _ _ | exact gt_int _ _ | apply src_zipT | apply ev_slFromT | exact ev_n1 | exact ev_n3 | exact ev_n4 | apply ev_isiStr | apply ev_isiTup | apply src_str | decide | exact rfl)
  show tSS t.fears = tSS (rowF T a).fears
  rw [h2]
def R_least_of (ds : List D) (d : D) : Prop := ∃ (ss : List Sx) (b : D), ds = [b] ∧ (b = lSS ss ∨ b = tSS ss) ∧ Few ss ∧ d = tSS (leastF ss)
theorem ok_least_of (T : Tx K mg) (C_is_within : Ok P w K mg base 1 "is_within" ["one", "other"] [] (spR R_is_within)) : Ok P w K mg base 2 "least_of" ["sets"] [] (spR R_least_of) := by
  refine ok_pure T d_least_of 16 16 rfl rfl rfl rfl rfl sc_least_of (fun _ _ _ _ _ _ us hl => match us, hl with | [_], _ => rfl) ?_ ?_
  · rintro ds d ⟨ss, b, rfl, hb, hf, rfl⟩; rfl
  intro cdv A outer s H E hr
  have nd := sc_least_of.nd
  refine ⟨_, (pss_cons (ps_set (i := 1) nd rfl (by first | exact Or.inl rfl | exact Or.inr rfl) (pe_sortedSet hr rfl rfl (T.free 68) rfl (T.free 69) (pv 0))) (pss_cons (ps_setLc (i := 2) (own := [("one", 3)]) (g := (gName 3)) (wi := (iList K (tVar 1))) (tt := (tNot (tB (tCB (rD RAny) (tCons (tLc (iList K (tVar 1)) (gName 4) tYes (tAndV (tOp (rD2 RNe) (tVar 4) (tVar 3)) (tCall (spR R_is_within) [] E0 (tCons (tVar 4) (tCons (tVar 3) tNil)))) [4]) tNil))))) (te := (tVar 3)) rfl nd rfl rfl (sw_true rfl rfl rfl (by decide +kernel)) (pi_list (pv 1)) (blkOk_by (N := N_least_of) (sc := defScope s_least_of) (by decide +kernel)) (fun _ _ _ _ _ => (pg_name (i := 3) nd rfl (by first | exact Or.inl rfl | exact Or.inr rfl))) (fun _ _ _ _ _ => (pts_one (pt_not (pt_val (pe_callB (call_any' rfl) rfl (T.free 64) boot_any (pa_cons (pe_lc (own := [("late", 4)]) (g := (gName 4)) (wi := (iList K (tVar 1))) (tt := tYes) (te := (tAndV (tOp (rD2 RNe) (tVar 4) (tVar 3)) (tCall (spR R_is_within) [] E0 (tCons (tVar 4) (tCons (tVar 3) tNil))))) rfl nd (pi_list (pv 1)) (blkOk_by (by kernel_rfl)) (fun _ _ _ _ _ => (pg_name (i := 4) nd rfl (by first | exact Or.inl rfl | exact Or.inr rfl))) (fun _ _ _ _ _ => pts_nil) (fun _ _ _ _ _ => (pe_and (pe_cmpR (op_ne' (hu64 hr)) (pv 4) (pv 3) (nomark _)) (pe_one (pe_go C_is_within hr (by decide) rfl (pa_cons (pv 4) (pa_cons (pv 3) pa_nil))))))) pa_nil)))))) (fun _ _ _ _ _ => (pv 3))) (pss_one (ps_ret (pe_callTy call_tuple' rfl (T.free 65) boot_tuple (pa_cons (pv 2) pa_nil)))))), ?_⟩
  rintro ds d ⟨ss, b, rfl, hb, hf, rfl⟩
  obtain ⟨U, hU, hin⟩ := hf.U
  refine bl_seq (sm_set (x := lSS (canS ss)) ?_ trivial) (bl_seq (sm_set (x := lSS (leastF ss)) ?_ trivial) ?_)
  · rcases hb with rfl | rfl
    · exact ev_srtSet (.inl (ev_get rfl)) U hU hin
    · exact ev_srtSet (.inr (ev_get rfl)) U hU hin
  · apply ev_is
    case h => repeat' (first | exact ⟨_, _, rfl, rfl⟩ | decide | apply ev_and | apply ev_or | apply et_and | apply et_or | (with_reducible intro x hx) | (with_reducible intro hp) | exact ev_get rfl | exact ev_bl | exact ev_non | exact ev_int (by decide) | exact ev_str (by decide) | exact ea_nil | apply ea_cons | apply ev_op | apply ev_cb | apply ev_call | apply ev_tup | apply ev_lst | apply et_test | apply et_B | exact et_yes | apply et_not | apply ev_lc0 | apply ev_lc | apply src_tup | apply src_list | exact gt_name | apply gt_tup | apply gts_cons | exact gts_nil | exact in_tS _ _ | exact in_lS _ _ | exact nin_tS _ _ | exact in_tSS _ _ | exact eq_tN _ _ | exact ne_tN _ _ | exact eq_tS _ _ | exact ne_tS _ _ | exact eq_int _ _ | exact lt_tN _ _ | exact lt_tS _ _ | exact all_map _ _ | exact any_map _ _ | exact tup_lst _ | exact len_lst _ | exact len_tup _ | exact ix_h | exact ix_l | exact ix_f | exact ix_p0 | exact ix_p1 | exact isn_none | exact le_int _ _ | exact gt_int _ _ | apply src_zipT | apply ev_slFromT | exact ev_n1 | exact ev_n3 | exact ev_n4 | apply ev_isiStr | apply ev_isiTup | apply src_str | decide | exact rfl)
    rfl
  refine bl_ret ?_
  apply ev_is
  case h => repeat' (first | decide | apply ev_and | apply ev_or | apply et_and | apply et_or | (with_reducible intro x hx) | (with_reducible intro hp) | exact ev_get rfl | exact ev_bl | exact ev_non | exact ev_int (by decide) | exact ev_str (by decide) | exact ea_nil | apply ea_cons | apply ev_op | apply ev_cb | apply ev_call | apply ev_tup | apply ev_lst | apply et_test | apply et_B | exact et_yes | apply et_not | apply ev_lc0 | apply ev_lc | apply src_tup | apply src_list | exact gt_name | apply gt_tup | apply gts_cons | exact gts_nil | exact in_tS _ _ | exact in_lS _ _ | exact nin_tS _ _ | exact in_tSS _ _ | exact eq_tN _ _ | exact ne_tN _ _ | exact eq_tS _ _ | exact ne_tS _ _ | exact eq_int _ _ | exact lt_tN _ _ | exact lt_tS _ _ | exact all_map _ _ | exact any_map _ _ | exact tup_lst _ | exact len_lst _ | exact len_tup _ | exact ix_h | exact ix_l | exact ix_f | exact ix_p0 | exact ix_p1 | exact isn_none | exact le_int _ _ | exact gt_int _ _ | apply src_zipT | apply ev_slFromT | exact ev_n1 | exact ev_n3 | exact ev_n4 | apply ev_isiStr | apply ev_isiTup | apply src_str | decide | exact rfl)
  rfl
def R_greatest_of (ds : List D) (d : D) : Prop := ∃ (ss : List Sx) (b : D), ds = [b] ∧ (b = lSS ss ∨ b = tSS ss) ∧ Few ss ∧ d = tSS (greatestF ss)
theorem ok_greatest_of (T : Tx K mg) (C_is_within : Ok P w K mg base 1 "is_within" ["one", "other"] [] (spR R_is_within)) : Ok P w K mg base 2 "greatest_of" ["sets"] [] (spR R_greatest_of) := by
  refine ok_pure T d_greatest_of 17 17 rfl rfl rfl rfl rfl sc_greatest_of (fun _ _ _ _ _ _ us hl => match us, hl with | [_], _ => rfl) ?_ ?_
  · rintro ds d ⟨ss, b, rfl, hb, hf, rfl⟩; rfl
  intro cdv A outer s H E hr
  have nd := sc_greatest_of.nd
  refine ⟨_, (pss_cons (ps_set (i := 1) nd rfl (by first | exact Or.inl rfl | exact Or.inr rfl) (pe_sortedSet hr rfl rfl (T.free 68) rfl (T.free 69) (pv 0))) (pss_cons (ps_setLc (i := 2) (own := [("one", 3)]) (g := (gName 3)) (wi := (iList K (tVar 1))) (tt := (tNot (tB (tCB (rD RAny) (tCons (tLc (iList K (tVar 1)) (gName 4) tYes (tAndV (tOp (rD2 RNe) (tVar 4) (tVar 3)) (tCall (spR R_is_within) [] E0 (tCons (tVar 3) (tCons (tVar 4) tNil)))) [4]) tNil))))) (te := (tVar 3)) rfl nd rfl rfl (sw_true rfl rfl rfl (by decide +kernel)) (pi_list (pv 1)) (blkOk_by (N := N_greatest_of) (sc := defScope s_greatest_of) (by decide +kernel)) (fun _ _ _ _ _ => (pg_name (i := 3) nd rfl (by first | exact Or.inl rfl | exact Or.inr rfl))) (fun _ _ _ _ _ => (pts_one (pt_not (pt_val (pe_callB (call_any' rfl) rfl (T.free 64) boot_any (pa_cons (pe_lc (own := [("late", 4)]) (g := (gName 4)) (wi := (iList K (tVar 1))) (tt := tYes) (te := (tAndV (tOp (rD2 RNe) (tVar 4) (tVar 3)) (tCall (spR R_is_within) [] E0 (tCons (tVar 3) (tCons (tVar 4) tNil))))) rfl nd (pi_list (pv 1)) (blkOk_by (by kernel_rfl)) (fun _ _ _ _ _ => (pg_name (i := 4) nd rfl (by first | exact Or.inl rfl | exact Or.inr rfl))) (fun _ _ _ _ _ => pts_nil) (fun _ _ _ _ _ => (pe_and (pe_cmpR (op_ne' (hu64 hr)) (pv 4) (pv 3) (nomark _)) (pe_one (pe_go C_is_within hr (by decide) rfl (pa_cons (pv 3) (pa_cons (pv 4) pa_nil))))))) pa_nil)))))) (fun _ _ _ _ _ => (pv 3))) (pss_one (ps_ret (pe_callTy call_tuple' rfl (T.free 65) boot_tuple (pa_cons (pv 2) pa_nil)))))), ?_⟩
  rintro ds d ⟨ss, b, rfl, hb, hf, rfl⟩
  obtain ⟨U, hU, hin⟩ := hf.U
  refine bl_seq (sm_set (x := lSS (canS ss)) ?_ trivial) (bl_seq (sm_set (x := lSS (greatestF ss)) ?_ trivial) ?_)
  · rcases hb with rfl | rfl
    · exact ev_srtSet (.inl (ev_get rfl)) U hU hin
    · exact ev_srtSet (.inr (ev_get rfl)) U hU hin
  · apply ev_is
    case h => repeat' (first | exact ⟨_, _, rfl, rfl⟩ | decide | apply ev_and | apply ev_or | apply et_and | apply et_or | (with_reducible intro x hx) | (with_reducible intro hp) | exact ev_get rfl | exact ev_bl | exact ev_non | exact ev_int (by decide) | exact ev_str (by decide) | exact ea_nil | apply ea_cons | apply ev_op | apply ev_cb | apply ev_call | apply ev_tup | apply ev_lst | apply et_test | apply et_B | exact et_yes | apply et_not | apply ev_lc0 | apply ev_lc | apply src_tup | apply src_list | exact gt_name | apply gt_tup | apply gts_cons | exact gts_nil | exact in_tS _ _ | exact in_lS _ _ | exact nin_tS _ _ | exact in_tSS _ _ | exact eq_tN _ _ | exact ne_tN _ _ | exact eq_tS _ _ | exact ne_tS _ _ | exact eq_int _ _ | exact lt_tN _ _ | exact lt_tS _ _ | exact all_map _ _ | exact any_map _ _ | exact tup_lst _ | exact len_lst _ | exact len_tup _ | exact ix_h | exact ix_l | exact ix_f | exact ix_p0 | exact ix_p1 | exact isn_none | exact le_int _ _ | exact gt_int _ _ | apply src_zipT | apply ev_slFromT | exact ev_n1 | exact ev_n3 | exact ev_n4 | apply ev_isiStr | apply ev_isiTup | apply src_str | decide | exact rfl)
    rfl
  refine bl_ret ?_
  apply ev_is
  case h => repeat' (first | decide | apply ev_and | apply ev_or | apply et_and | apply et_or | (with_reducible intro x hx) | (with_reducible intro hp) | exact ev_get rfl | exact ev_bl | exact ev_non | exact ev_int (by decide) | exact ev_str (by decide) | exact ea_nil | apply ea_cons | apply ev_op | apply ev_cb | apply ev_call | apply ev_tup | apply ev_lst | apply et_test | apply et_B | exact et_yes | apply et_not | apply ev_lc0 | apply ev_lc | apply src_tup | apply src_list | exact gt_name | apply gt_tup | apply gts_cons | exact gts_nil | exact in_tS _ _ | exact in_lS _ _ | exact nin_tS _ _ | exact in_tSS _ _ | exact eq_tN _ _ | exact ne_tN _ _ | exact eq_tS _ _ | exact ne_tS _ _ | exact eq_int _ _ | exact lt_tN _ _ | exact lt_tS _ _ | exact all_map _ _ | exact any_map _ _ | exact tup_lst _ | exact len_lst _ | exact len_tup _ | exact ix_h | exact ix_l | exact ix_f | exact ix_p0 | exact ix_p1 | exact isn_none | exact le_int _ _ | exact gt_int _ _ | apply src_zipT | apply ev_slFromT | exact ev_n1 | exact ev_n3 | exact ev_n4 | apply ev_isiStr | apply ev_isiTup | apply src_str | decide | exact rfl)
  rfl
def R_falls_by (ds : List D) (d : D) : Prop := ∃ (T : Tru) (a b : Nm), ds = [tT T, tN a, tN b] ∧ VT T ∧ a ∈ housesF T ∧ b ∈ housesF T ∧ d = tSS (fallsF T a b)
theorem ok_falls_by (T : Tx K mg) (C_greatest_of : Ok P w K mg base 2 "greatest_of" ["sets"] [] (spR R_greatest_of)) (C_joint_in : Ok P w K mg base 1 "joint_in" ["one", "other"] [] (spR R_joint_in)) (C_fears_of : Ok P w K mg base 1 "fears_of" ["trust", "house"] [] (spR R_fears_of)) : Ok P w K mg base 3 "falls_by" ["trust", "house", "other"] [] (spR R_falls_by) := by
  refine ok_pure T d_falls_by 18 18 rfl rfl rfl rfl rfl sc_falls_by (fun _ _ _ _ _ _ us hl => match us, hl with | [_, _, _], _ => rfl) ?_ ?_
  · rintro ds d ⟨T, a, b, rfl, hV, ha, hb, rfl⟩; rfl
  intro cdv A outer s H E hr
  have nd := sc_falls_by.nd
  refine ⟨_, (pss_cons (ps_if (pt_cmpR (op_eq' (hu64 hr)) (pv 1) (pv 2) (nomark _)) (pss_one (ps_ret (pe_go C_greatest_of hr (by decide) rfl (pa_cons (pe_go C_fears_of hr (by decide) rfl (pa_cons (pv 0) (pa_cons (pv 1) pa_nil))) pa_nil)))) pss_nil) (pss_cons (ps_setLc2 (i := 3) (own := [("one", 4), ("late", 5)]) (vs1 := [5]) (g := (gName 4)) (g1 := (gName 5)) (wi := (iTup K (tCall (spR R_fears_of) [] E0 (tCons (tVar 0) (tCons (tVar 1) tNil))))) (wi1 := (iTup K (tCall (spR R_fears_of) [] E0 (tCons (tVar 0) (tCons (tVar 2) tNil))))) (tt := tYes) (tt1 := tYes) (te := (tCall (spR R_joint_in) [] E0 (tCons (tVar 4) (tCons (tVar 5) tNil)))) rfl nd rfl rfl (sw_true rfl rfl rfl (by decide +kernel)) (pi_tup (pe_go C_fears_of hr (by decide) rfl (pa_cons (pv 0) (pa_cons (pv 1) pa_nil)))) (blkOk_by (N := N_falls_by) (sc := defScope s_falls_by) (by decide +kernel)) (by decide) (fun _ _ _ _ _ => (pg_name (i := 4) nd rfl (by first | exact Or.inl rfl | exact Or.inr rfl))) (fun _ _ _ _ _ => pts_nil) (fun _ _ _ _ _ => (pi_tup (pe_go C_fears_of hr (by decide) rfl (pa_cons (pv 0) (pa_cons (pv 2) pa_nil))))) (fun _ _ _ _ _ => (pg_name (i := 5) nd rfl (by first | exact Or.inl rfl | exact Or.inr rfl))) (fun _ _ _ _ _ => pts_nil) (fun _ _ _ _ _ => (pe_go C_joint_in hr (by decide) rfl (pa_cons (pv 4) (pa_cons (pv 5) pa_nil))))) (pss_one (ps_ret (pe_go C_greatest_of hr (by decide) rfl (pa_cons (pv 3) pa_nil)))))), ?_⟩
  rintro ds d ⟨T, a, b, rfl, hV, ha, hb, rfl⟩
  refine bl_if (w := tNext) (b := decide (a = b)) ?_ (fun h => ?_) (fun h => ?_)
  · repeat' (first | decide | apply ev_and | apply ev_or | apply et_and | apply et_or | (with_reducible intro x hx) | (with_reducible intro hp) | exact ev_get rfl | exact ev_bl | exact ev_non | exact ev_int (by decide) | exact ev_str (by decide) | exact ea_nil | apply ea_cons | apply ev_op | apply ev_cb | apply ev_call | apply ev_tup | apply ev_lst | apply et_test | apply et_B | exact et_yes | apply et_not | apply ev_lc0 | apply ev_lc | apply src_tup | apply src_list | exact gt_name | apply gt_tup | apply gts_cons | exact gts_nil | exact in_tS _ _ | exact in_lS _ _ | exact nin_tS _ _ | exact in_tSS _ _ | exact eq_tN _ _ | exact ne_tN _ _ | exact eq_tS _ _ | exact ne_tS _ _ | exact eq_int _ _ | exact lt_tN _ _ | exact lt_tS _ _ | exact all_map _ _ | exact any_map _ _ | exact tup_lst _ | exact len_lst _ | exact len_tup _ | exact ix_h | exact ix_l | exact ix_f | exact ix_p0 | exact ix_p1 | exact isn_none | exact le_int _ _ | exact gt_int _ _ | apply src_zipT | apply ev_slFromT | exact ev_n1 | exact ev_n3 | exact ev_n4 | apply ev_isiStr | apply ev_isiTup | apply src_str | decide | exact rfl)
  · have h' := of_decide_eq_true h
    refine bl_ret ?_
    apply ev_is
    case h => repeat' (first | exact ⟨_, _, rfl, ha, rfl⟩ | exact ⟨_, _, rfl, .inr rfl, hV.fewF ha, rfl⟩ | decide | apply ev_and | apply ev_or | apply et_and | apply et_or | (with_reducible intro x hx) | (with_reducible intro hp) | exact ev_get rfl | exact ev_bl | exact ev_non | exact ev_int (by decide) | exact ev_str (by decide) | exact ea_nil | apply ea_cons | apply ev_op | apply ev_cb | apply ev_call | apply ev_tup | apply ev_lst | apply et_test | apply et_B | exact et_yes | apply et_not | apply ev_lc0 | apply ev_lc | apply src_tup | apply src_list | exact gt_name | apply gt_tup | apply gts_cons | exact gts_nil | exact in_tS _ _ | exact in_lS _ _ | exact nin_tS _ _ | exact in_tSS _ _ | exact eq_tN _ _ | exact ne_tN _ _ | exact eq_tS _ _ | exact ne_tS _ _ | exact eq_int _ _ | exact lt_tN _ _ | exact lt_tS _ _ | exact all_map _ _ | exact any_map _ _ | exact tup_lst _ | exact len_lst _ | exact len_tup _ | exact ix_h | exact ix_l | exact ix_f | exact ix_p0 | exact ix_p1 | exact isn_none | exact le_int _ _ | exact gt_int _ _ | apply src_zipT | apply ev_slFromT | exact ev_n1 | exact ev_n3 | exact ev_n4 | apply ev_isiStr | apply ev_isiTup | apply src_str | decide | exact rfl)
    unfold fallsF
    rw [if_pos h']
  · have h' := of_decide_eq_false h
    refine bl_seq (sm_set (x := lSS (jfF T a b)) ?_ trivial) ?_
    · apply ev_is
      case h =>
        refine ev_lc2 (xs := fearsF T a) (ys := fun _ => fearsF T b) (enc := tS) (enc1 := fun _ => tS) (fun one late => tS (jointF one late)) (src_tup ?_) (fun x hx => gt_name) (by decide) (fun x hx => src_tup ?_) (fun x hx y hy => gt_name) (by decide) (fun x hx y hy => ?_) ?_
        · repeat' (first | exact ⟨_, _, rfl, ha, rfl⟩ | decide | apply ev_and | apply ev_or | apply et_and | apply et_or | (with_reducible intro x hx) | (with_reducible intro hp) | exact ev_get rfl | exact ev_bl | exact ev_non | exact ev_int (by decide) | exact ev_str (by decide) | exact ea_nil | apply ea_cons | apply ev_op | apply ev_cb | apply ev_call | apply ev_tup | apply ev_lst | apply et_test | apply et_B | exact et_yes | apply et_not | apply ev_lc0 | apply ev_lc | apply src_tup | apply src_list | exact gt_name | apply gt_tup | apply gts_cons | exact gts_nil | exact in_tS _ _ | exact in_lS _ _ | exact nin_tS _ _ | exact in_tSS _ _ | exact eq_tN _ _ | exact ne_tN _ _ | exact eq_tS _ _ | exact ne_tS _ _ | exact eq_int _ _ | exact lt_tN _ _ | exact lt_tS _ _ | exact all_map _ _ | exact any_map _ _ | exact tup_lst _ | exact len_lst _ | exact len_tup _ | exact ix_h | exact ix_l | exact ix_f | exact ix_p0 | exact ix_p1 | exact isn_none | exact le_int _ _ | exact gt_int _ _ | apply src_zipT | apply ev_slFromT | exact ev_n1 | exact ev_n3 | exact ev_n4 | apply ev_isiStr | apply ev_isiTup | apply src_str | decide | exact rfl)
        · repeat' (first | exact ⟨_, _, rfl, hb, rfl⟩ | decide | apply ev_and | apply ev_or | apply et_and | apply et_or | (with_reducible intro x hx) | (with_reducible intro hp) | exact ev_get rfl | exact ev_bl | exact ev_non | exact ev_int (by decide) | exact ev_str (by decide) | exact ea_nil | apply ea_cons | apply ev_op | apply ev_cb | apply ev_call | apply ev_tup | apply ev_lst | apply et_test | apply et_B | exact et_yes | apply et_not | apply ev_lc0 | apply ev_lc | apply src_tup | apply src_list | exact gt_name | apply gt_tup | apply gts_cons | exact gts_nil | exact in_tS _ _ | exact in_lS _ _ | exact nin_tS _ _ | exact in_tSS _ _ | exact eq_tN _ _ | exact ne_tN _ _ | exact eq_tS _ _ | exact ne_tS _ _ | exact eq_int _ _ | exact lt_tN _ _ | exact lt_tS _ _ | exact all_map _ _ | exact any_map _ _ | exact tup_lst _ | exact len_lst _ | exact len_tup _ | exact ix_h | exact ix_l | exact ix_f | exact ix_p0 | exact ix_p1 | exact isn_none | exact le_int _ _ | exact gt_int _ _ | apply src_zipT | apply ev_slFromT | exact ev_n1 | exact ev_n3 | exact ev_n4 | apply ev_isiStr | apply ev_isiTup | apply src_str | decide | exact rfl)
        · repeat' (first | exact ⟨_, _, rfl, rfl⟩ | decide | apply ev_and | apply ev_or | apply et_and | apply et_or | (with_reducible intro x hx) | (with_reducible intro hp) | exact ev_get rfl | exact ev_bl | exact ev_non | exact ev_int (by decide) | exact ev_str (by decide) | exact ea_nil | apply ea_cons | apply ev_op | apply ev_cb | apply ev_call | apply ev_tup | apply ev_lst | apply et_test | apply et_B | exact et_yes | apply et_not | apply ev_lc0 | apply ev_lc | apply src_tup | apply src_list | exact gt_name | apply gt_tup | apply gts_cons | exact gts_nil | exact in_tS _ _ | exact in_lS _ _ | exact nin_tS _ _ | exact in_tSS _ _ | exact eq_tN _ _ | exact ne_tN _ _ | exact eq_tS _ _ | exact ne_tS _ _ | exact eq_int _ _ | exact lt_tN _ _ | exact lt_tS _ _ | exact all_map _ _ | exact any_map _ _ | exact tup_lst _ | exact len_lst _ | exact len_tup _ | exact ix_h | exact ix_l | exact ix_f | exact ix_p0 | exact ix_p1 | exact isn_none | exact le_int _ _ | exact gt_int _ _ | apply src_zipT | apply ev_slFromT | exact ev_n1 | exact ev_n3 | exact ev_n4 | apply ev_isiStr | apply ev_isiTup | apply src_str | decide | exact rfl)
        · have h1 := hV.flen (rowF_mem ha)
          have h2 := hV.flen (rowF_mem hb)
          have := flat_len (l := fearsF T a) (f := fun x => (fearsF T b).map fun late => tS (jointF x late)) (k := 32) fun x hx => by rw [List.length_map]; exact h2
          have h3 : (fearsF T a).length ≤ 32 := h1
          omega
      unfold lSS jfF
      rw [List.map_flatMap]
      simp only [List.map_map]
      rfl
    refine bl_ret ?_
    apply ev_is
    case h => repeat' (first | exact ⟨_, _, rfl, .inl rfl, hV.fewJ ha hb, rfl⟩ | decide | apply ev_and | apply ev_or | apply et_and | apply et_or | (with_reducible intro x hx) | (with_reducible intro hp) | exact ev_get rfl | exact ev_bl | exact ev_non | exact ev_int (by decide) | exact ev_str (by decide) | exact ea_nil | apply ea_cons | apply ev_op | apply ev_cb | apply ev_call | apply ev_tup | apply ev_lst | apply et_test | apply et_B | exact et_yes | apply et_not | apply ev_lc0 | apply ev_lc | apply src_tup | apply src_list | exact gt_name | apply gt_tup | apply gts_cons | exact gts_nil | exact in_tS _ _ | exact in_lS _ _ | exact nin_tS _ _ | exact in_tSS _ _ | exact eq_tN _ _ | exact ne_tN _ _ | exact eq_tS _ _ | exact ne_tS _ _ | exact eq_int _ _ | exact lt_tN _ _ | exact lt_tS _ _ | exact all_map _ _ | exact any_map _ _ | exact tup_lst _ | exact len_lst _ | exact len_tup _ | exact ix_h | exact ix_l | exact ix_f | exact ix_p0 | exact ix_p1 | exact isn_none | exact le_int _ _ | exact gt_int _ _ | apply src_zipT | apply ev_slFromT | exact ev_n1 | exact ev_n3 | exact ev_n4 | apply ev_isiStr | apply ev_isiTup | apply src_str | decide | exact rfl)
    unfold fallsF
    rw [if_neg h']
    rfl
end
end K16
/-! ## part P4 -/
set_option Elab.async false
set_option linter.all false
set_option maxRecDepth 100000
set_option maxHeartbeats 1000000
namespace K16
open PySem PySem.Spec PyProof.Rows L2
open Evl (Ex)
section
variable {P : Program} {w : World} {K : PySem.W.Frag} {mg : Str → Option Value} {base : Heap}
theorem VT.foundLen {T : Tru} (V : VT T) {a : Nm} (ha : a ∈ housesF T) : (foundF T a).length ≤ 10000 := by
  have := flat_len (l := pairsF T) (f := fun p => if p.1 = a then [] else (fallsF T a p.1).map fun f => lessF (lotF T p) f) (k := 32) fun p hp => by
    split
    · simp
    · rw [List.length_map]
      exact (V.falls ha (V.pair hp).1).1
  have h5 := V.plen
  unfold foundF
  omega
theorem VT.fewFound {T : Tru} (V : VT T) {a : Nm} : Few (foundF T a) := ⟨_, V.ris, V.hlen, fun s hs => by
  obtain ⟨p, hp, hs⟩ := List.mem_flatMap.mp hs
  split at hs
  · cases hs
  · obtain ⟨f, hf, rfl⟩ := List.mem_map.mp hs
    obtain ⟨_, _, t, ht, _, hl, _⟩ := V.pair hp
    exact (V.lset t ht _ hl).2.filter _⟩
theorem VT.needs {T : Tru} (V : VT T) {a : Nm} : ∀ s ∈ needsF T a, SetOf (housesF T) s := fun s hs => by
  obtain ⟨n, hn, h5, h⟩ := V.fewFound (a := a)
  have hm := canon_mem.mp (List.mem_filter.mp hs).1
  obtain ⟨p, hp, hm⟩ := List.mem_flatMap.mp hm
  split at hm
  · cases hm
  · obtain ⟨f, hf, rfl⟩ := List.mem_map.mp hm
    obtain ⟨_, _, t, ht, _, hl, _⟩ := V.pair hp
    exact (V.lset t ht _ hl).2.filter _
theorem joint_nil (a b : Sx) : REq (.int (((jointF a b).map tN).length : Int)) (.int 0) (.bool (decide (jointF a b = []))) := by
  have h := eq_int (((jointF a b).map tN).length : Int) 0
  rw [List.length_map] at h ⊢
  have e : decide (((jointF a b).length : Int) = 0) = decide (jointF a b = []) := by
    refine decide_eq_decide.mpr ?_
    rw [← List.length_eq_zero_iff]
    omega
  rw [e] at h
  exact h
theorem joint_pos (a b : Sx) : RGtI (.int (((jointF a b).map tN).length : Int)) (.int 0) (.bool (!decide (jointF a b = []))) := by
  have h := gt_int (((jointF a b).map tN).length : Int) 0
  rw [List.length_map] at h ⊢
  have e : decide (0 < ((jointF a b).length : Int)) = !decide (jointF a b = []) := by
    rw [← decide_not]
    refine decide_eq_decide.mpr ?_
    have := @List.length_pos_iff _ (jointF a b)
    constructor
    · intro h
      exact this.mp (by omega)
    · intro h
      have := this.mpr h
      omega
  rw [e] at h
  exact h
theorem isn_t {xs : List D} : RIsN (.tuple xs) .none (.bool false) := ⟨rfl, rfl⟩
theorem isn_o (o : Option Sx) : RIsN (match o with | some x => tS x | none => .none) .none (.bool o.isNone) := by
  cases o <;> exact ⟨rfl, rfl⟩
def R_pairs_in (ds : List D) (d : D) : Prop := ∃ (T : Tru), ds = [tT T] ∧ VT T ∧ d = .list ((pairsF T).map tPr)
theorem ok_pairs_in (T : Tx K mg) : Ok P w K mg base 1 "pairs_in" ["trust"] [] (spR R_pairs_in) := by
  refine ok_pure T d_pairs_in 19 19 rfl rfl rfl rfl rfl sc_pairs_in (fun _ _ _ _ _ _ us hl => match us, hl with | [_], _ => rfl) ?_ ?_
  · rintro ds d ⟨T, rfl, hV, rfl⟩; rfl
  intro cdv A outer s H E hr
  have nd := sc_pairs_in.nd
  refine ⟨_, (pss_one (ps_ret (pe_lc2 (own := [("house", 1), ("lots", 2), ("fears", 3), ("k", 4)]) (vs1 := [4]) (g := (gTup K 3 (gCons (gName 1) (gCons (gName 2) (gCons (gName 3) gNil))))) (g1 := (gName 4)) (wi := (iTup K (tVar 0))) (wi1 := (iRng1 (tCons (tCB (rD RLen) (tCons (tVar 2) tNil)) tNil))) (tt := tYes) (tt1 := tYes) (te := (tTup (tCons (tVar 1) (tCons (tVar 4) tNil)))) rfl nd (pi_tup (pv 0)) (blkOk_by (N := N_pairs_in) (sc := defScope s_pairs_in) (by decide +kernel)) (by decide) (fun _ _ _ _ _ => (pg_tup (by rfl) (pgs_cons (pg_name (i := 1) nd rfl (by first | exact Or.inl rfl | exact Or.inr rfl)) (pgs_cons (pg_name (i := 2) nd rfl (by first | exact Or.inl rfl | exact Or.inr rfl)) (pgs_cons (pg_name (i := 3) nd rfl (by first | exact Or.inl rfl | exact Or.inr rfl)) pgs_nil))))) (fun _ _ _ _ _ => pts_nil) (fun _ _ _ _ _ => (pi_range1 rfl (T.free 70) (pa_cons (pe_callB call_len' rfl (T.free 62) boot_len (pa_cons (pv 2) pa_nil)) pa_nil))) (fun _ _ _ _ _ => (pg_name (i := 4) nd rfl (by first | exact Or.inl rfl | exact Or.inr rfl))) (fun _ _ _ _ _ => pts_nil) (fun _ _ _ _ _ => (pe_tup (pa_cons (pv 1) (pa_cons (pv 4) pa_nil))))))), ?_⟩
  rintro ds d ⟨T, rfl, hV, rfl⟩
  refine bl_ret ?_
  apply ev_is
  case h =>
    refine ev_lc2 (xs := T) (ys := fun t => List.range (t.lots.map tS).length) (enc := tTri) (enc1 := fun _ k => .int (k : Int)) (fun t k => tPr (t.h, k)) (src_tup (ev_get rfl)) (fun t ht => gt_tup (gts_cons gt_name (gts_cons gt_name (gts_cons gt_name gts_nil))) rfl) (by decide) (fun t ht => ?_) (fun t ht k hk => gt_name) (by decide) (fun t ht k hk => ?_) ?_
    · exact src_rng (ea_cons (ev_cb (ea_cons (ev_get rfl) ea_nil) (len_tup (t.lots.map tS))) ea_nil) (by rw [List.length_map]; have := hV.llen ht; omega)
    · exact ev_tup (ea_cons (ev_get rfl) (ea_cons (ev_get rfl) ea_nil)) (by show 2 ≤ 100000; decide)
    · have := flat_len (l := T) (f := fun t => (List.range (t.lots.map tS).length).map fun k => tPr (t.h, k)) (k := 32) fun t ht => by
        rw [List.length_map, List.length_range, List.length_map]
        exact hV.llen ht
      have h5 := hV.len
      omega
  unfold pairsF
  rw [List.map_flatMap]
  simp only [List.map_map, List.length_map]
  rfl
def R_lot_at (ds : List D) (d : D) : Prop := ∃ (T : Tru) (p : Pr), ds = [tT T, tPr p] ∧ VT T ∧ p ∈ pairsF T ∧ d = tS (lotF T p)
theorem ok_lot_at (T : Tx K mg) (C_lots_of : Ok P w K mg base 1 "lots_of" ["trust", "house"] [] (spR R_lots_of)) : Ok P w K mg base 2 "lot_at" ["trust", "pair"] [] (spR R_lot_at) := by
  refine ok_pure T d_lot_at 20 20 rfl rfl rfl rfl rfl sc_lot_at (fun _ _ _ _ _ _ us hl => match us, hl with | [_, _], _ => rfl) ?_ ?_
  · rintro ds d ⟨T, p, rfl, hV, hp, rfl⟩; rfl
  intro cdv A outer s H E hr
  have nd := sc_lot_at.nd
  refine ⟨_, (pss_one (ps_ret (pe_ix ix' (pe_go C_lots_of hr (by decide) rfl (pa_cons (pv 0) (pa_cons (pe_ix ix' (pv 1) pe_int (fun _ _ => rfl)) pa_nil))) (pe_ix ix' (pv 1) pe_int (fun _ _ => rfl)) (fun _ _ => rfl)))), ?_⟩
  rintro ds d ⟨T, p, rfl, hV, hp, rfl⟩
  obtain ⟨h1, h2, _⟩ := hV.pair hp
  refine bl_ret ?_
  apply ev_is
  case h => repeat' (first | exact ⟨_, _, rfl, h1, rfl⟩ | exact ix_at h2 | decide | apply ev_and | apply ev_or | apply et_and | apply et_or | (with_reducible intro x hx) | (with_reducible intro hp) | exact ev_get rfl | exact ev_bl | exact ev_non | exact ev_int (by decide) | exact ev_str (by decide) | exact ea_nil | apply ea_cons | apply ev_op | apply ev_cb | apply ev_call | apply ev_tup | apply ev_lst | apply et_test | apply et_B | exact et_yes | apply et_not | apply ev_lc0 | apply ev_lc | apply src_tup | apply src_list | exact gt_name | apply gt_tup | apply gts_cons | exact gts_nil | exact in_tS _ _ | exact in_lS _ _ | exact nin_tS _ _ | exact in_tSS _ _ | exact eq_tN _ _ | exact ne_tN _ _ | exact eq_tS _ _ | exact ne_tS _ _ | exact eq_int _ _ | exact lt_tN _ _ | exact lt_tS _ _ | exact all_map _ _ | exact any_map _ _ | exact tup_lst _ | exact len_lst _ | exact len_tup _ | exact ix_h | exact ix_l | exact ix_f | exact ix_p0 | exact ix_p1 | exact isn_none | exact le_int _ _ | exact gt_int _ _ | apply src_zipT | apply ev_slFromT | exact ev_n1 | exact ev_n3 | exact ev_n4 | apply ev_isiStr | apply ev_isiTup | apply src_str | decide | exact rfl)
  rfl
def R_needs_by (ds : List D) (d : D) : Prop := ∃ (T : Tru) (a : Nm), ds = [tT T, tN a] ∧ VT T ∧ a ∈ housesF T ∧ d = tSS (needsF T a)
theorem ok_needs_by (T : Tx K mg) (C_least_of : Ok P w K mg base 2 "least_of" ["sets"] [] (spR R_least_of)) (C_pairs_in : Ok P w K mg base 1 "pairs_in" ["trust"] [] (spR R_pairs_in)) (C_lot_at : Ok P w K mg base 2 "lot_at" ["trust", "pair"] [] (spR R_lot_at)) (C_less_by : Ok P w K mg base 1 "less_by" ["lot", "fall"] [] (spR R_less_by)) (C_falls_by : Ok P w K mg base 3 "falls_by" ["trust", "house", "other"] [] (spR R_falls_by)) : Ok P w K mg base 4 "needs_by" ["trust", "house"] [] (spR R_needs_by) := by
  refine ok_pure T d_needs_by 21 21 rfl rfl rfl rfl rfl sc_needs_by (fun _ _ _ _ _ _ us hl => match us, hl with | [_, _], _ => rfl) ?_ ?_
  · rintro ds d ⟨T, a, rfl, hV, ha, rfl⟩; rfl
  intro cdv A outer s H E hr
  have nd := sc_needs_by.nd
  refine ⟨_, (pss_cons (ps_set (i := 2) nd rfl (by first | exact Or.inl rfl | exact Or.inr rfl) (pe_lst pa_nil)) (pss_cons (ps_for PassesOwn.never rfl (pi_list (pe_go C_pairs_in hr (by decide) rfl (pa_cons (pv 0) pa_nil))) (pg_name (i := 3) nd rfl (by first | exact Or.inl rfl | exact Or.inr rfl)) (pss_one (ps_if (pt_cmpR (op_ne' (hu64 hr)) (pe_ix ix' (pv 3) pe_int (fun _ _ => rfl)) (pv 1) (nomark _)) (pss_one (ps_expr (pe_bm PySem.F.plainAttrs_list PySem.F.slot_list_extend PySem.F.type_list_extend mt_extend (pv 2) (pa_cons (pe_lc (own := [("fall", 4)]) (g := (gName 4)) (wi := (iTup K (tCall (spR R_falls_by) [] E0 (tCons (tVar 0) (tCons (tVar 1) (tCons (tOp (rD2 RIx) (tVar 3) (tC (.int 0))) tNil)))))) (tt := tYes) (te := (tCall (spR R_less_by) [] E0 (tCons (tCall (spR R_lot_at) [] E0 (tCons (tVar 0) (tCons (tVar 3) tNil))) (tCons (tVar 4) tNil)))) rfl nd (pi_tup (pe_go C_falls_by hr (by decide) rfl (pa_cons (pv 0) (pa_cons (pv 1) (pa_cons (pe_ix ix' (pv 3) pe_int (fun _ _ => rfl)) pa_nil))))) (blkOk_by (N := N_needs_by) (sc := defScope s_needs_by) (by decide +kernel)) (fun _ _ _ _ _ => (pg_name (i := 4) nd rfl (by first | exact Or.inl rfl | exact Or.inr rfl))) (fun _ _ _ _ _ => pts_nil) (fun _ _ _ _ _ => (pe_go C_less_by hr (by decide) rfl (pa_cons (pe_go C_lot_at hr (by decide) rfl (pa_cons (pv 0) (pa_cons (pv 3) pa_nil))) (pa_cons (pv 4) pa_nil))))) pa_nil)))) pss_nil))) (pss_one (ps_ret (pe_go C_least_of hr (by decide) rfl (pa_cons (pv 2) pa_nil)))))), ?_⟩
  rintro ds d ⟨T, a, rfl, hV, ha, rfl⟩
  refine bl_seq (sm_own (by show 2 < 5; decide)) ?_
  refine bl_seq (sm_forOwn (xs := pairsF T) (enc := tPr) (js := [3]) (fun p => (if p.1 = a then [] else (fallsF T a p.1).map fun f => lessF (lotF T p) f).map tS) 2 [] (envW := [some (tT T), some (tN a), none, none, none]) (env4 := fun p => [some (tT T), some (tN a), none, some (tPr p), none]) (env5 := fun p => [some (tT T), some (tN a), none, some (tPr p), none]) (src_list ?_) (.s (.s (.n (.n (.n .nil))))) ?_ ?_) ?_
  · exact ev_call (ea_cons (ev_get rfl) ea_nil) ⟨T, rfl, hV, rfl⟩
  · have := hV.foundLen ha
    unfold foundF at this
    rw [List.length_nil, ← List.map_flatMap, List.length_map]
    omega
  · intro p hp
    obtain ⟨h1, h2, _⟩ := hV.pair hp
    refine ⟨gt_name, by decide, fun acc hacc => ?_, .s (.s (.n (.n (.n .nil))))⟩
    refine sm_if (b := !decide (p.1 = a)) ?_ (fun h => ?_) (fun h => ?_)
    · apply et_is
      case h => repeat' (first | decide | apply ev_and | apply ev_or | apply et_and | apply et_or | (with_reducible intro x hx) | (with_reducible intro hp) | exact ev_get rfl | exact ev_bl | exact ev_non | exact ev_int (by decide) | exact ev_str (by decide) | exact ea_nil | apply ea_cons | apply ev_op | apply ev_cb | apply ev_call | apply ev_tup | apply ev_lst | apply et_test | apply et_B | exact et_yes | apply et_not | apply ev_lc0 | apply ev_lc | apply src_tup | apply src_list | exact gt_name | apply gt_tup | apply gts_cons | exact gts_nil | exact in_tS _ _ | exact in_lS _ _ | exact nin_tS _ _ | exact in_tSS _ _ | exact eq_tN _ _ | exact ne_tN _ _ | exact eq_tS _ _ | exact ne_tS _ _ | exact eq_int _ _ | exact lt_tN _ _ | exact lt_tS _ _ | exact all_map _ _ | exact any_map _ _ | exact tup_lst _ | exact len_lst _ | exact len_tup _ | exact ix_h | exact ix_l | exact ix_f | exact ix_p0 | exact ix_p1 | exact isn_none | exact le_int _ _ | exact gt_int _ _ | apply src_zipT | apply ev_slFromT | exact ev_n1 | exact ev_n3 | exact ev_n4 | apply ev_isiStr | apply ev_isiTup | apply src_str | decide | exact rfl)
      rfl
    · have hne : ¬ p.1 = a := by simpa using h
      rw [if_neg hne] at hacc ⊢
      refine sm_ext (es := ((fallsF T a p.1).map fun f => lessF (lotF T p) f).map tS) ?_ hacc
      apply ev_is
      case h => repeat' (first | exact ⟨_, _, rfl, hV, hp, rfl⟩ | exact ⟨_, _, _, rfl, hV, ha, h1, rfl⟩ | exact ⟨_, _, rfl, rfl⟩ | decide | apply ev_and | apply ev_or | apply et_and | apply et_or | (with_reducible intro x hx) | (with_reducible intro hp) | exact ev_get rfl | exact ev_bl | exact ev_non | exact ev_int (by decide) | exact ev_str (by decide) | exact ea_nil | apply ea_cons | apply ev_op | apply ev_cb | apply ev_call | apply ev_tup | apply ev_lst | apply et_test | apply et_B | exact et_yes | apply et_not | apply ev_lc0 | apply ev_lc | apply src_tup | apply src_list | exact gt_name | apply gt_tup | apply gts_cons | exact gts_nil | exact in_tS _ _ | exact in_lS _ _ | exact nin_tS _ _ | exact in_tSS _ _ | exact eq_tN _ _ | exact ne_tN _ _ | exact eq_tS _ _ | exact ne_tS _ _ | exact eq_int _ _ | exact lt_tN _ _ | exact lt_tS _ _ | exact all_map _ _ | exact any_map _ _ | exact tup_lst _ | exact len_lst _ | exact len_tup _ | exact ix_h | exact ix_l | exact ix_f | exact ix_p0 | exact ix_p1 | exact isn_none | exact le_int _ _ | exact gt_int _ _ | apply src_zipT | apply ev_slFromT | exact ev_n1 | exact ev_n3 | exact ev_n4 | apply ev_isiStr | apply ev_isiTup | apply src_str | decide | exact rfl)
      rw [List.map_map]
      rfl
    · have he : p.1 = a := by simpa using h
      rw [if_pos he, List.map_nil, List.append_nil]
      exact sm_next
  · rw [List.nil_append, ← List.map_flatMap]
    refine bl_freeze ?_ (by rw [List.length_map]; have := hV.foundLen ha; unfold foundF at this; omega)
    refine bl_ret ?_
    apply ev_is
    case h => repeat' (first | exact ⟨foundF T a, _, rfl, .inl rfl, hV.fewFound, rfl⟩ | decide | apply ev_and | apply ev_or | apply et_and | apply et_or | (with_reducible intro x hx) | (with_reducible intro hp) | exact ev_get rfl | exact ev_bl | exact ev_non | exact ev_int (by decide) | exact ev_str (by decide) | exact ea_nil | apply ea_cons | apply ev_op | apply ev_cb | apply ev_call | apply ev_tup | apply ev_lst | apply et_test | apply et_B | exact et_yes | apply et_not | apply ev_lc0 | apply ev_lc | apply src_tup | apply src_list | exact gt_name | apply gt_tup | apply gts_cons | exact gts_nil | exact in_tS _ _ | exact in_lS _ _ | exact nin_tS _ _ | exact in_tSS _ _ | exact eq_tN _ _ | exact ne_tN _ _ | exact eq_tS _ _ | exact ne_tS _ _ | exact eq_int _ _ | exact lt_tN _ _ | exact lt_tS _ _ | exact all_map _ _ | exact any_map _ _ | exact tup_lst _ | exact len_lst _ | exact len_tup _ | exact ix_h | exact ix_l | exact ix_f | exact ix_p0 | exact ix_p1 | exact isn_none | exact le_int _ _ | exact gt_int _ _ | apply src_zipT | apply ev_slFromT | exact ev_n1 | exact ev_n3 | exact ev_n4 | apply ev_isiStr | apply ev_isiTup | apply src_str | decide | exact rfl)
    rfl
def R_first_missed_by (ds : List D) (d : D) : Prop := ∃ (ns : List Sx) (l : Sx), ds = [tSS ns, tS l] ∧ d = (match missF ns l with | some x => tS x | none => .none)
theorem ok_first_missed_by (T : Tx K mg) (C_joint_in : Ok P w K mg base 1 "joint_in" ["one", "other"] [] (spR R_joint_in)) : Ok P w K mg base 2 "first_missed_by" ["needs", "lot"] [] (spR R_first_missed_by) := by
  refine ok_pure T d_first_missed_by 22 22 rfl rfl rfl rfl rfl sc_first_missed_by (fun _ _ _ _ _ _ us hl => match us, hl with | [_, _], _ => rfl) ?_ ?_
  · rintro ds d ⟨ns, l, rfl, rfl⟩; rfl
  intro cdv A outer s H E hr
  have nd := sc_first_missed_by.nd
  refine ⟨_, (pss_cons (ps_for PassesOwn.never rfl (pi_tup (pv 0)) (pg_name (i := 2) nd rfl (by first | exact Or.inl rfl | exact Or.inr rfl)) (pss_one (ps_if (pt_cmpR (op_eq' (hu64 hr)) (pe_callB call_len' rfl (T.free 62) boot_len (pa_cons (pe_go C_joint_in hr (by decide) rfl (pa_cons (pv 2) (pa_cons (pv 1) pa_nil))) pa_nil)) pe_int (nomark _)) (pss_one (ps_ret (pv 2))) pss_nil))) (pss_one (ps_ret pe_non))), ?_⟩
  rintro ds d ⟨ns, l, rfl, rfl⟩
  refine bl_is (bl_for (mu := none) (xs := ns) (enc := tS) (js := [2]) (fun n => decide (jointF n l = [])) (fun n => tS n) (envW := [some (tSS ns), some (tS l), none]) (env4 := fun n => [some (tSS ns), some (tS l), some (tS n)]) (env5 := fun n => [some (tSS ns), some (tS l), some (tS n)]) (src_tup (ev_get rfl)) (.s (.s (.n .nil))) (fun n hn => ⟨gt_name, trivial, fun h => ?_, fun h => ⟨?_, .s (.s (.n .nil))⟩⟩) (bl_ret ev_non)) ?_
  · refine bl_if2 (b := true) ?_ (fun _ => bl_ret (ev_get rfl)) (fun h => absurd h (by decide))
    apply et_is
    case h => repeat' (first | exact ⟨_, _, rfl, rfl⟩ | exact joint_nil _ _ | decide | apply ev_and | apply ev_or | apply et_and | apply et_or | (with_reducible intro x hx) | (with_reducible intro hp) | exact ev_get rfl | exact ev_bl | exact ev_non | exact ev_int (by decide) | exact ev_str (by decide) | exact ea_nil | apply ea_cons | apply ev_op | apply ev_cb | apply ev_call | apply ev_tup | apply ev_lst | apply et_test | apply et_B | exact et_yes | apply et_not | apply ev_lc0 | apply ev_lc | apply src_tup | apply src_list | exact gt_name | apply gt_tup | apply gts_cons | exact gts_nil | exact in_tS _ _ | exact in_lS _ _ | exact nin_tS _ _ | exact in_tSS _ _ | exact eq_tN _ _ | exact ne_tN _ _ | exact eq_tS _ _ | exact ne_tS _ _ | exact eq_int _ _ | exact lt_tN _ _ | exact lt_tS _ _ | exact all_map _ _ | exact any_map _ _ | exact tup_lst _ | exact len_lst _ | exact len_tup _ | exact ix_h | exact ix_l | exact ix_f | exact ix_p0 | exact ix_p1 | exact isn_none | exact le_int _ _ | exact gt_int _ _ | apply src_zipT | apply ev_slFromT | exact ev_n1 | exact ev_n3 | exact ev_n4 | apply ev_isiStr | apply ev_isiTup | apply src_str | decide | exact rfl)
    exact h
  · refine sm_if (b := false) ?_ (fun h => absurd h (by decide)) (fun _ => sm_next)
    apply et_is
    case h => repeat' (first | exact ⟨_, _, rfl, rfl⟩ | exact joint_nil _ _ | decide | apply ev_and | apply ev_or | apply et_and | apply et_or | (with_reducible intro x hx) | (with_reducible intro hp) | exact ev_get rfl | exact ev_bl | exact ev_non | exact ev_int (by decide) | exact ev_str (by decide) | exact ea_nil | apply ea_cons | apply ev_op | apply ev_cb | apply ev_call | apply ev_tup | apply ev_lst | apply et_test | apply et_B | exact et_yes | apply et_not | apply ev_lc0 | apply ev_lc | apply src_tup | apply src_list | exact gt_name | apply gt_tup | apply gts_cons | exact gts_nil | exact in_tS _ _ | exact in_lS _ _ | exact nin_tS _ _ | exact in_tSS _ _ | exact eq_tN _ _ | exact ne_tN _ _ | exact eq_tS _ _ | exact ne_tS _ _ | exact eq_int _ _ | exact lt_tN _ _ | exact lt_tS _ _ | exact all_map _ _ | exact any_map _ _ | exact tup_lst _ | exact len_lst _ | exact len_tup _ | exact ix_h | exact ix_l | exact ix_f | exact ix_p0 | exact ix_p1 | exact isn_none | exact le_int _ _ | exact gt_int _ _ | apply src_zipT | apply ev_slFromT | exact ev_n1 | exact ev_n3 | exact ev_n4 | apply ev_isiStr | apply ev_isiTup | apply src_str | decide | exact rfl)
    exact h
  · unfold missF
    cases ns.find? (fun n => decide (jointF n l = [])) <;> rfl
def R_is_met (ds : List D) (d : D) : Prop := ∃ (ns : List Sx) (l : Sx), ds = [tSS ns, tS l] ∧ d = .bool (missF ns l).isNone
theorem ok_is_met (T : Tx K mg) (C_first_missed_by : Ok P w K mg base 2 "first_missed_by" ["needs", "lot"] [] (spR R_first_missed_by)) : Ok P w K mg base 3 "is_met" ["needs", "lot"] [] (spR R_is_met) := by
  refine ok_pure T d_is_met 23 23 rfl rfl rfl rfl rfl sc_is_met (fun _ _ _ _ _ _ us hl => match us, hl with | [_, _], _ => rfl) ?_ ?_
  · rintro ds d ⟨ns, l, rfl, rfl⟩; rfl
  intro cdv A outer s H E hr
  have nd := sc_is_met.nd
  refine ⟨_, (pss_one (ps_ret (pe_cmpR op_isN' (pe_go C_first_missed_by hr (by decide) rfl (pa_cons (pv 0) (pa_cons (pv 1) pa_nil))) pe_non (nomark _)))), ?_⟩
  rintro ds d ⟨ns, l, rfl, rfl⟩
  refine bl_ret ?_
  apply ev_is
  case h => repeat' (first | exact ⟨_, _, rfl, rfl⟩ | exact isn_o _ | decide | apply ev_and | apply ev_or | apply et_and | apply et_or | (with_reducible intro x hx) | (with_reducible intro hp) | exact ev_get rfl | exact ev_bl | exact ev_non | exact ev_int (by decide) | exact ev_str (by decide) | exact ea_nil | apply ea_cons | apply ev_op | apply ev_cb | apply ev_call | apply ev_tup | apply ev_lst | apply et_test | apply et_B | exact et_yes | apply et_not | apply ev_lc0 | apply ev_lc | apply src_tup | apply src_list | exact gt_name | apply gt_tup | apply gts_cons | exact gts_nil | exact in_tS _ _ | exact in_lS _ _ | exact nin_tS _ _ | exact in_tSS _ _ | exact eq_tN _ _ | exact ne_tN _ _ | exact eq_tS _ _ | exact ne_tS _ _ | exact eq_int _ _ | exact lt_tN _ _ | exact lt_tS _ _ | exact all_map _ _ | exact any_map _ _ | exact tup_lst _ | exact len_lst _ | exact len_tup _ | exact ix_h | exact ix_l | exact ix_f | exact ix_p0 | exact ix_p1 | exact isn_none | exact le_int _ _ | exact gt_int _ _ | apply src_zipT | apply ev_slFromT | exact ev_n1 | exact ev_n3 | exact ev_n4 | apply ev_isiStr | apply ev_isiTup | apply src_str | decide | exact rfl)
  rfl
def R_is_house_of (ds : List D) (d : D) : Prop := ∃ (T : Tru) (a : Nm), ds = [tT T, tN a] ∧ d = .bool (decide (a ∈ housesF T))
theorem ok_is_house_of (T : Tx K mg) (C_houses_in : Ok P w K mg base 1 "houses_in" ["trust"] [] (spR R_houses_in)) (C_is_among : Ok P w K mg base 1 "is_among" ["thing", "names"] [] (spR R_is_among)) : Ok P w K mg base 2 "is_house_of" ["trust", "thing"] [] (spR R_is_house_of) := by
  refine ok_pure T d_is_house_of 25 25 rfl rfl rfl rfl rfl sc_is_house_of (fun _ _ _ _ _ _ us hl => match us, hl with | [_, _], _ => rfl) ?_ ?_
  · rintro ds d ⟨T, a, rfl, rfl⟩; rfl
  intro cdv A outer s H E hr
  have nd := sc_is_house_of.nd
  refine ⟨_, (pss_one (ps_ret (pe_go C_is_among hr (by decide) rfl (pa_cons (pv 1) (pa_cons (pe_go C_houses_in hr (by decide) rfl (pa_cons (pv 0) pa_nil)) pa_nil))))), ?_⟩
  rintro ds d ⟨T, a, rfl, rfl⟩
  refine bl_ret ?_
  apply ev_is
  case h => repeat' (first | exact ⟨_, rfl, rfl⟩ | exact ⟨_, _, rfl, rfl⟩ | decide | apply ev_and | apply ev_or | apply et_and | apply et_or | (with_reducible intro x hx) | (with_reducible intro hp) | exact ev_get rfl | exact ev_bl | exact ev_non | exact ev_int (by decide) | exact ev_str (by decide) | exact ea_nil | apply ea_cons | apply ev_op | apply ev_cb | apply ev_call | apply ev_tup | apply ev_lst | apply et_test | apply et_B | exact et_yes | apply et_not | apply ev_lc0 | apply ev_lc | apply src_tup | apply src_list | exact gt_name | apply gt_tup | apply gts_cons | exact gts_nil | exact in_tS _ _ | exact in_lS _ _ | exact nin_tS _ _ | exact in_tSS _ _ | exact eq_tN _ _ | exact ne_tN _ _ | exact eq_tS _ _ | exact ne_tS _ _ | exact eq_int _ _ | exact lt_tN _ _ | exact lt_tS _ _ | exact all_map _ _ | exact any_map _ _ | exact tup_lst _ | exact len_lst _ | exact len_tup _ | exact ix_h | exact ix_l | exact ix_f | exact ix_p0 | exact ix_p1 | exact isn_none | exact le_int _ _ | exact gt_int _ _ | apply src_zipT | apply ev_slFromT | exact ev_n1 | exact ev_n3 | exact ev_n4 | apply ev_isiStr | apply ev_isiTup | apply src_str | decide | exact rfl)
  rfl
def R_are_houses_of (ds : List D) (d : D) : Prop := ∃ (T : Tru) (s : Sx), ds = [tT T, tS s] ∧ d = .bool (risB ltN s && s.all fun x => decide (x ∈ housesF T))
theorem ok_are_houses_of (T : Tx K mg) (C_houses_in : Ok P w K mg base 1 "houses_in" ["trust"] [] (spR R_houses_in)) (C_is_names_among : Ok P w K mg base 3 "is_names_among" ["thing", "names"] [] (spR R_is_names_among)) : Ok P w K mg base 4 "are_houses_of" ["trust", "thing"] [] (spR R_are_houses_of) := by
  refine ok_pure T d_are_houses_of 26 26 rfl rfl rfl rfl rfl sc_are_houses_of (fun _ _ _ _ _ _ us hl => match us, hl with | [_, _], _ => rfl) ?_ ?_
  · rintro ds d ⟨T, s, rfl, rfl⟩; rfl
  intro cdv A outer s H E hr
  have nd := sc_are_houses_of.nd
  refine ⟨_, (pss_one (ps_ret (pe_go C_is_names_among hr (by decide) rfl (pa_cons (pv 1) (pa_cons (pe_go C_houses_in hr (by decide) rfl (pa_cons (pv 0) pa_nil)) pa_nil))))), ?_⟩
  rintro ds d ⟨T, s, rfl, rfl⟩
  refine bl_ret ?_
  apply ev_is
  case h => repeat' (first | exact ⟨_, rfl, rfl⟩ | exact ⟨_, _, _, rfl, .inl rfl, rfl⟩ | decide | apply ev_and | apply ev_or | apply et_and | apply et_or | (with_reducible intro x hx) | (with_reducible intro hp) | exact ev_get rfl | exact ev_bl | exact ev_non | exact ev_int (by decide) | exact ev_str (by decide) | exact ea_nil | apply ea_cons | apply ev_op | apply ev_cb | apply ev_call | apply ev_tup | apply ev_lst | apply et_test | apply et_B | exact et_yes | apply et_not | apply ev_lc0 | apply ev_lc | apply src_tup | apply src_list | exact gt_name | apply gt_tup | apply gts_cons | exact gts_nil | exact in_tS _ _ | exact in_lS _ _ | exact nin_tS _ _ | exact in_tSS _ _ | exact eq_tN _ _ | exact ne_tN _ _ | exact eq_tS _ _ | exact ne_tS _ _ | exact eq_int _ _ | exact lt_tN _ _ | exact lt_tS _ _ | exact all_map _ _ | exact any_map _ _ | exact tup_lst _ | exact len_lst _ | exact len_tup _ | exact ix_h | exact ix_l | exact ix_f | exact ix_p0 | exact ix_p1 | exact isn_none | exact le_int _ _ | exact gt_int _ _ | apply src_zipT | apply ev_slFromT | exact ev_n1 | exact ev_n3 | exact ev_n4 | apply ev_isiStr | apply ev_isiTup | apply src_str | decide | exact rfl)
  rfl
end
end K16
/-! ## part P5 -/
set_option Elab.async false
set_option linter.all false
set_option maxRecDepth 100000
set_option maxHeartbeats 1000000
namespace K16
open PySem PySem.Spec PyProof.Rows L2
open Evl (Ex)
open StX (tStar pa_star)
section
variable {P : Program} {w : World} {K : PySem.W.Frag} {mg : Str → Option Value} {base : Heap}
theorem srtN_set {n : Sx} {lot need : Sx} {h : Nm} (hl : SetOf n lot) (hd : SetOf n need) (hj : jointF need lot = []) (hm : h ∈ need) : SetOf n (srtN (lot ++ [h])) := by
  have hn : h ∉ lot := fun hh => by
    have : h ∈ jointF need lot := List.mem_filter.mpr ⟨hm, decide_eq_true hh⟩
    rw [hj] at this
    cases this
  refine ⟨srt_ris ordN ?_, fun x hx => ?_⟩
  · rw [List.nodup_append]
    refine ⟨hl.ris.nodup ordN, by simp, fun a ha b hb => ?_⟩
    rw [List.mem_singleton.mp hb]
    exact fun e => hn (e ▸ ha)
  · have hx' : x ∈ lot ++ [h] := srt_mem.mp hx
    rcases List.mem_append.mp hx' with k | k
    · exact hl.sub x k
    · rw [List.mem_singleton.mp k]; exact hd.sub h hm
theorem step_set {n need : Sx} {found : List Sx} (hf : ∀ s ∈ found, SetOf n s) (hd : SetOf n need) : ∀ s ∈ stepF need found, SetOf n s := fun s hs => by
  obtain ⟨lot, hl, hs⟩ := List.mem_flatMap.mp hs
  split at hs
  · next hj =>
    obtain ⟨h, hm, rfl⟩ := List.mem_map.mp hs
    exact srtN_set (hf lot hl) hd hj hm
  · rw [List.mem_singleton.mp hs]; exact hf lot hl
structure Needs (n : Sx) (ns : List Sx) : Prop where
  ris : RisN n
  len : n.length ≤ 5
  sub : ∀ s ∈ ns, SetOf n s
theorem crossF_next {ns : List Sx} {i : Nat} {x : Sx} (h : ns[i]? = some x) : crossF (ns.take (i + 1)) = leastF (stepF x (crossF (ns.take i))) := by
  unfold crossF
  rw [List.take_succ, h, List.foldl_append]
  rfl
theorem crossF_ok {n : Sx} {ns : List Sx} (N : Needs n ns) : ∀ i, i ≤ ns.length → (∀ s ∈ crossF (ns.take i), SetOf n s) ∧ (crossF (ns.take i)).length ≤ 32
  | 0, _ => by
    rw [List.take_zero]
    refine ⟨fun s hs => ?_, by decide⟩
    rw [List.mem_singleton.mp hs]
    exact ⟨.nil, fun x hx => (by cases hx)⟩
  | i + 1, hi => by
    have hx : ns[i]? = some ns[i] := List.getElem?_eq_getElem (by omega)
    rw [crossF_next hx]
    have ih := crossF_ok N i (by omega)
    have st := step_set ih.1 (N.sub _ (List.getElem_mem (show i < ns.length by omega)))
    exact ⟨fun s hs => st s (canon_mem.mp (List.mem_filter.mp hs).1), few_least N.ris N.len st _⟩
theorem Needs.cross {n : Sx} {ns : List Sx} (N : Needs n ns) : (∀ s ∈ crossF ns, SetOf n s) ∧ (crossF ns).length ≤ 32 := by
  have := crossF_ok N ns.length (Nat.le_refl _)
  rw [List.take_length] at this
  exact this
theorem set_len {n s : Sx} (hn : RisN n) (h : SetOf n s) : s.length ≤ n.length := (sub_of_ris hn h.ris h.sub).length_le
def R_crossings_by (ds : List D) (d : D) : Prop := ∃ (n : Sx) (ns : List Sx), ds = [tSS ns] ∧ Needs n ns ∧ d = tSS (crossF ns)
theorem ok_crossings_by (T : Tx K mg) (C_least_of : Ok P w K mg base 2 "least_of" ["sets"] [] (spR R_least_of)) (C_joint_in : Ok P w K mg base 1 "joint_in" ["one", "other"] [] (spR R_joint_in)) : Ok P w K mg base 3 "crossings_by" ["needs"] [] (spR R_crossings_by) := by
  refine ok_pure T d_crossings_by 24 24 rfl rfl rfl rfl rfl sc_crossings_by (fun _ _ _ _ _ _ us hl => match us, hl with | [_], _ => rfl) ?_ ?_
  · rintro ds d ⟨n, ns, rfl, N, rfl⟩; rfl
  intro cdv A outer s H E hr
  have nd := sc_crossings_by.nd
  refine ⟨_, (pss_cons (ps_set (i := 1) nd rfl (by first | exact Or.inl rfl | exact Or.inr rfl) (pe_lst (pa_cons (pe_tup pa_nil) pa_nil))) (pss_cons (ps_for PassesOwn.never rfl (pi_tup (pv 0)) (pg_name (i := 2) nd rfl (by first | exact Or.inl rfl | exact Or.inr rfl)) (pss_cons (ps_set (i := 3) nd rfl (by first | exact Or.inl rfl | exact Or.inr rfl) (pe_lst pa_nil)) (pss_cons (ps_for PassesOwn.never rfl (pi_list (pv 1)) (pg_name (i := 4) nd rfl (by first | exact Or.inl rfl | exact Or.inr rfl)) (pss_one (ps_if (pt_cmpR op_gtI' (pe_callB call_len' rfl (T.free 62) boot_len (pa_cons (pe_go C_joint_in hr (by decide) rfl (pa_cons (pv 2) (pa_cons (pv 4) pa_nil))) pa_nil)) pe_int (nomark _)) (pss_one (ps_expr (pe_bm PySem.F.plainAttrs_list PySem.F.slot_list_append PySem.F.type_list_append mt_append (pv 3) (pa_cons (pv 4) pa_nil)))) (pss_one (ps_expr (pe_bm PySem.F.plainAttrs_list PySem.F.slot_list_extend PySem.F.type_list_extend mt_extend (pv 3) (pa_cons (pe_lc (own := [("house", 5)]) (g := (gName 5)) (wi := (iTup K (tVar 2))) (tt := tYes) (te := (tCB (rD RTup) (tCons (tCB (rD RSrt) (tCons (tLst (tStar K (tVar 4) (tCons (tVar 5) tNil))) tNil)) tNil))) rfl nd (pi_tup (pv 2)) (blkOk_by (N := N_crossings_by) (sc := defScope s_crossings_by) (by decide +kernel)) (fun _ _ _ _ _ => (pg_name (i := 5) nd rfl (by first | exact Or.inl rfl | exact Or.inr rfl))) (fun _ _ _ _ _ => pts_nil) (fun _ _ _ _ _ => (pe_callTy call_tuple' rfl (T.free 65) boot_tuple (pa_cons (pe_callB call_sorted' rfl (T.free 68) boot_sorted (pa_cons (pe_lst (pa_star (pv 4) (pa_cons (pv 5) pa_nil))) pa_nil)) pa_nil)))) pa_nil))))))) (pss_one (ps_set (i := 1) nd rfl (by first | exact Or.inl rfl | exact Or.inr rfl) (pe_callTy call_list' rfl (T.free 71) boot_list (pa_cons (pe_go C_least_of hr (by decide) rfl (pa_cons (pv 3) pa_nil)) pa_nil))))))) (pss_one (ps_ret (pe_callTy call_tuple' rfl (T.free 65) boot_tuple (pa_cons (pv 1) pa_nil)))))), ?_⟩
  rintro ds d ⟨n, ns, rfl, N, rfl⟩
  refine bl_seq (sm_set (x := lSS [[]]) (ev_lst (ea_cons (ev_tup ea_nil (by decide)) ea_nil) (by decide)) trivial) ?_
  refine bl_seq (sm_forI (xs := ns) (enc := tS) (js := [2]) (fun _ => none) (fun i => [some (tSS ns), some (lSS (crossF (ns.take i))), none, none, none, none]) (env4 := fun i x => [some (tSS ns), some (lSS (crossF (ns.take i))), some (tS x), none, none, none]) (env5 := fun i x => [some (tSS ns), some (lSS (crossF (ns.take (i + 1)))), some (tS x), some (lSS (stepF x (crossF (ns.take i)))), none, none]) (src_tup (ev_get rfl)) (.s (.s (.n (.n (.n (.n .nil)))))) ?_) ?_
  · intro i x hx
    have hi : i < ns.length := (List.getElem?_eq_some_iff.mp hx).1
    have hxm : x ∈ ns := List.mem_of_getElem? hx
    obtain ⟨ok1, ok2⟩ := crossF_ok N i (Nat.le_of_lt hi)
    have st := step_set ok1 (N.sub x hxm)
    have hx5 : x.length ≤ 5 := Nat.le_trans (set_len N.ris (N.sub x hxm)) N.len
    have slen : (stepF x (crossF (ns.take i))).length ≤ 32 * 5 := by
      have := flat_len (l := crossF (ns.take i)) (f := fun lot => if jointF x lot = [] then x.map fun h => srtN (lot ++ [h]) else [lot]) (k := 5) fun lot hl => by
        split
        · rw [List.length_map]; exact hx5
        · show 1 ≤ 5; decide
      unfold stepF
      omega
    refine ⟨gt_name, trivial, ?_, .s (.s (.n (.n (.n (.n .nil)))))⟩
    refine sm_seq (sm_own (by show 3 < 6; decide)) ?_
    refine sm_seq (sm_forOwn (xs := crossF (ns.take i)) (enc := tS) (js := [4]) (fun lot => (if jointF x lot = [] then x.map fun h => srtN (lot ++ [h]) else [lot]).map tS) 3 [] (envW := [some (tSS ns), some (lSS (crossF (ns.take i))), some (tS x), none, none, none]) (env4 := fun lot => [some (tSS ns), some (lSS (crossF (ns.take i))), some (tS x), none, some (tS lot), none]) (env5 := fun lot => [some (tSS ns), some (lSS (crossF (ns.take i))), some (tS x), none, some (tS lot), none]) (src_list (ev_get rfl)) (.s (.s (.s (.n (.n (.n .nil)))))) ?_ ?_) ?_
    · rw [List.length_nil, ← List.map_flatMap, List.length_map]
      unfold stepF at slen
      omega
    · intro lot hl
      refine ⟨gt_name, by decide, fun acc hacc => ?_, .s (.s (.s (.n (.n (.n .nil)))))⟩
      refine sm_if (b := !decide (jointF x lot = [])) ?_ (fun h => ?_) (fun h => ?_)
      · apply et_is
        case h => repeat' (first | exact ⟨_, _, rfl, rfl⟩ | exact joint_pos _ _ | decide | apply ev_and | apply ev_or | apply et_and | apply et_or | (with_reducible intro x hx) | (with_reducible intro hp) | exact ev_get rfl | exact ev_bl | exact ev_non | exact ev_int (by decide) | exact ev_str (by decide) | exact ea_nil | apply ea_cons | apply ev_op | apply ev_cb | apply ev_call | apply ev_tup | apply ev_lst | apply et_test | apply et_B | exact et_yes | apply et_not | apply ev_lc0 | apply ev_lc | apply src_tup | apply src_list | exact gt_name | apply gt_tup | apply gts_cons | exact gts_nil | exact in_tS _ _ | exact in_lS _ _ | exact nin_tS _ _ | exact in_tSS _ _ | exact eq_tN _ _ | exact ne_tN _ _ | exact eq_tS _ _ | exact ne_tS _ _ | exact eq_int _ _ | exact lt_tN _ _ | exact lt_tS _ _ | exact all_map _ _ | exact any_map _ _ | exact tup_lst _ | exact len_lst _ | exact len_tup _ | exact ix_h | exact ix_l | exact ix_f | exact ix_p0 | exact ix_p1 | exact isn_none | exact le_int _ _ | exact gt_int _ _ | apply src_zipT | apply ev_slFromT | exact ev_n1 | exact ev_n3 | exact ev_n4 | apply ev_isiStr | apply ev_isiTup | apply src_str | decide | exact rfl)
        rfl
      · have hne : ¬ jointF x lot = [] := by simpa using h
        rw [if_neg hne]
        exact sm_app (ev_get rfl) (by rw [if_neg hne] at hacc; rw [List.length_map] at hacc; exact hacc)
      · have he : jointF x lot = [] := by simpa using h
        rw [if_pos he] at hacc ⊢
        refine sm_ext (es := (x.map fun h => srtN (lot ++ [h])).map tS) ?_ hacc
        apply ev_is
        case h =>
          refine ev_lc0 (xs := x) (enc := tN) (fun h => tS (srtN (lot ++ [h]))) (src_tup (ev_get rfl)) (fun h hh => gt_name) (by decide) (fun h hh => ?_)
          refine ev_cb (ea_cons (ev_cb (ea_cons (d := lS (lot ++ [h])) ?_ ea_nil) (srt_names (lot ++ [h]) ?_)) ea_nil) (tup_lst _)
          · apply ev_is
            case h => exact ev_lst (ea_star (ds := lot.map tN) (ev_get rfl) (ea_cons (d := tN h) (ev_get rfl) ea_nil)) (by
              have := set_len N.ris (ok1 lot hl)
              have := N.len
              rw [List.length_append, List.length_map]
              show lot.length + 1 ≤ 100000
              omega)
            unfold lS
            rw [List.map_append]
            rfl
          · have := set_len N.ris (ok1 lot hl)
            have := N.len
            rw [List.length_append]
            show lot.length + 1 < 64
            omega
        rw [List.map_map]
        rfl
    · rw [List.nil_append, ← List.map_flatMap]
      refine sm_freeze ?_ (by rw [List.length_map]; unfold stepF at slen; omega)
      rw [crossF_next hx]
      refine sm_set (i := 1) (x := lSS (leastF (stepF x (crossF (ns.take i))))) ?_ trivial
      apply ev_is
      case h => repeat' (first | exact ⟨stepF x (crossF (ns.take i)), _, rfl, .inl rfl, ⟨n, N.ris, N.len, st⟩, rfl⟩ | exact lst_tup _ | decide | apply ev_and | apply ev_or | apply et_and | apply et_or | (with_reducible intro x hx) | (with_reducible intro hp) | exact ev_get rfl | exact ev_bl | exact ev_non | exact ev_int (by decide) | exact ev_str (by decide) | exact ea_nil | apply ea_cons | apply ev_op | apply ev_cb | apply ev_call | apply ev_tup | apply ev_lst | apply et_test | apply et_B | exact et_yes | apply et_not | apply ev_lc0 | apply ev_lc | apply src_tup | apply src_list | exact gt_name | apply gt_tup | apply gts_cons | exact gts_nil | exact in_tS _ _ | exact in_lS _ _ | exact nin_tS _ _ | exact in_tSS _ _ | exact eq_tN _ _ | exact ne_tN _ _ | exact eq_tS _ _ | exact ne_tS _ _ | exact eq_int _ _ | exact lt_tN _ _ | exact lt_tS _ _ | exact all_map _ _ | exact any_map _ _ | exact tup_lst _ | exact len_lst _ | exact len_tup _ | exact ix_h | exact ix_l | exact ix_f | exact ix_p0 | exact ix_p1 | exact isn_none | exact le_int _ _ | exact gt_int _ _ | apply src_zipT | apply ev_slFromT | exact ev_n1 | exact ev_n3 | exact ev_n4 | apply ev_isiStr | apply ev_isiTup | apply src_str | decide | exact rfl)
      rfl
  · rw [List.take_length]
    refine bl_ret ?_
    apply ev_is
    case h => repeat' (first | decide | apply ev_and | apply ev_or | apply et_and | apply et_or | (with_reducible intro x hx) | (with_reducible intro hp) | exact ev_get rfl | exact ev_bl | exact ev_non | exact ev_int (by decide) | exact ev_str (by decide) | exact ea_nil | apply ea_cons | apply ev_op | apply ev_cb | apply ev_call | apply ev_tup | apply ev_lst | apply et_test | apply et_B | exact et_yes | apply et_not | apply ev_lc0 | apply ev_lc | apply src_tup | apply src_list | exact gt_name | apply gt_tup | apply gts_cons | exact gts_nil | exact in_tS _ _ | exact in_lS _ _ | exact nin_tS _ _ | exact in_tSS _ _ | exact eq_tN _ _ | exact ne_tN _ _ | exact eq_tS _ _ | exact ne_tS _ _ | exact eq_int _ _ | exact lt_tN _ _ | exact lt_tS _ _ | exact all_map _ _ | exact any_map _ _ | exact tup_lst _ | exact len_lst _ | exact len_tup _ | exact ix_h | exact ix_l | exact ix_f | exact ix_p0 | exact ix_p1 | exact isn_none | exact le_int _ _ | exact gt_int _ _ | apply src_zipT | apply ev_slFromT | exact ev_n1 | exact ev_n3 | exact ev_n4 | apply ev_isiStr | apply ev_isiTup | apply src_str | decide | exact rfl)
    rfl
end
end K16
/-! ## part P6 -/
set_option Elab.async false
set_option linter.all false
set_option maxRecDepth 100000
set_option maxHeartbeats 1000000
namespace K16
open PySem PySem.Spec PyProof.Rows L2
open Evl (Ex)
open StX (tStar pa_star)
section
variable {P : Program} {w : World} {K : PySem.W.Frag} {mg : Str → Option Value} {base : Heap}
theorem ev_callD {R : List D → D → Prop} {dvs : List V} {dds ds : List D} {d : D} {tr : TA} {env : En} (h : EvA tr env ds) (hd : ∀ G : Hp, RqA G dvs dds) (hr : R (ds ++ dds) d) : EvE (tCall (spR R) dvs E0 tr) env d := fun σ G H r e Q q =>
  h σ G H r e _ fun vs G1 H1 s1 r1 => ⟨G1, _, d, hr, s1.in_, r1.append (hd G1), fun z G3 H3 s3 r3 => q z G3 H3 (s1.trans s3) r3⟩
theorem dfl_str {s : Str} (h : s.length ≤ 100000) (G : Hp) : RqA G [.str s] [.str s] := .cons (.of_str h) .nil
theorem dfl_m1 (G : Hp) : RqA G [.int (-1)] [.int (-1)] := .cons (.of_int (by decide)) .nil
abbrev Zt := Tri × Nat
def encZ (p : Zt) : D := .tuple [.int (p.2 : Int), tTri p.1]
theorem src_enumTri {K : PySem.W.Frag} {env : En} {T : Tru} {tr : TA} (h : EvA tr env [tT T]) : SrcE (iEnumT tr) env (T.zipIdx.map encZ) := by
  have := src_enumT h
  rw [List.zipIdx_map, List.map_map] at this
  exact this
theorem ix_at' {α : Type} {f : α → D} {l : List α} {k : Nat} {i : Int} {x : α} (h : l[k]? = some x) (e : i = (k : Int)) : RIx (.tuple (l.map f)) (.int i) (f x) := by
  rw [e]
  exact ix_at h
theorem sub_int (i j : Int) (h : (i - j).natAbs ≤ 1000000000) : RSub (.int i) (.int j) (.int (i - j)) := ⟨i, j, rfl, rfl, h, rfl⟩
theorem VT.lots_ok {T : Tru} (V : VT T) {t : Tri} (ht : t ∈ T) : ((t.lots.all fun s => risB ltN s && s.all fun x => decide (x ∈ housesF T)) && risB ltS t.lots) = true := by
  rw [risB_true (V.lris t ht), Bool.and_true, List.all_eq_true]
  intro s hs
  have h := (V.lset t ht s hs).2
  rw [risB_true h.ris, Bool.true_and, List.all_eq_true]
  exact fun x hx => decide_eq_true (h.sub x hx)
theorem VT.fears_ok {T : Tru} (V : VT T) {t : Tri} (ht : t ∈ T) : ((t.fears.all fun s => risB ltN s && s.all fun x => decide (x ∈ (housesF T).filter fun y => !decide (y = t.h))) && risB ltS t.fears) = true := by
  rw [risB_true (V.fris t ht), Bool.and_true, List.all_eq_true]
  intro s hs
  have h := V.fset t ht s hs
  rw [risB_true h.1.ris, Bool.true_and, List.all_eq_true]
  refine fun x hx => decide_eq_true (List.mem_filter.mpr ⟨h.1.sub x hx, ?_⟩)
  have : ¬ x = t.h := fun e => h.2 (e ▸ hx)
  simp [this]
theorem VT.nosub {T : Tru} (V : VT T) {t : Tri} (ht : t ∈ T) : decide (([] : Sx) ∈ t.lots) = false := decide_eq_false fun h => (V.lset t ht [] h).1 rfl
theorem zip_tri {T : Tru} {p : Zt} {i : Nat} (h : T.zipIdx[i]? = some p) : p.2 = i ∧ T[i]? = some p.1 := by
  rw [List.getElem?_zipIdx] at h
  obtain ⟨t, ht, e⟩ := Option.map_eq_some_iff.mp h
  subst e
  exact ⟨by simp, ht⟩
theorem zip_mem {T : Tru} {p : Zt} {i : Nat} (h : T.zipIdx[i]? = some p) : p.1 ∈ T := List.mem_of_getElem? (zip_tri h).2
theorem len_zip {T : Tru} : T.zipIdx.length = T.length := List.length_zipIdx
theorem VT.before {T : Tru} (V : VT T) {i : Nat} {t u : Tri} (h : T[i + 1]? = some t) (k : T[i]? = some u) : decide (u.h < t.h) = true := by
  have := List.pairwise_iff_getElem.mp (List.pairwise_map.mp V.ris) i (i + 1) (List.getElem?_eq_some_iff.mp k).1 (List.getElem?_eq_some_iff.mp h).1 (Nat.lt_succ_self i)
  rw [(List.getElem?_eq_some_iff.mp h).2, (List.getElem?_eq_some_iff.mp k).2] at this
  exact this
def R_trust_fault (ds : List D) (d : D) : Prop := ∃ (T : Tru), ds = [tT T] ∧ VT T ∧ d = .none
theorem ok_trust_fault (T : Tx K mg) (C_are_sets_among : Ok P w K mg base 4 "are_sets_among" ["thing", "names"] [] (spR R_are_sets_among)) (C_is_triple_from : Ok P w K mg base 2 "is_triple_from" ["thing"] [] (spR R_is_triple_from)) : Ok P w K mg base 5 "trust_fault" ["thing"] [] (spR R_trust_fault) := by
  refine ok_pure T d_trust_fault 8 8 rfl rfl rfl rfl rfl sc_trust_fault (fun _ _ _ _ _ _ us hl => match us, hl with | [_], _ => rfl) ?_ ?_
  · rintro ds d ⟨T, rfl, V, rfl⟩; rfl
  intro cdv A outer s H E hr
  have nd := sc_trust_fault.nd
  refine ⟨_, (pss_cons (ps_if (PW.pt (pw_or (pt_not (pt_val (pe_callB call_isi rfl (T.free 61) boot_isinstance (pa_cons (pv 0) (pa_cons (pe_bltn (v := .ty "tuple") rfl (T.free 65) boot_tuple rfl) pa_nil))))) (pw_or1 (pt_cmpR (op_eq' (hu64 hr)) (pe_callB call_len' rfl (T.free 62) boot_len (pa_cons (pv 0) pa_nil)) pe_int (nomark _))))) pss_never pss_nil) (pss_cons (ps_for PassesOwn.never rfl (pi_enumT (by rfl) (T.free 67) (pa_cons (pv 0) pa_nil)) (pg_tup (by rfl) (pgs_cons (pg_name (i := 1) nd rfl (by first | exact Or.inl rfl | exact Or.inr rfl)) (pgs_cons (pg_name (i := 2) nd rfl (by first | exact Or.inl rfl | exact Or.inr rfl)) pgs_nil))) (pss_one (ps_if (PW.pt (pw_or (pt_not (pt_val (pe_go C_is_triple_from hr (by decide) rfl (pa_cons (pv 2) pa_nil)))) (pw_or1 (PW.pt (pw_and (pt_cmpR op_gtI' (pv 1) pe_int (nomark _)) (pw_and1 (pt_cmpR (op_le' (hu64 hr)) (pe_ix ix' (pv 2) pe_int (fun _ _ => rfl)) (pe_ix ix' (pe_ix ix' (pv 0) (pe_op op_sub' (pv 1) pe_int) (fun _ _ => rfl)) pe_int (fun _ _ => rfl)) (nomark _)))))))) pss_never pss_nil))) (pss_cons (ps_setLc (i := 3) (own := [("one", 2)]) (g := (gName 2)) (wi := (iTup K (tVar 0))) (tt := tYes) (te := (tOp (rD2 RIx) (tVar 2) (tC (.int 0)))) rfl nd rfl rfl (sw_true rfl rfl rfl (by decide +kernel)) (pi_tup (pv 0)) (blkOk_by (N := N_trust_fault) (sc := defScope s_trust_fault) (by decide +kernel)) (fun _ _ _ _ _ => (pg_name (i := 2) nd rfl (by first | exact Or.inl rfl | exact Or.inr rfl))) (fun _ _ _ _ _ => pts_nil) (fun _ _ _ _ _ => (pe_ix ix' (pv 2) pe_int (fun _ _ => rfl)))) (pss_cons (ps_for PassesOwn.never rfl (pi_enumT (by rfl) (T.free 67) (pa_cons (pv 0) pa_nil)) (pg_tup (by rfl) (pgs_cons (pg_name (i := 1) nd rfl (by first | exact Or.inl rfl | exact Or.inr rfl)) (pgs_cons (pg_tup (by rfl) (pgs_cons (pg_name (i := 4) nd rfl (by first | exact Or.inl rfl | exact Or.inr rfl)) (pgs_cons (pg_name (i := 5) nd rfl (by first | exact Or.inl rfl | exact Or.inr rfl)) (pgs_cons (pg_name (i := 6) nd rfl (by first | exact Or.inl rfl | exact Or.inr rfl)) pgs_nil)))) pgs_nil))) (pss_cons (ps_if (PW.pt (pw_or (pt_not (pt_val (pe_go C_are_sets_among hr (by decide) rfl (pa_cons (pv 5) (pa_cons (pv 3) pa_nil))))) (pw_or1 (pt_cmpR (op_in' (hu65 hr)) (pe_tup pa_nil) (pv 5) (by with_unfolding_all rfl))))) pss_never pss_nil) (pss_one (ps_if (pt_not (pt_val (pe_go C_are_sets_among hr (by decide) rfl (pa_cons (pv 6) (pa_cons (pe_lc (own := [("other", 7)]) (g := (gName 7)) (wi := (iList K (tVar 3))) (tt := (tTest (tOp (rD2 RNe) (tVar 7) (tVar 4)))) (te := (tVar 7)) rfl nd (pi_list (pv 3)) (blkOk_by (N := N_trust_fault) (sc := defScope s_trust_fault) (by decide +kernel)) (fun _ _ _ _ _ => (pg_name (i := 7) nd rfl (by first | exact Or.inl rfl | exact Or.inr rfl))) (fun _ _ _ _ _ => (pts_one (pt_cmpR (op_ne' (hu64 hr)) (pv 7) (pv 4) (nomark _)))) (fun _ _ _ _ _ => (pv 7))) pa_nil))))) pss_never pss_nil)))) (pss_one (ps_ret pe_non)))))), ?_⟩
  rintro ds d ⟨T, rfl, V, rfl⟩
  refine bl_seq (sm_if (env2 := start0 N_trust_fault [tT T]) (mu2 := none) (b := false) ?_ (fun h => absurd h (by decide)) (fun _ => sm_next)) ?_
  · apply et_is
    case h => repeat' (first | decide | apply ev_and | apply ev_or | apply et_and | apply et_or | (with_reducible intro x hx) | (with_reducible intro hp) | exact ev_get rfl | exact ev_bl | exact ev_non | exact ev_int (by decide) | exact ev_str (by decide) | exact ea_nil | apply ea_cons | apply ev_op | apply ev_cb | apply ev_call | apply ev_tup | apply ev_lst | apply et_test | apply et_B | exact et_yes | apply et_not | apply ev_lc0 | apply ev_lc | apply src_tup | apply src_list | exact gt_name | apply gt_tup | apply gts_cons | exact gts_nil | exact in_tS _ _ | exact in_lS _ _ | exact nin_tS _ _ | exact in_tSS _ _ | exact eq_tN _ _ | exact ne_tN _ _ | exact eq_tS _ _ | exact ne_tS _ _ | exact eq_int _ _ | exact lt_tN _ _ | exact le_tN _ _ | exact lt_tS _ _ | exact all_map _ _ | exact any_map _ _ | exact tup_lst _ | exact len_lst _ | exact len_tup _ | exact ix_h | exact ix_l | exact ix_f | exact ix_p0 | exact ix_p1 | exact isn_none | exact le_int _ _ | exact gt_int _ _ | apply src_zipT | apply ev_slFromT | exact ev_n1 | exact ev_n3 | exact ev_n4 | apply ev_isiStr | apply ev_isiTup | apply src_str | decide | exact rfl)
    have hl := V.ne
    have : ¬ ((T.map tTri).length : Int) = 0 := by
      rw [List.length_map]
      cases T with
      | nil => exact absurd rfl hl
      | cons a b => simp; omega
    rw [decide_eq_false this]
    rfl
  refine bl_seq (sm_forI (xs := T.zipIdx) (enc := encZ) (js := [1, 2]) (fun _ => none) (fun _ => [some (tT T), none, none, none, none, none, none, none]) (env4 := fun _ p => [some (tT T), some (.int (p.2 : Int)), some (tTri p.1), none, none, none, none, none]) (env5 := fun _ p => [some (tT T), some (.int (p.2 : Int)), some (tTri p.1), none, none, none, none, none]) (src_enumTri (K := K) (ea_cons (ev_get rfl) ea_nil)) (.s (.n (.n (.n (.n (.n (.n (.n .nil)))))))) ?_) ?_
  · intro i p hp
    refine ⟨gt_tup (gts_cons gt_name (gts_cons gt_name gts_nil)) rfl, trivial, ?_, .s (.n (.n (.n (.n (.n (.n (.n .nil)))))))⟩
    refine sm_if (b := false) ?_ (fun h => absurd h (by decide)) (fun _ => sm_next)
    apply et_is
    case h =>
      refine et_or (x := !true) (y := decide ((0 : Int) < (p.2 : Int)) && false) ?_ (fun _ => ?_)
      · repeat' (first | exact ⟨_, rfl, rfl⟩ | decide | apply ev_and | apply ev_or | apply et_and | apply et_or | (with_reducible intro x hx) | (with_reducible intro hp) | exact ev_get rfl | exact ev_bl | exact ev_non | exact ev_int (by decide) | exact ev_str (by decide) | exact ea_nil | apply ea_cons | apply ev_op | apply ev_cb | apply ev_call | apply ev_tup | apply ev_lst | apply et_test | apply et_B | exact et_yes | apply et_not | apply ev_lc0 | apply ev_lc | apply src_tup | apply src_list | exact gt_name | apply gt_tup | apply gts_cons | exact gts_nil | exact in_tS _ _ | exact in_lS _ _ | exact nin_tS _ _ | exact in_tSS _ _ | exact eq_tN _ _ | exact ne_tN _ _ | exact eq_tS _ _ | exact ne_tS _ _ | exact eq_int _ _ | exact lt_tN _ _ | exact le_tN _ _ | exact lt_tS _ _ | exact all_map _ _ | exact any_map _ _ | exact tup_lst _ | exact len_lst _ | exact len_tup _ | exact ix_h | exact ix_l | exact ix_f | exact ix_p0 | exact ix_p1 | exact isn_none | exact le_int _ _ | exact gt_int _ _ | apply src_zipT | apply ev_slFromT | exact ev_n1 | exact ev_n3 | exact ev_n4 | apply ev_isiStr | apply ev_isiTup | apply src_str | decide | exact rfl)
      · refine et_and ?_ (fun hk => ?_)
        · repeat' (first | decide | apply ev_and | apply ev_or | apply et_and | apply et_or | (with_reducible intro x hx) | (with_reducible intro hp) | exact ev_get rfl | exact ev_bl | exact ev_non | exact ev_int (by decide) | exact ev_str (by decide) | exact ea_nil | apply ea_cons | apply ev_op | apply ev_cb | apply ev_call | apply ev_tup | apply ev_lst | apply et_test | apply et_B | exact et_yes | apply et_not | apply ev_lc0 | apply ev_lc | apply src_tup | apply src_list | exact gt_name | apply gt_tup | apply gts_cons | exact gts_nil | exact in_tS _ _ | exact in_lS _ _ | exact nin_tS _ _ | exact in_tSS _ _ | exact eq_tN _ _ | exact ne_tN _ _ | exact eq_tS _ _ | exact ne_tS _ _ | exact eq_int _ _ | exact lt_tN _ _ | exact le_tN _ _ | exact lt_tS _ _ | exact all_map _ _ | exact any_map _ _ | exact tup_lst _ | exact len_lst _ | exact len_tup _ | exact ix_h | exact ix_l | exact ix_f | exact ix_p0 | exact ix_p1 | exact isn_none | exact le_int _ _ | exact gt_int _ _ | apply src_zipT | apply ev_slFromT | exact ev_n1 | exact ev_n3 | exact ev_n4 | apply ev_isiStr | apply ev_isiTup | apply src_str | decide | exact rfl)
        · obtain ⟨e1, e2⟩ := zip_tri hp
          have hk' : 0 < p.2 := by have := of_decide_eq_true hk; omega
          obtain ⟨j, hj⟩ : ∃ j, i = j + 1 := ⟨i - 1, by omega⟩
          have hjl : j < T.length := by have := (List.getElem?_eq_some_iff.mp e2).1; omega
          have hu : T[j]? = some T[j] := List.getElem?_eq_getElem hjl
          have hlen := V.len
          apply et_is
          case h => repeat' (first | exact sub_int _ _ (by omega) | exact ix_at' hu (by omega) | decide | apply ev_and | apply ev_or | apply et_and | apply et_or | (with_reducible intro x hx) | (with_reducible intro hp) | exact ev_get rfl | exact ev_bl | exact ev_non | exact ev_int (by decide) | exact ev_str (by decide) | exact ea_nil | apply ea_cons | apply ev_op | apply ev_cb | apply ev_call | apply ev_tup | apply ev_lst | apply et_test | apply et_B | exact et_yes | apply et_not | apply ev_lc0 | apply ev_lc | apply src_tup | apply src_list | exact gt_name | apply gt_tup | apply gts_cons | exact gts_nil | exact in_tS _ _ | exact in_lS _ _ | exact nin_tS _ _ | exact in_tSS _ _ | exact eq_tN _ _ | exact ne_tN _ _ | exact eq_tS _ _ | exact ne_tS _ _ | exact eq_int _ _ | exact lt_tN _ _ | exact le_tN _ _ | exact lt_tS _ _ | exact all_map _ _ | exact any_map _ _ | exact tup_lst _ | exact len_lst _ | exact len_tup _ | exact ix_h | exact ix_l | exact ix_f | exact ix_p0 | exact ix_p1 | exact isn_none | exact le_int _ _ | exact gt_int _ _ | apply src_zipT | apply ev_slFromT | exact ev_n1 | exact ev_n3 | exact ev_n4 | apply ev_isiStr | apply ev_isiTup | apply src_str | decide | exact rfl)
          subst hj
          rw [V.before e2 hu]
          rfl
    simp
  refine bl_seq (sm_set (x := lS (housesF T)) ?_ trivial) ?_
  · apply ev_is
    case h => repeat' (first | decide | apply ev_and | apply ev_or | apply et_and | apply et_or | (with_reducible intro x hx) | (with_reducible intro hp) | exact ev_get rfl | exact ev_bl | exact ev_non | exact ev_int (by decide) | exact ev_str (by decide) | exact ea_nil | apply ea_cons | apply ev_op | apply ev_cb | apply ev_call | apply ev_tup | apply ev_lst | apply et_test | apply et_B | exact et_yes | apply et_not | apply ev_lc0 | apply ev_lc | apply src_tup | apply src_list | exact gt_name | apply gt_tup | apply gts_cons | exact gts_nil | exact in_tS _ _ | exact in_lS _ _ | exact nin_tS _ _ | exact in_tSS _ _ | exact eq_tN _ _ | exact ne_tN _ _ | exact eq_tS _ _ | exact ne_tS _ _ | exact eq_int _ _ | exact lt_tN _ _ | exact le_tN _ _ | exact lt_tS _ _ | exact all_map _ _ | exact any_map _ _ | exact tup_lst _ | exact len_lst _ | exact len_tup _ | exact ix_h | exact ix_l | exact ix_f | exact ix_p0 | exact ix_p1 | exact isn_none | exact le_int _ _ | exact gt_int _ _ | apply src_zipT | apply ev_slFromT | exact ev_n1 | exact ev_n3 | exact ev_n4 | apply ev_isiStr | apply ev_isiTup | apply src_str | decide | exact rfl)
    unfold lS housesF
    rw [List.map_map]
    rfl
  refine bl_seq (sm_forI (xs := T.zipIdx) (enc := encZ) (js := [1, 4, 5, 6]) (fun _ => none) (fun _ => [some (tT T), none, none, some (lS (housesF T)), none, none, none, none]) (env4 := fun _ p => [some (tT T), some (.int (p.2 : Int)), none, some (lS (housesF T)), some (tN p.1.h), some (tSS p.1.lots), some (tSS p.1.fears), none]) (env5 := fun _ p => [some (tT T), some (.int (p.2 : Int)), none, some (lS (housesF T)), some (tN p.1.h), some (tSS p.1.lots), some (tSS p.1.fears), none]) (src_enumTri (K := K) (ea_cons (ev_get rfl) ea_nil)) (.s (.n (.n (.s (.n (.n (.n (.n .nil)))))))) ?_) (bl_ret ev_non)
  intro i p hp
  have ht := zip_mem hp
  refine ⟨gt_tup (gts_cons gt_name (gts_cons (gt_tup (gts_cons gt_name (gts_cons gt_name (gts_cons gt_name gts_nil))) rfl) gts_nil)) rfl, trivial, ?_, .s (.n (.n (.s (.n (.n (.n (.n .nil)))))))⟩
  refine sm_seq (sm_if (env2 := [some (tT T), some (.int (p.2 : Int)), none, some (lS (housesF T)), some (tN p.1.h), some (tSS p.1.lots), some (tSS p.1.fears), none]) (mu2 := none) (b := false) ?_ (fun h => absurd h (by decide)) (fun _ => sm_next)) (sm_if (b := false) ?_ (fun h => absurd h (by decide)) (fun _ => sm_next))
  · apply et_is
    case h => repeat' (first | exact ⟨_, _, rfl, V.lne _ ht, rfl⟩ | exact in_tSS [] _ | decide | apply ev_and | apply ev_or | apply et_and | apply et_or | (with_reducible intro x hx) | (with_reducible intro hp) | exact ev_get rfl | exact ev_bl | exact ev_non | exact ev_int (by decide) | exact ev_str (by decide) | exact ea_nil | apply ea_cons | apply ev_op | apply ev_cb | apply ev_call | apply ev_tup | apply ev_lst | apply et_test | apply et_B | exact et_yes | apply et_not | apply ev_lc0 | apply ev_lc | apply src_tup | apply src_list | exact gt_name | apply gt_tup | apply gts_cons | exact gts_nil | exact in_tS _ _ | exact in_lS _ _ | exact nin_tS _ _ | exact in_tSS _ _ | exact eq_tN _ _ | exact ne_tN _ _ | exact eq_tS _ _ | exact ne_tS _ _ | exact eq_int _ _ | exact lt_tN _ _ | exact le_tN _ _ | exact lt_tS _ _ | exact all_map _ _ | exact any_map _ _ | exact tup_lst _ | exact len_lst _ | exact len_tup _ | exact ix_h | exact ix_l | exact ix_f | exact ix_p0 | exact ix_p1 | exact isn_none | exact le_int _ _ | exact gt_int _ _ | apply src_zipT | apply ev_slFromT | exact ev_n1 | exact ev_n3 | exact ev_n4 | apply ev_isiStr | apply ev_isiTup | apply src_str | decide | exact rfl)
    rw [V.lots_ok ht, V.nosub ht]
    rfl
  · apply et_is
    case h =>
      refine et_not (et_B (ev_call (ea_cons (ev_get rfl) (ea_cons (d := lS ((housesF T).filter fun y => !decide (y = p.1.h))) ?_ ea_nil)) ⟨_, _, rfl, V.fne _ ht, rfl⟩))
      apply ev_is
      case h => repeat' (first | decide | apply ev_and | apply ev_or | apply et_and | apply et_or | (with_reducible intro x hx) | (with_reducible intro hp) | exact ev_get rfl | exact ev_bl | exact ev_non | exact ev_int (by decide) | exact ev_str (by decide) | exact ea_nil | apply ea_cons | apply ev_op | apply ev_cb | apply ev_call | apply ev_tup | apply ev_lst | apply et_test | apply et_B | exact et_yes | apply et_not | apply ev_lc | apply src_tup | apply src_list | exact gt_name | apply gt_tup | apply gts_cons | exact gts_nil | exact in_tS _ _ | exact in_lS _ _ | exact nin_tS _ _ | exact in_tSS _ _ | exact eq_tN _ _ | exact ne_tN _ _ | exact eq_tS _ _ | exact ne_tS _ _ | exact eq_int _ _ | exact lt_tN _ _ | exact le_tN _ _ | exact lt_tS _ _ | exact all_map _ _ | exact any_map _ _ | exact tup_lst _ | exact len_lst _ | exact len_tup _ | exact ix_h | exact ix_l | exact ix_f | exact ix_p0 | exact ix_p1 | exact isn_none | exact le_int _ _ | exact gt_int _ _ | apply src_zipT | apply ev_slFromT | exact ev_n1 | exact ev_n3 | exact ev_n4 | apply ev_isiStr | apply ev_isiTup | apply src_str | decide | exact rfl)
      rfl
    rw [V.fears_ok ht]
    rfl
def R_is_trust (ds : List D) (d : D) : Prop := ∃ (T : Tru), ds = [tT T] ∧ VT T ∧ d = .bool true
theorem ok_is_trust (T : Tx K mg) (C_trust_fault : Ok P w K mg base 5 "trust_fault" ["thing"] [] (spR R_trust_fault)) : Ok P w K mg base 6 "is_trust" ["thing"] [] (spR R_is_trust) := by
  refine ok_pure T d_is_trust 9 9 rfl rfl rfl rfl rfl sc_is_trust (fun _ _ _ _ _ _ us hl => match us, hl with | [_], _ => rfl) ?_ ?_
  · rintro ds d ⟨T, rfl, V, rfl⟩; rfl
  intro cdv A outer s H E hr
  have nd := sc_is_trust.nd
  refine ⟨_, (pss_one (ps_ret (pe_cmpR op_isN' (pe_go C_trust_fault hr (by decide) rfl (pa_cons (pv 0) pa_nil)) pe_non (nomark _)))), ?_⟩
  rintro ds d ⟨T, rfl, V, rfl⟩
  refine bl_ret ?_
  apply ev_is
  case h => repeat' (first | exact ⟨_, rfl, V, rfl⟩ | decide | apply ev_and | apply ev_or | apply et_and | apply et_or | (with_reducible intro x hx) | (with_reducible intro hp) | exact ev_get rfl | exact ev_bl | exact ev_non | exact ev_int (by decide) | exact ev_str (by decide) | exact ea_nil | apply ea_cons | apply ev_op | apply ev_cb | apply ev_call | apply ev_tup | apply ev_lst | apply et_test | apply et_B | exact et_yes | apply et_not | apply ev_lc0 | apply ev_lc | apply src_tup | apply src_list | exact gt_name | apply gt_tup | apply gts_cons | exact gts_nil | exact in_tS _ _ | exact in_lS _ _ | exact nin_tS _ _ | exact in_tSS _ _ | exact eq_tN _ _ | exact ne_tN _ _ | exact eq_tS _ _ | exact ne_tS _ _ | exact eq_int _ _ | exact lt_tN _ _ | exact le_tN _ _ | exact lt_tS _ _ | exact all_map _ _ | exact any_map _ _ | exact tup_lst _ | exact len_lst _ | exact len_tup _ | exact ix_h | exact ix_l | exact ix_f | exact ix_p0 | exact ix_p1 | exact isn_none | exact le_int _ _ | exact gt_int _ _ | apply src_zipT | apply ev_slFromT | exact ev_n1 | exact ev_n3 | exact ev_n4 | apply ev_isiStr | apply ev_isiTup | apply src_str | decide | exact rfl)
  rfl
def R_want (ds : List D) (d : D) : Prop := ∃ (nm : Str), ds = [.bool true, .str nm, .int (-1)] ∧ d = .none
theorem ok_want (T : Tx K mg) : Ok P w K mg base 1 "want" ["is_fit", "name", "at"] [.int (-1)] (spR R_want) := by
  refine ok_dfl T d_want 27 27 2 rfl rfl rfl rfl (by simp) rfl sc_want rfl (fun _ _ _ _ _ _ _ us its hl hi => match us, hl, its, hi with | [_, _], _, [_], _ => ⟨_, rfl, rfl⟩) (fun vs H Q E h => spR_len ?_ h) ?_
  · rintro ds d ⟨nm, rfl, rfl⟩; rfl
  intro cdv A outer s H vs Q E hr hs
  have nd := sc_want.nd
  refine ⟨_, (pss_one (ps_if (pt_not (pt_val (pv 0))) (pss_one ps_never) pss_nil)), run_sm ?_ hs⟩
  rintro ds d ⟨nm, rfl, rfl⟩
  refine ⟨rfl, _, sm_if (b := false) ?_ (fun h => absurd h (by decide)) (fun _ => sm_next)⟩
  apply et_is
  case h => repeat' (first | decide | apply ev_and | apply ev_or | apply et_and | apply et_or | (with_reducible intro x hx) | (with_reducible intro hp) | exact ev_get rfl | exact ev_bl | exact ev_non | exact ev_int (by decide) | exact ev_str (by decide) | exact ea_nil | apply ea_cons | apply ev_op | apply ev_cb | apply ev_call | apply ev_tup | apply ev_lst | apply et_test | apply et_B | exact et_yes | apply et_not | apply ev_lc0 | apply ev_lc | apply src_tup | apply src_list | exact gt_name | apply gt_tup | apply gts_cons | exact gts_nil | exact in_tS _ _ | exact in_lS _ _ | exact nin_tS _ _ | exact in_tSS _ _ | exact eq_tN _ _ | exact ne_tN _ _ | exact eq_tS _ _ | exact ne_tS _ _ | exact eq_int _ _ | exact lt_tN _ _ | exact le_tN _ _ | exact lt_tS _ _ | exact all_map _ _ | exact any_map _ _ | exact tup_lst _ | exact len_lst _ | exact len_tup _ | exact ix_h | exact ix_l | exact ix_f | exact ix_p0 | exact ix_p1 | exact isn_none | exact le_int _ _ | exact gt_int _ _ | apply src_zipT | apply ev_slFromT | exact ev_n1 | exact ev_n3 | exact ev_n4 | apply ev_isiStr | apply ev_isiTup | apply src_str | decide | exact rfl)
  rfl
def R_want_trust (ds : List D) (d : D) : Prop := ∃ (T : Tru) (nm : Str), ds = [tT T, .str nm] ∧ VT T ∧ d = .none
theorem ok_want_trust (T : Tx K mg) (C_is_trust : Ok P w K mg base 6 "is_trust" ["thing"] [] (spR R_is_trust)) (C_want : Ok P w K mg base 1 "want" ["is_fit", "name", "at"] [.int (-1)] (spR R_want)) : Ok P w K mg base 7 "want_trust" ["trust", "name"] [.str "trust"] (spR R_want_trust) := by
  refine ok_dfl T d_want_trust 28 28 1 rfl rfl rfl rfl (by simp) rfl sc_want_trust rfl (fun _ _ _ _ _ _ _ us its hl hi => match us, hl, its, hi with | [_], _, [_], _ => ⟨_, rfl, rfl⟩) (fun vs H Q E h => spR_len ?_ h) ?_
  · rintro ds d ⟨T, nm, rfl, V, rfl⟩; rfl
  intro cdv A outer s H vs Q E hr hs
  have nd := sc_want_trust.nd
  refine ⟨_, (pss_one (ps_expr (pe_go C_want hr (by decide) rfl (pa_cons (pe_go C_is_trust hr (by decide) rfl (pa_cons (pv 0) pa_nil)) (pa_cons (pv 1) pa_nil))))), run_sm ?_ hs⟩
  rintro ds d ⟨T, nm, rfl, V, rfl⟩
  refine ⟨rfl, _, sm_drop (ev_callD (ea_cons (d := .bool true) ?_ (ea_cons (ev_get rfl) ea_nil)) dfl_m1 ⟨nm, rfl, rfl⟩)⟩
  repeat' (first | exact ⟨_, rfl, V, rfl⟩ | decide | apply ev_and | apply ev_or | apply et_and | apply et_or | (with_reducible intro x hx) | (with_reducible intro hp) | exact ev_get rfl | exact ev_bl | exact ev_non | exact ev_int (by decide) | exact ev_str (by decide) | exact ea_nil | apply ea_cons | apply ev_op | apply ev_cb | apply ev_call | apply ev_tup | apply ev_lst | apply et_test | apply et_B | exact et_yes | apply et_not | apply ev_lc0 | apply ev_lc | apply src_tup | apply src_list | exact gt_name | apply gt_tup | apply gts_cons | exact gts_nil | exact in_tS _ _ | exact in_lS _ _ | exact nin_tS _ _ | exact in_tSS _ _ | exact eq_tN _ _ | exact ne_tN _ _ | exact eq_tS _ _ | exact ne_tS _ _ | exact eq_int _ _ | exact lt_tN _ _ | exact le_tN _ _ | exact lt_tS _ _ | exact all_map _ _ | exact any_map _ _ | exact tup_lst _ | exact len_lst _ | exact len_tup _ | exact ix_h | exact ix_l | exact ix_f | exact ix_p0 | exact ix_p1 | exact isn_none | exact le_int _ _ | exact gt_int _ _ | apply src_zipT | apply ev_slFromT | exact ev_n1 | exact ev_n3 | exact ev_n4 | apply ev_isiStr | apply ev_isiTup | apply src_str | decide | exact rfl)
def R_want_house (ds : List D) (d : D) : Prop := ∃ (T : Tru) (a : Nm) (nm : Str), ds = [tT T, tN a, .str nm] ∧ a ∈ housesF T ∧ d = .none
theorem ok_want_house (T : Tx K mg) (C_is_house_of : Ok P w K mg base 2 "is_house_of" ["trust", "thing"] [] (spR R_is_house_of)) (C_want : Ok P w K mg base 1 "want" ["is_fit", "name", "at"] [.int (-1)] (spR R_want)) : Ok P w K mg base 3 "want_house" ["trust", "house", "name"] [.str "house"] (spR R_want_house) := by
  refine ok_dfl T d_want_house 29 29 2 rfl rfl rfl rfl (by simp) rfl sc_want_house rfl (fun _ _ _ _ _ _ _ us its hl hi => match us, hl, its, hi with | [_, _], _, [_], _ => ⟨_, rfl, rfl⟩) (fun vs H Q E h => spR_len ?_ h) ?_
  · rintro ds d ⟨T, a, nm, rfl, ha, rfl⟩; rfl
  intro cdv A outer s H vs Q E hr hs
  have nd := sc_want_house.nd
  refine ⟨_, (pss_one (ps_expr (pe_go C_want hr (by decide) rfl (pa_cons (pe_go C_is_house_of hr (by decide) rfl (pa_cons (pv 0) (pa_cons (pv 1) pa_nil))) (pa_cons (pv 2) pa_nil))))), run_sm ?_ hs⟩
  rintro ds d ⟨T, a, nm, rfl, ha, rfl⟩
  refine ⟨rfl, _, sm_drop (ev_callD (ea_cons (d := .bool true) ?_ (ea_cons (ev_get rfl) ea_nil)) dfl_m1 ⟨nm, rfl, rfl⟩)⟩
  apply ev_is
  case h => repeat' (first | exact ⟨_, _, rfl, rfl⟩ | decide | apply ev_and | apply ev_or | apply et_and | apply et_or | (with_reducible intro x hx) | (with_reducible intro hp) | exact ev_get rfl | exact ev_bl | exact ev_non | exact ev_int (by decide) | exact ev_str (by decide) | exact ea_nil | apply ea_cons | apply ev_op | apply ev_cb | apply ev_call | apply ev_tup | apply ev_lst | apply et_test | apply et_B | exact et_yes | apply et_not | apply ev_lc0 | apply ev_lc | apply src_tup | apply src_list | exact gt_name | apply gt_tup | apply gts_cons | exact gts_nil | exact in_tS _ _ | exact in_lS _ _ | exact nin_tS _ _ | exact in_tSS _ _ | exact eq_tN _ _ | exact ne_tN _ _ | exact eq_tS _ _ | exact ne_tS _ _ | exact eq_int _ _ | exact lt_tN _ _ | exact le_tN _ _ | exact lt_tS _ _ | exact all_map _ _ | exact any_map _ _ | exact tup_lst _ | exact len_lst _ | exact len_tup _ | exact ix_h | exact ix_l | exact ix_f | exact ix_p0 | exact ix_p1 | exact isn_none | exact le_int _ _ | exact gt_int _ _ | apply src_zipT | apply ev_slFromT | exact ev_n1 | exact ev_n3 | exact ev_n4 | apply ev_isiStr | apply ev_isiTup | apply src_str | decide | exact rfl)
  rw [decide_eq_true ha]
def R_want_lot (ds : List D) (d : D) : Prop := ∃ (T : Tru) (l : Sx) (nm : Str), ds = [tT T, tS l, .str nm] ∧ SetOf (housesF T) l ∧ d = .none
theorem ok_want_lot (T : Tx K mg) (C_are_houses_of : Ok P w K mg base 4 "are_houses_of" ["trust", "thing"] [] (spR R_are_houses_of)) (C_want : Ok P w K mg base 1 "want" ["is_fit", "name", "at"] [.int (-1)] (spR R_want)) : Ok P w K mg base 5 "want_lot" ["trust", "lot", "name"] [.str "lot"] (spR R_want_lot) := by
  refine ok_dfl T d_want_lot 30 30 2 rfl rfl rfl rfl (by simp) rfl sc_want_lot rfl (fun _ _ _ _ _ _ _ us its hl hi => match us, hl, its, hi with | [_, _], _, [_], _ => ⟨_, rfl, rfl⟩) (fun vs H Q E h => spR_len ?_ h) ?_
  · rintro ds d ⟨T, l, nm, rfl, hl, rfl⟩; rfl
  intro cdv A outer s H vs Q E hr hs
  have nd := sc_want_lot.nd
  refine ⟨_, (pss_one (ps_expr (pe_go C_want hr (by decide) rfl (pa_cons (pe_go C_are_houses_of hr (by decide) rfl (pa_cons (pv 0) (pa_cons (pv 1) pa_nil))) (pa_cons (pv 2) pa_nil))))), run_sm ?_ hs⟩
  rintro ds d ⟨T, l, nm, rfl, hl, rfl⟩
  refine ⟨rfl, _, sm_drop (ev_callD (ea_cons (d := .bool true) ?_ (ea_cons (ev_get rfl) ea_nil)) dfl_m1 ⟨nm, rfl, rfl⟩)⟩
  apply ev_is
  case h => repeat' (first | exact ⟨_, _, rfl, rfl⟩ | decide | apply ev_and | apply ev_or | apply et_and | apply et_or | (with_reducible intro x hx) | (with_reducible intro hp) | exact ev_get rfl | exact ev_bl | exact ev_non | exact ev_int (by decide) | exact ev_str (by decide) | exact ea_nil | apply ea_cons | apply ev_op | apply ev_cb | apply ev_call | apply ev_tup | apply ev_lst | apply et_test | apply et_B | exact et_yes | apply et_not | apply ev_lc0 | apply ev_lc | apply src_tup | apply src_list | exact gt_name | apply gt_tup | apply gts_cons | exact gts_nil | exact in_tS _ _ | exact in_lS _ _ | exact nin_tS _ _ | exact in_tSS _ _ | exact eq_tN _ _ | exact ne_tN _ _ | exact eq_tS _ _ | exact ne_tS _ _ | exact eq_int _ _ | exact lt_tN _ _ | exact le_tN _ _ | exact lt_tS _ _ | exact all_map _ _ | exact any_map _ _ | exact tup_lst _ | exact len_lst _ | exact len_tup _ | exact ix_h | exact ix_l | exact ix_f | exact ix_p0 | exact ix_p1 | exact isn_none | exact le_int _ _ | exact gt_int _ _ | apply src_zipT | apply ev_slFromT | exact ev_n1 | exact ev_n3 | exact ev_n4 | apply ev_isiStr | apply ev_isiTup | apply src_str | decide | exact rfl)
  rw [risB_true hl.ris, Bool.true_and, show (l.all fun x => decide (x ∈ housesF T)) = true from List.all_eq_true.mpr fun x hx => decide_eq_true (hl.sub x hx)]
end
end K16
/-! ## part Kw -/
set_option Elab.async false
set_option linter.all false
set_option maxRecDepth 100000
set_option maxHeartbeats 1000000
/-! calls by name alone, the names in the parameters' order turned round -/
namespace K16
open PySem PySem.Spec PyProof.Rows L2
open Evl (Ex)
def OkR (P : Program) (w : World) (K : PySem.W.Frag) (mg : Str → Option Value) (base : Heap) (k : Nat) (x : Str) (ps : List Str) (sp : Sp) : Prop :=
  ∃ fd : FuncData, FnOk P w K mg base CX0 k (He.ga K x) fd ps sp ∧ (∀ (s : Shared) (ws : List Value), ws.length = ps.length → BindsTo s fd ⟨[], ps.reverse.zip ws⟩ (ps.zip ws.reverse)) ∧ PySem.W.keepIn K (.ref (He.ga K x)) = true ∧ mg x = some (.ref (He.ga K x))
theorem vals_rev : ∀ {vs : List V} {us : List Value}, Vals vs us → Vals vs.reverse us.reverse
  | _, _, .nil => .nil
  | _, _, .cons h t => by
    rw [List.reverse_cons, List.reverse_cons]
    exact (vals_rev t).append (.cons h .nil)
theorem RqA.rev {G : Hp} : ∀ {vs : List V} {ds : List D}, RqA G vs ds → RqA G vs.reverse ds.reverse
  | [], [], _ => .nil
  | v :: vs, d :: ds, h => by
    obtain ⟨v', hv, rv⟩ := h.at_ (i := 0) (d := d) rfl
    injection hv with hv
    subst hv
    have t : RqA G vs ds := h.drop 1
    rw [List.reverse_cons, List.reverse_cons]
    exact (RqA.rev t).append (.cons rv .nil)
  | [], d :: ds, h => by have := h.rp.length; cases this
  | v :: vs, [], h => by have := h.rp.length; cases this
def tGoR (sp : Sp) (tk : TA) : TE := fun σ H Q => tk σ H fun zs H1 => sp zs.reverse H1 Q E0
section
variable {X : Cx} {k j : Nat} {x : Str} {ps : List Str} {sp : Sp} {p pos : Pos} {kws : List Keyword} {tk : TA}
theorem pe_goR (C : OkR X.prog X.w X.K X.mg X.base k x ps sp) (hr : Room j X.A) (hk : k ≤ j) (hg : Gl X x) (hkw : PK X kws tk)
    (hall : (backToKw pos (keywordEach kws X.env)).all (·.1.isSome) = true := by rfl) (hks : (backToKw pos (keywordEach kws X.env)).filterMap (·.1) = ps.reverse := by rfl)
    (hdb : (x == ("__debug__" : Str)) = false := by decide) (hpl : ((backTo pos (starEach [] X.env)).any (·.1) || (backToKw pos (keywordEach kws X.env)).any (·.1.isNone)) = false := by rfl) :
    PE X (.Call (.Name x p) [] kws pos) (tGoR sp tk) := by
  obtain ⟨fd, F, b, kp, g⟩ := C
  refine ⟨fun pins s σ H Q I h => ?_⟩
  refine wpAny_Call_Name_kw (ld_glob I hg g ?_ hdb)
  refine PySem.W.callWith_KW0 (h₀ := X.base) I.ok.mod.kin kp hall (thn (hkw.run pos pins s σ H _ I h) fun ws s2 ⟨zs, H2, I2, rz, q2⟩ => ⟨I2.kIn, ?_⟩) hpl
  rw [hks]
  have r2 := vals_rev rz
  have hl := F.len _ _ _ _ q2
  have hw : ws.length = ps.length := by rw [← rz.length, ← hl, List.length_reverse]
  refine wpAny_call (codeAny_mono (F.run X.A X.stack s2 H2 ⟨[], ps.reverse.zip ws⟩ ws.reverse zs.reverse Q E0 (hr.mono hk) I2.env0 (b s2 ws hw) r2 q2) fun r s' hq => ?_)
  cases r with
  | error e => exact False.elim hq
  | ok fl =>
    cases fl with
    | ret u => exact I2.after hq
    | next => exact False.elim hq
    | brk => exact False.elim hq
    | cont => exact False.elim hq
end
theorem ev_goR {R : List D → D → Prop} {tr : TA} {env : En} {ds : List D} {d : D} (h : EvA tr env ds) (hr : R ds.reverse d) : EvE (tGoR (spR R) tr) env d := fun σ G H r e Q q =>
  h σ G H r e _ fun vs G1 H1 s1 r1 => ⟨G1, _, d, hr, s1.in_, r1.rev, fun z G3 H3 s3 r3 => q z G3 H3 (s1.trans s3) r3⟩
section
variable {P : Program} {w : World} {K : PySem.W.Frag} {mg : Str → Option Value} {base : Heap}
theorem ok_pureR {x : Str} {N ps : List Str} {k : Nat} {R : List D → D → Prop} (T : Tx K mg) (d : He.DefD) (i j : Nat) (hd : fn[i]? = some d) (hat : d.at_ = (x, none)) (hg : fa[j]? = some (.glo x)) (h0 : d.dfl = []) (h1 : d.kwd = []) (S : FnScope N ps d.scope)
    (hb : ∀ (kV doc pm : Value) (an : Option Addr) (cdv ct : Value) (us : List Value), us.length = ps.length → bindArgs (PySem.W.fnOf d.name d.qual d.params d.body d.scope .none kV doc pm an cdv ct) ⟨us, []⟩ = pure (ps.zip us))
    (hR : ∀ (kV doc pm : Value) (an : Option Addr) (cdv ct : Value) (us : List Value), us.length = ps.length → bindArgs (PySem.W.fnOf d.name d.qual d.params d.body d.scope .none kV doc pm an cdv ct) ⟨[], ps.reverse.zip us⟩ = pure (ps.zip us.reverse))
    (len : ∀ ds d, R ds d → ds.length = ps.length)
    (body : ∀ (cdv : Value) (A : Around) (outer : List Env) (s : Shared) (H : Hp) (E : XK), Room k (A.deeper (envOfC d.qual d.scope s.heap.objs.size (He.ga K x) cdv)) →
      ∃ t, PSs (cxOf CX0 P w K mg base N d.qual d.scope (He.ga K x) cdv A outer s H E).nox d.body t ∧ ∀ ds d, R ds d → BlE t (start0 N ds) none d) : Ok P w K mg base (k + 1) x ps [] (spR R) ∧ OkR P w K mg base (k + 1) x ps (spR R) := by
  obtain ⟨fd, F⟩ := T.c.def_ i hd
  have e1 : d.dvs K = [] := by unfold He.DefD.dvs; rw [h0]; rfl
  have e2 : d.kws K = [] := by unfold He.DefD.kws; rw [h1]; rfl
  have e3 : He.fAd K d.at_ = He.ga K x := by rw [hat]; rfl
  rw [e1, e2, e3] at F
  have FO : FnOk P w K mg base CX0 (k + 1) (He.ga K x) fd ps (spR R) := F.ok S (fun vs H Q E h => spR_len len h) fun cdv A outer s H vs Q E hr hs => by
    obtain ⟨t, h1, h2⟩ := body cdv A outer s H E hr
    exact ⟨t, PSs.nox h1, run_bl h2 hs⟩
  refine ⟨⟨fd, [], FO, F.bindsN hb, .nil, F.kp, T.glo j hg⟩, ⟨fd, FO, ?_, F.kp, T.glo j hg⟩⟩
  obtain ⟨oc, od, dV, kV, doc, pm, an, cdv, ct, osl, rfl, lk, hcd, hD, hK⟩ := F.ex
  rcases hD with ⟨_, rfl⟩ | ⟨e, _⟩
  · exact fun s ws hl => .of_eq (hR kV doc pm an cdv ct ws hl)
  · exact absurd rfl e
end
end K16
/-! ## part P7 -/
set_option Elab.async false
set_option linter.all false
set_option maxRecDepth 100000
set_option maxHeartbeats 1000000
namespace K16
open PySem PySem.Spec PyProof.Rows L2
open Evl (Ex)
open StX (tStar pa_star)
section
variable {P : Program} {w : World} {K : PySem.W.Frag} {mg : Str → Option Value} {base : Heap}
def minL : List Sx → Nat
  | [] => 0
  | [x] => x.length
  | x :: y :: l => min x.length (minL (y :: l))
theorem minL_le : ∀ {l : List Sx} {x : Sx}, x ∈ l → minL l ≤ x.length
  | [y], x, h => by
    rw [List.mem_singleton.mp h, minL]
    exact Nat.le_refl _
  | y :: z :: l, x, h => by
    rw [minL]
    rcases List.mem_cons.mp h with e | h
    · rw [e]; exact Nat.min_le_left _ _
    · exact Nat.le_trans (Nat.min_le_right _ _) (minL_le h)
theorem minL_mem : ∀ {l : List Sx}, l ≠ [] → ∃ x ∈ l, x.length = minL l
  | [], h => absurd rfl h
  | [y], _ => ⟨y, List.mem_cons_self, rfl⟩
  | y :: z :: l, _ => by
    obtain ⟨x, hx, e⟩ := minL_mem (l := z :: l) (by simp)
    rw [minL]
    rcases Nat.le_total y.length (minL (z :: l)) with c | c
    · exact ⟨y, List.mem_cons_self, (Nat.min_eq_left c).symm⟩
    · exact ⟨x, List.mem_cons_of_mem _ hx, by rw [Nat.min_eq_right c]; exact e⟩
/-- one of the fewest -/
def fewF (ls : List Sx) : Option Sx := (ls.filter fun l => decide (l.length = minL ls))[0]?
theorem fewF_some {ls : List Sx} (h : ls ≠ []) : ∃ l, fewF ls = some l ∧ l ∈ ls ∧ l.length = minL ls := by
  obtain ⟨x, hx, e⟩ := minL_mem h
  have hm : x ∈ ls.filter fun l => decide (l.length = minL ls) := List.mem_filter.mpr ⟨hx, decide_eq_true e⟩
  unfold fewF
  cases q : ls.filter (fun l => decide (l.length = minL ls)) with
  | nil => rw [q] at hm; cases hm
  | cons u r =>
    have hu : u ∈ ls.filter fun l => decide (l.length = minL ls) := by rw [q]; exact List.mem_cons_self
    obtain ⟨h1, h2⟩ := List.mem_filter.mp hu
    exact ⟨u, rfl, h1, of_decide_eq_true h2⟩
theorem min_lens {ls : List Sx} (h : ls ≠ []) (h5 : ∀ l ∈ ls, l.length ≤ 5) : RMin [.list (ls.map fun l => .int (((l.map tN).length : Nat) : Int))] (.int (minL ls : Int)) := by
  obtain ⟨x, hx, e⟩ := minL_mem h
  refine ⟨ls.map fun l => ((l.length : Nat) : Int), (minL ls : Int), ?_, ?_, ?_, ?_, rfl⟩
  · rw [List.map_map]
    simp
  · exact List.mem_map.mpr ⟨x, hx, by rw [e]⟩
  · intro y hy
    obtain ⟨l, hl, rfl⟩ := List.mem_map.mp hy
    have := minL_le hl
    omega
  · have := h5 x hx
    omega
theorem VT.needsOk {T : Tru} (V : VT T) (a : Nm) : Needs (housesF T) (needsF T a) := ⟨V.ris, V.hlen, V.needs⟩
theorem optD (o : Option Sx) : (match o with | some x => tS x | none => (.none : D)) = (match o with | some x => tS x | none => (.none : D)) := rfl
def optS (o : Option Sx) : D := match o with | some x => tS x | none => .none
def R_needs_of (ds : List D) (d : D) : Prop := ∃ (T : Tru) (a : Nm), ds = [tT T, tN a] ∧ VT T ∧ a ∈ housesF T ∧ d = tSS (needsF T a)
theorem ok_needs_of (T : Tx K mg) (C_needs_by : Ok P w K mg base 4 "needs_by" ["trust", "house"] [] (spR R_needs_by)) (C_want_house : Ok P w K mg base 3 "want_house" ["trust", "house", "name"] [.str "house"] (spR R_want_house)) (C_want_trust : Ok P w K mg base 7 "want_trust" ["trust", "name"] [.str "trust"] (spR R_want_trust)) : Ok P w K mg base 8 "needs_of" ["trust", "house"] [] (spR R_needs_of) ∧ OkR P w K mg base 8 "needs_of" ["trust", "house"] (spR R_needs_of) := by
  refine ok_pureR T d_needs_of 31 31 rfl rfl rfl rfl rfl sc_needs_of (fun _ _ _ _ _ _ us hl => match us, hl with | [_, _], _ => rfl) (fun _ _ _ _ _ _ us hl => match us, hl with | [_, _], _ => rfl) ?_ ?_
  · rintro ds d ⟨T, a, rfl, V, ha, rfl⟩; rfl
  intro cdv A outer s H E hr
  have nd := sc_needs_of.nd
  refine ⟨_, (pss_cons (ps_expr (pe_go C_want_trust hr (by decide) rfl (pa_cons (pv 0) pa_nil))) (pss_cons (ps_expr (pe_go C_want_house hr (by decide) rfl (pa_cons (pv 0) (pa_cons (pv 1) pa_nil)))) (pss_one (ps_ret (pe_go C_needs_by hr (by decide) rfl (pa_cons (pv 0) (pa_cons (pv 1) pa_nil))))))), ?_⟩
  rintro ds d ⟨T, a, rfl, V, ha, rfl⟩
  refine bl_seq (sm_drop (ev_callD (ea_cons (ev_get rfl) ea_nil) (dfl_str (by decide)) ⟨T, _, rfl, V, rfl⟩)) (bl_seq (sm_drop (ev_callD (ea_cons (ev_get rfl) (ea_cons (ev_get rfl) ea_nil)) (dfl_str (by decide)) ⟨T, a, _, rfl, ha, rfl⟩)) ?_)
  refine bl_ret ?_
  apply ev_is
  case h => repeat' (first | exact ⟨_, _, rfl, V, ha, rfl⟩ | decide | apply ev_and | apply ev_or | apply et_and | apply et_or | (with_reducible intro x hx) | (with_reducible intro hp) | exact ev_get rfl | exact ev_bl | exact ev_non | exact ev_int (by decide) | exact ev_str (by decide) | exact ea_nil | apply ea_cons | apply ev_op | apply ev_cb | apply ev_call | apply ev_tup | apply ev_lst | apply et_test | apply et_B | exact et_yes | apply et_not | apply ev_lc0 | apply ev_lc | apply src_tup | apply src_list | exact gt_name | apply gt_tup | apply gts_cons | exact gts_nil | exact in_tS _ _ | exact in_lS _ _ | exact nin_tS _ _ | exact in_tSS _ _ | exact eq_tN _ _ | exact ne_tN _ _ | exact eq_tS _ _ | exact ne_tS _ _ | exact eq_int _ _ | exact lt_tN _ _ | exact le_tN _ _ | exact lt_tS _ _ | exact all_map _ _ | exact any_map _ _ | exact tup_lst _ | exact len_lst _ | exact len_tup _ | exact ix_h | exact ix_l | exact ix_f | exact ix_p0 | exact ix_p1 | exact isn_none | exact le_int _ _ | exact gt_int _ _ | apply src_zipT | apply ev_slFromT | exact ev_n1 | exact ev_n3 | exact ev_n4 | apply ev_isiStr | apply ev_isiTup | apply src_str | decide | exact rfl)
  rfl
def R_meets_needs (ds : List D) (d : D) : Prop := ∃ (T : Tru) (a : Nm) (l : Sx), ds = [tT T, tN a, tS l] ∧ VT T ∧ a ∈ housesF T ∧ SetOf (housesF T) l ∧ d = .bool (missF (needsF T a) l).isNone
theorem ok_meets_needs (T : Tx K mg) (C_needs_by : Ok P w K mg base 4 "needs_by" ["trust", "house"] [] (spR R_needs_by)) (C_is_met : Ok P w K mg base 3 "is_met" ["needs", "lot"] [] (spR R_is_met)) (C_want_lot : Ok P w K mg base 5 "want_lot" ["trust", "lot", "name"] [.str "lot"] (spR R_want_lot)) (C_want_house : Ok P w K mg base 3 "want_house" ["trust", "house", "name"] [.str "house"] (spR R_want_house)) (C_want_trust : Ok P w K mg base 7 "want_trust" ["trust", "name"] [.str "trust"] (spR R_want_trust)) : Ok P w K mg base 8 "meets_needs" ["trust", "house", "lot"] [] (spR R_meets_needs) ∧ OkR P w K mg base 8 "meets_needs" ["trust", "house", "lot"] (spR R_meets_needs) := by
  refine ok_pureR T d_meets_needs 32 32 rfl rfl rfl rfl rfl sc_meets_needs (fun _ _ _ _ _ _ us hl => match us, hl with | [_, _, _], _ => rfl) (fun _ _ _ _ _ _ us hl => match us, hl with | [_, _, _], _ => rfl) ?_ ?_
  · rintro ds d ⟨T, a, l, rfl, V, ha, hl, rfl⟩; rfl
  intro cdv A outer s H E hr
  have nd := sc_meets_needs.nd
  refine ⟨_, (pss_cons (ps_expr (pe_go C_want_trust hr (by decide) rfl (pa_cons (pv 0) pa_nil))) (pss_cons (ps_expr (pe_go C_want_house hr (by decide) rfl (pa_cons (pv 0) (pa_cons (pv 1) pa_nil)))) (pss_cons (ps_expr (pe_go C_want_lot hr (by decide) rfl (pa_cons (pv 0) (pa_cons (pv 2) pa_nil)))) (pss_one (ps_ret (pe_go C_is_met hr (by decide) rfl (pa_cons (pe_go C_needs_by hr (by decide) rfl (pa_cons (pv 0) (pa_cons (pv 1) pa_nil))) (pa_cons (pv 2) pa_nil)))))))), ?_⟩
  rintro ds d ⟨T, a, l, rfl, V, ha, hl, rfl⟩
  refine bl_seq (sm_drop (ev_callD (ea_cons (ev_get rfl) ea_nil) (dfl_str (by decide)) ⟨T, _, rfl, V, rfl⟩)) (bl_seq (sm_drop (ev_callD (ea_cons (ev_get rfl) (ea_cons (ev_get rfl) ea_nil)) (dfl_str (by decide)) ⟨T, a, _, rfl, ha, rfl⟩)) (bl_seq (sm_drop (ev_callD (ea_cons (ev_get rfl) (ea_cons (ev_get rfl) ea_nil)) (dfl_str (by decide)) ⟨T, l, _, rfl, hl, rfl⟩)) ?_))
  refine bl_ret ?_
  apply ev_is
  case h => repeat' (first | exact ⟨_, _, rfl, V, ha, rfl⟩ | exact ⟨_, _, rfl, rfl⟩ | decide | apply ev_and | apply ev_or | apply et_and | apply et_or | (with_reducible intro x hx) | (with_reducible intro hp) | exact ev_get rfl | exact ev_bl | exact ev_non | exact ev_int (by decide) | exact ev_str (by decide) | exact ea_nil | apply ea_cons | apply ev_op | apply ev_cb | apply ev_call | apply ev_tup | apply ev_lst | apply et_test | apply et_B | exact et_yes | apply et_not | apply ev_lc0 | apply ev_lc | apply src_tup | apply src_list | exact gt_name | apply gt_tup | apply gts_cons | exact gts_nil | exact in_tS _ _ | exact in_lS _ _ | exact nin_tS _ _ | exact in_tSS _ _ | exact eq_tN _ _ | exact ne_tN _ _ | exact eq_tS _ _ | exact ne_tS _ _ | exact eq_int _ _ | exact lt_tN _ _ | exact le_tN _ _ | exact lt_tS _ _ | exact all_map _ _ | exact any_map _ _ | exact tup_lst _ | exact len_lst _ | exact len_tup _ | exact ix_h | exact ix_l | exact ix_f | exact ix_p0 | exact ix_p1 | exact isn_none | exact le_int _ _ | exact gt_int _ _ | apply src_zipT | apply ev_slFromT | exact ev_n1 | exact ev_n3 | exact ev_n4 | apply ev_isiStr | apply ev_isiTup | apply src_str | decide | exact rfl)
  rfl
def R_first_missed (ds : List D) (d : D) : Prop := ∃ (T : Tru) (a : Nm) (l : Sx), ds = [tT T, tN a, tS l] ∧ VT T ∧ a ∈ housesF T ∧ SetOf (housesF T) l ∧ d = optS (missF (needsF T a) l)
theorem ok_first_missed (T : Tx K mg) (C_needs_by : Ok P w K mg base 4 "needs_by" ["trust", "house"] [] (spR R_needs_by)) (C_first_missed_by : Ok P w K mg base 2 "first_missed_by" ["needs", "lot"] [] (spR R_first_missed_by)) (C_want_lot : Ok P w K mg base 5 "want_lot" ["trust", "lot", "name"] [.str "lot"] (spR R_want_lot)) (C_want_house : Ok P w K mg base 3 "want_house" ["trust", "house", "name"] [.str "house"] (spR R_want_house)) (C_want_trust : Ok P w K mg base 7 "want_trust" ["trust", "name"] [.str "trust"] (spR R_want_trust)) : Ok P w K mg base 8 "first_missed" ["trust", "house", "lot"] [] (spR R_first_missed) ∧ OkR P w K mg base 8 "first_missed" ["trust", "house", "lot"] (spR R_first_missed) := by
  refine ok_pureR T d_first_missed 33 33 rfl rfl rfl rfl rfl sc_first_missed (fun _ _ _ _ _ _ us hl => match us, hl with | [_, _, _], _ => rfl) (fun _ _ _ _ _ _ us hl => match us, hl with | [_, _, _], _ => rfl) ?_ ?_
  · rintro ds d ⟨T, a, l, rfl, V, ha, hl, rfl⟩; rfl
  intro cdv A outer s H E hr
  have nd := sc_first_missed.nd
  refine ⟨_, (pss_cons (ps_expr (pe_go C_want_trust hr (by decide) rfl (pa_cons (pv 0) pa_nil))) (pss_cons (ps_expr (pe_go C_want_house hr (by decide) rfl (pa_cons (pv 0) (pa_cons (pv 1) pa_nil)))) (pss_cons (ps_expr (pe_go C_want_lot hr (by decide) rfl (pa_cons (pv 0) (pa_cons (pv 2) pa_nil)))) (pss_one (ps_ret (pe_go C_first_missed_by hr (by decide) rfl (pa_cons (pe_go C_needs_by hr (by decide) rfl (pa_cons (pv 0) (pa_cons (pv 1) pa_nil))) (pa_cons (pv 2) pa_nil)))))))), ?_⟩
  rintro ds d ⟨T, a, l, rfl, V, ha, hl, rfl⟩
  refine bl_seq (sm_drop (ev_callD (ea_cons (ev_get rfl) ea_nil) (dfl_str (by decide)) ⟨T, _, rfl, V, rfl⟩)) (bl_seq (sm_drop (ev_callD (ea_cons (ev_get rfl) (ea_cons (ev_get rfl) ea_nil)) (dfl_str (by decide)) ⟨T, a, _, rfl, ha, rfl⟩)) (bl_seq (sm_drop (ev_callD (ea_cons (ev_get rfl) (ea_cons (ev_get rfl) ea_nil)) (dfl_str (by decide)) ⟨T, l, _, rfl, hl, rfl⟩)) ?_))
  refine bl_ret ?_
  apply ev_is
  case h => repeat' (first | exact ⟨_, _, rfl, V, ha, rfl⟩ | exact ⟨_, _, rfl, rfl⟩ | decide | apply ev_and | apply ev_or | apply et_and | apply et_or | (with_reducible intro x hx) | (with_reducible intro hp) | exact ev_get rfl | exact ev_bl | exact ev_non | exact ev_int (by decide) | exact ev_str (by decide) | exact ea_nil | apply ea_cons | apply ev_op | apply ev_cb | apply ev_call | apply ev_tup | apply ev_lst | apply et_test | apply et_B | exact et_yes | apply et_not | apply ev_lc0 | apply ev_lc | apply src_tup | apply src_list | exact gt_name | apply gt_tup | apply gts_cons | exact gts_nil | exact in_tS _ _ | exact in_lS _ _ | exact nin_tS _ _ | exact in_tSS _ _ | exact eq_tN _ _ | exact ne_tN _ _ | exact eq_tS _ _ | exact ne_tS _ _ | exact eq_int _ _ | exact lt_tN _ _ | exact le_tN _ _ | exact lt_tS _ _ | exact all_map _ _ | exact any_map _ _ | exact tup_lst _ | exact len_lst _ | exact len_tup _ | exact ix_h | exact ix_l | exact ix_f | exact ix_p0 | exact ix_p1 | exact isn_none | exact le_int _ _ | exact gt_int _ _ | apply src_zipT | apply ev_slFromT | exact ev_n1 | exact ev_n3 | exact ev_n4 | apply ev_isiStr | apply ev_isiTup | apply src_str | decide | exact rfl)
  unfold optS
  cases missF (needsF T a) l <;> rfl
def R_least_lots (ds : List D) (d : D) : Prop := ∃ (T : Tru) (a : Nm), ds = [tT T, tN a] ∧ VT T ∧ a ∈ housesF T ∧ d = tSS (crossF (needsF T a))
theorem ok_least_lots (T : Tx K mg) (C_needs_by : Ok P w K mg base 4 "needs_by" ["trust", "house"] [] (spR R_needs_by)) (C_crossings_by : Ok P w K mg base 3 "crossings_by" ["needs"] [] (spR R_crossings_by)) (C_want_house : Ok P w K mg base 3 "want_house" ["trust", "house", "name"] [.str "house"] (spR R_want_house)) (C_want_trust : Ok P w K mg base 7 "want_trust" ["trust", "name"] [.str "trust"] (spR R_want_trust)) : Ok P w K mg base 8 "least_lots" ["trust", "house"] [] (spR R_least_lots) ∧ OkR P w K mg base 8 "least_lots" ["trust", "house"] (spR R_least_lots) := by
  refine ok_pureR T d_least_lots 34 34 rfl rfl rfl rfl rfl sc_least_lots (fun _ _ _ _ _ _ us hl => match us, hl with | [_, _], _ => rfl) (fun _ _ _ _ _ _ us hl => match us, hl with | [_, _], _ => rfl) ?_ ?_
  · rintro ds d ⟨T, a, rfl, V, ha, rfl⟩; rfl
  intro cdv A outer s H E hr
  have nd := sc_least_lots.nd
  refine ⟨_, (pss_cons (ps_expr (pe_go C_want_trust hr (by decide) rfl (pa_cons (pv 0) pa_nil))) (pss_cons (ps_expr (pe_go C_want_house hr (by decide) rfl (pa_cons (pv 0) (pa_cons (pv 1) pa_nil)))) (pss_one (ps_ret (pe_go C_crossings_by hr (by decide) rfl (pa_cons (pe_go C_needs_by hr (by decide) rfl (pa_cons (pv 0) (pa_cons (pv 1) pa_nil))) pa_nil)))))), ?_⟩
  rintro ds d ⟨T, a, rfl, V, ha, rfl⟩
  refine bl_seq (sm_drop (ev_callD (ea_cons (ev_get rfl) ea_nil) (dfl_str (by decide)) ⟨T, _, rfl, V, rfl⟩)) (bl_seq (sm_drop (ev_callD (ea_cons (ev_get rfl) (ea_cons (ev_get rfl) ea_nil)) (dfl_str (by decide)) ⟨T, a, _, rfl, ha, rfl⟩)) ?_)
  refine bl_ret ?_
  apply ev_is
  case h => repeat' (first | exact ⟨_, _, rfl, V, ha, rfl⟩ | exact ⟨_, _, rfl, V.needsOk _, rfl⟩ | decide | apply ev_and | apply ev_or | apply et_and | apply et_or | (with_reducible intro x hx) | (with_reducible intro hp) | exact ev_get rfl | exact ev_bl | exact ev_non | exact ev_int (by decide) | exact ev_str (by decide) | exact ea_nil | apply ea_cons | apply ev_op | apply ev_cb | apply ev_call | apply ev_tup | apply ev_lst | apply et_test | apply et_B | exact et_yes | apply et_not | apply ev_lc0 | apply ev_lc | apply src_tup | apply src_list | exact gt_name | apply gt_tup | apply gts_cons | exact gts_nil | exact in_tS _ _ | exact in_lS _ _ | exact nin_tS _ _ | exact in_tSS _ _ | exact eq_tN _ _ | exact ne_tN _ _ | exact eq_tS _ _ | exact ne_tS _ _ | exact eq_int _ _ | exact lt_tN _ _ | exact le_tN _ _ | exact lt_tS _ _ | exact all_map _ _ | exact any_map _ _ | exact tup_lst _ | exact len_lst _ | exact len_tup _ | exact ix_h | exact ix_l | exact ix_f | exact ix_p0 | exact ix_p1 | exact isn_none | exact le_int _ _ | exact gt_int _ _ | apply src_zipT | apply ev_slFromT | exact ev_n1 | exact ev_n3 | exact ev_n4 | apply ev_isiStr | apply ev_isiTup | apply src_str | decide | exact rfl)
  rfl
def R_fewest_lot (ds : List D) (d : D) : Prop := ∃ (T : Tru) (a : Nm), ds = [tT T, tN a] ∧ VT T ∧ a ∈ housesF T ∧ d = optS (fewF (crossF (needsF T a)))
theorem ok_fewest_lot (T : Tx K mg) (C_needs_by : Ok P w K mg base 4 "needs_by" ["trust", "house"] [] (spR R_needs_by)) (C_crossings_by : Ok P w K mg base 3 "crossings_by" ["needs"] [] (spR R_crossings_by)) (C_want_house : Ok P w K mg base 3 "want_house" ["trust", "house", "name"] [.str "house"] (spR R_want_house)) (C_want_trust : Ok P w K mg base 7 "want_trust" ["trust", "name"] [.str "trust"] (spR R_want_trust)) : Ok P w K mg base 8 "fewest_lot" ["trust", "house"] [] (spR R_fewest_lot) ∧ OkR P w K mg base 8 "fewest_lot" ["trust", "house"] (spR R_fewest_lot) := by
  refine ok_pureR T d_fewest_lot 35 35 rfl rfl rfl rfl rfl sc_fewest_lot (fun _ _ _ _ _ _ us hl => match us, hl with | [_, _], _ => rfl) (fun _ _ _ _ _ _ us hl => match us, hl with | [_, _], _ => rfl) ?_ ?_
  · rintro ds d ⟨T, a, rfl, V, ha, rfl⟩; rfl
  intro cdv A outer s H E hr
  have nd := sc_fewest_lot.nd
  refine ⟨_, (pss_cons (ps_expr (pe_go C_want_trust hr (by decide) rfl (pa_cons (pv 0) pa_nil))) (pss_cons (ps_expr (pe_go C_want_house hr (by decide) rfl (pa_cons (pv 0) (pa_cons (pv 1) pa_nil)))) (pss_cons (ps_set (i := 2) nd rfl (by first | exact Or.inl rfl | exact Or.inr rfl) (pe_go C_crossings_by hr (by decide) rfl (pa_cons (pe_go C_needs_by hr (by decide) rfl (pa_cons (pv 0) (pa_cons (pv 1) pa_nil))) pa_nil))) (pss_cons (ps_if (pt_cmpR (op_eq' (hu64 hr)) (pe_callB call_len' rfl (T.free 62) boot_len (pa_cons (pv 2) pa_nil)) pe_int (nomark _)) (pss_one (ps_ret pe_non)) pss_nil) (pss_cons (ps_set (i := 3) nd rfl (by first | exact Or.inl rfl | exact Or.inr rfl) (pe_callB (call_min' rfl) rfl (T.free 72) boot_min (pa_cons (pe_lc (own := [("lot", 4)]) (g := (gName 4)) (wi := (iTup K (tVar 2))) (tt := tYes) (te := (tCB (rD RLen) (tCons (tVar 4) tNil))) rfl nd (pi_tup (pv 2)) (blkOk_by (N := N_fewest_lot) (sc := defScope s_fewest_lot) (by decide +kernel)) (fun _ _ _ _ _ => (pg_name (i := 4) nd rfl (by first | exact Or.inl rfl | exact Or.inr rfl))) (fun _ _ _ _ _ => pts_nil) (fun _ _ _ _ _ => (pe_callB call_len' rfl (T.free 62) boot_len (pa_cons (pv 4) pa_nil)))) pa_nil))) (pss_one (ps_ret (pe_ix ix' (pe_lc (own := [("lot", 4)]) (g := (gName 4)) (wi := (iTup K (tVar 2))) (tt := (tTest (tOp (rD2 REq) (tCB (rD RLen) (tCons (tVar 4) tNil)) (tVar 3)))) (te := (tVar 4)) rfl nd (pi_tup (pv 2)) (blkOk_by (N := N_fewest_lot) (sc := defScope s_fewest_lot) (by decide +kernel)) (fun _ _ _ _ _ => (pg_name (i := 4) nd rfl (by first | exact Or.inl rfl | exact Or.inr rfl))) (fun _ _ _ _ _ => (pts_one (pt_cmpR (op_eq' (hu64 hr)) (pe_callB call_len' rfl (T.free 62) boot_len (pa_cons (pv 4) pa_nil)) (pv 3) (nomark _)))) (fun _ _ _ _ _ => (pv 4))) pe_int (fun _ _ => rfl))))))))), ?_⟩
  rintro ds d ⟨T, a, rfl, V, ha, rfl⟩
  refine bl_seq (sm_drop (ev_callD (ea_cons (ev_get rfl) ea_nil) (dfl_str (by decide)) ⟨T, _, rfl, V, rfl⟩)) (bl_seq (sm_drop (ev_callD (ea_cons (ev_get rfl) (ea_cons (ev_get rfl) ea_nil)) (dfl_str (by decide)) ⟨T, a, _, rfl, ha, rfl⟩)) ?_)
  refine bl_seq (sm_set (x := tSS (crossF (needsF T a))) ?_ trivial) ?_
  · repeat' (first | exact ⟨_, _, rfl, V, ha, rfl⟩ | exact ⟨_, _, rfl, V.needsOk _, rfl⟩ | decide | apply ev_and | apply ev_or | apply et_and | apply et_or | (with_reducible intro x hx) | (with_reducible intro hp) | exact ev_get rfl | exact ev_bl | exact ev_non | exact ev_int (by decide) | exact ev_str (by decide) | exact ea_nil | apply ea_cons | apply ev_op | apply ev_cb | apply ev_call | apply ev_tup | apply ev_lst | apply et_test | apply et_B | exact et_yes | apply et_not | apply ev_lc0 | apply ev_lc | apply src_tup | apply src_list | exact gt_name | apply gt_tup | apply gts_cons | exact gts_nil | exact in_tS _ _ | exact in_lS _ _ | exact nin_tS _ _ | exact in_tSS _ _ | exact eq_tN _ _ | exact ne_tN _ _ | exact eq_tS _ _ | exact ne_tS _ _ | exact eq_int _ _ | exact lt_tN _ _ | exact le_tN _ _ | exact lt_tS _ _ | exact all_map _ _ | exact any_map _ _ | exact tup_lst _ | exact len_lst _ | exact len_tup _ | exact ix_h | exact ix_l | exact ix_f | exact ix_p0 | exact ix_p1 | exact isn_none | exact le_int _ _ | exact gt_int _ _ | apply src_zipT | apply ev_slFromT | exact ev_n1 | exact ev_n3 | exact ev_n4 | apply ev_isiStr | apply ev_isiTup | apply src_str | decide | exact rfl)
  obtain ⟨c1, c2⟩ := (V.needsOk a).cross
  have c5 : ∀ l ∈ crossF (needsF T a), l.length ≤ 5 := fun l hl => Nat.le_trans (set_len V.ris (c1 l hl)) V.hlen
  generalize crossF (needsF T a) = ls at c1 c2 c5
  refine bl_if (w := tNext) (b := decide (ls = [])) ?_ (fun h => ?_) (fun h => ?_)
  · apply et_is
    case h => repeat' (first | decide | apply ev_and | apply ev_or | apply et_and | apply et_or | (with_reducible intro x hx) | (with_reducible intro hp) | exact ev_get rfl | exact ev_bl | exact ev_non | exact ev_int (by decide) | exact ev_str (by decide) | exact ea_nil | apply ea_cons | apply ev_op | apply ev_cb | apply ev_call | apply ev_tup | apply ev_lst | apply et_test | apply et_B | exact et_yes | apply et_not | apply ev_lc0 | apply ev_lc | apply src_tup | apply src_list | exact gt_name | apply gt_tup | apply gts_cons | exact gts_nil | exact in_tS _ _ | exact in_lS _ _ | exact nin_tS _ _ | exact in_tSS _ _ | exact eq_tN _ _ | exact ne_tN _ _ | exact eq_tS _ _ | exact ne_tS _ _ | exact eq_int _ _ | exact lt_tN _ _ | exact le_tN _ _ | exact lt_tS _ _ | exact all_map _ _ | exact any_map _ _ | exact tup_lst _ | exact len_lst _ | exact len_tup _ | exact ix_h | exact ix_l | exact ix_f | exact ix_p0 | exact ix_p1 | exact isn_none | exact le_int _ _ | exact gt_int _ _ | apply src_zipT | apply ev_slFromT | exact ev_n1 | exact ev_n3 | exact ev_n4 | apply ev_isiStr | apply ev_isiTup | apply src_str | decide | exact rfl)
    rw [List.length_map]
    refine decide_eq_decide.mpr ?_
    rw [← List.length_eq_zero_iff]
    omega
  · rw [of_decide_eq_true h]
    exact bl_ret ev_non
  · have hne := of_decide_eq_false h
    obtain ⟨l, e1, hl, e2⟩ := fewF_some hne
    refine bl_seq (sm_set (x := .int (minL ls : Int)) ?_ trivial) ?_
    · repeat' (first | exact min_lens hne c5 | decide | apply ev_and | apply ev_or | apply et_and | apply et_or | (with_reducible intro x hx) | (with_reducible intro hp) | exact ev_get rfl | exact ev_bl | exact ev_non | exact ev_int (by decide) | exact ev_str (by decide) | exact ea_nil | apply ea_cons | apply ev_op | apply ev_cb | apply ev_call | apply ev_tup | apply ev_lst | apply et_test | apply et_B | exact et_yes | apply et_not | apply ev_lc0 | apply ev_lc | apply src_tup | apply src_list | exact gt_name | apply gt_tup | apply gts_cons | exact gts_nil | exact in_tS _ _ | exact in_lS _ _ | exact nin_tS _ _ | exact in_tSS _ _ | exact eq_tN _ _ | exact ne_tN _ _ | exact eq_tS _ _ | exact ne_tS _ _ | exact eq_int _ _ | exact lt_tN _ _ | exact le_tN _ _ | exact lt_tS _ _ | exact all_map _ _ | exact any_map _ _ | exact tup_lst _ | exact len_lst _ | exact len_tup _ | exact ix_h | exact ix_l | exact ix_f | exact ix_p0 | exact ix_p1 | exact isn_none | exact le_int _ _ | exact gt_int _ _ | apply src_zipT | apply ev_slFromT | exact ev_n1 | exact ev_n3 | exact ev_n4 | apply ev_isiStr | apply ev_isiTup | apply src_str | decide | exact rfl)
    rw [e1]
    have e1' : (ls.filter fun x => decide (((x.map tN).length : Int) = (minL ls : Int)))[0]? = some l := by
      have : (fun x : Sx => decide (((x.map tN).length : Int) = (minL ls : Int))) = fun x => decide (x.length = minL ls) := by
        funext x
        rw [List.length_map]
        exact decide_eq_decide.mpr Int.ofNat_inj
      rw [this]
      exact e1
    refine bl_ret ?_
    apply ev_is
    case h => repeat' (first | exact ix_first e1' | decide | apply ev_and | apply ev_or | apply et_and | apply et_or | (with_reducible intro x hx) | (with_reducible intro hp) | exact ev_get rfl | exact ev_bl | exact ev_non | exact ev_int (by decide) | exact ev_str (by decide) | exact ea_nil | apply ea_cons | apply ev_op | apply ev_cb | apply ev_call | apply ev_tup | apply ev_lst | apply et_test | apply et_B | exact et_yes | apply et_not | apply ev_lc0 | apply ev_lc | apply src_tup | apply src_list | exact gt_name | apply gt_tup | apply gts_cons | exact gts_nil | exact in_tS _ _ | exact in_lS _ _ | exact nin_tS _ _ | exact in_tSS _ _ | exact eq_tN _ _ | exact ne_tN _ _ | exact eq_tS _ _ | exact ne_tS _ _ | exact eq_int _ _ | exact lt_tN _ _ | exact le_tN _ _ | exact lt_tS _ _ | exact all_map _ _ | exact any_map _ _ | exact tup_lst _ | exact len_lst _ | exact len_tup _ | exact ix_h | exact ix_l | exact ix_f | exact ix_p0 | exact ix_p1 | exact isn_none | exact le_int _ _ | exact gt_int _ _ | apply src_zipT | apply ev_slFromT | exact ev_n1 | exact ev_n3 | exact ev_n4 | apply ev_isiStr | apply ev_isiTup | apply src_str | decide | exact rfl)
    rfl
end
end K16
/-! ## part P8 -/
set_option Elab.async false
set_option linter.all false
set_option maxRecDepth 100000
set_option maxHeartbeats 1000000
namespace K16
open PySem PySem.Spec PyProof.Rows L2
open Evl (Ex)
open StX (tStar pa_star)
section
variable {P : Program} {w : World} {K : PySem.W.Frag} {mg : Str → Option Value} {base : Heap}
theorem eqnil_N (l : Sx) : REq (.list (l.map tN)) (.list []) (.bool (decide (l = []))) := ⟨(flat_lS l).shp (by decide), (flat_lS []).shp (by decide), by
  have h := eqvAll_map eqv_tN l []
  rw [PyData.eqv]
  exact congrArg PyData.bool h.symm⟩
theorem eqnil_S (l : List Sx) : REq (.list (l.map tS)) (.list []) (.bool (decide (l = []))) := ⟨(flat_lSS l).shp (by decide), (flat_lSS []).shp (by decide), by
  have h := eqvAll_map eqv_tS l []
  rw [PyData.eqv]
  exact congrArg PyData.bool h.symm⟩
theorem nenil_S (l : List Sx) : RNe (.list (l.map tS)) (.list []) (.bool (!decide (l = []))) := ⟨(flat_lSS l).shp (by decide), (flat_lSS []).shp (by decide), by
  have h := eqvAll_map eqv_tS l []
  rw [PyData.eqv]
  exact congrArg (fun b => PyData.bool (!b)) h.symm⟩
theorem filter_nil {α : Type} (p : α → Bool) : ∀ l : List α, decide (l.filter p = [] ) = l.all fun x => !p x
  | [] => rfl
  | x :: l => by
    rw [List.filter_cons, List.all_cons]
    cases p x with
    | true => simp
    | false =>
      rw [← filter_nil p l]
      simp
def growF (f : List Sx) (x : Nm) : List Sx := f ++ f.map fun s => s ++ [x]
def subsF (n : Sx) : List Sx := srtS (n.foldl growF [[]])
theorem grow_len : ∀ (n : Sx) (f : List Sx), (n.foldl growF f).length = f.length * 2 ^ n.length
  | [], f => by simp
  | x :: n, f => by
    rw [List.foldl_cons, grow_len n]
    unfold growF
    rw [List.length_append, List.length_map, List.length_cons, Nat.pow_succ, Nat.mul_comm (2 ^ n.length) 2, ← Nat.mul_assoc, Nat.mul_two]
theorem grow_sz : ∀ (n : Sx) (f : List Sx) (k : Nat), (∀ s ∈ f, s.length ≤ k) → ∀ s ∈ n.foldl growF f, s.length ≤ k + n.length
  | [], f, k, h, s, hs => h s hs
  | x :: n, f, k, h, s, hs => by
    rw [List.foldl_cons] at hs
    have := grow_sz n (growF f x) (k + 1) (fun t ht => by
      unfold growF at ht
      rcases List.mem_append.mp ht with q | q
      · have := h t q; omega
      · obtain ⟨u, hu, rfl⟩ := List.mem_map.mp q
        have := h u hu
        rw [List.length_append]
        show u.length + 1 ≤ _
        omega) s hs
    rw [List.length_cons]
    omega
theorem add_S (a b : List Sx) (h : a.length + b.length ≤ 100000) : RAdd (.list (a.map tS)) (.list (b.map tS)) (.list ((a ++ b).map tS)) := .inr (.inr ⟨_, _, rfl, rfl, by rw [List.length_map, List.length_map]; exact h, by rw [List.map_append]⟩)
theorem add_N (a : Sx) (x : Nm) (h : a.length ≤ 1000) : RAdd (tS a) (.tuple [tN x]) (tS (a ++ [x])) := .inr (.inl ⟨a.map tN, [tN x], rfl, rfl, by rw [List.length_map]; show a.length + 1 ≤ 100000; omega, by unfold tS; rw [List.map_append]; rfl⟩)
def safeL (t : Tri) (d : Sx) : Bool := !decide (t.h ∈ d) && t.fears.any fun f => withinF d f
def fallsL (T : Tru) (t u : Tri) : List Sx := (subsF (housesF T)).filter fun d => safeL t d && safeL u d
def leastL (ss : List Sx) : List Sx := canS (ss.filter fun s => decide ((ss.filter fun x => !decide (x = s) && withinF x s) = []))
def foundL (T : Tru) (a : Nm) : List Sx := T.flatMap fun t => if t.h = a then [] else (fallsL T (rowF T a) t).flatMap fun d => t.lots.map fun b => lessF b d
def needsL (T : Tru) (a : Nm) : List Sx := leastL (canS (foundL T a))
theorem subsF_len {n : Sx} (h : n.length ≤ 5) : (subsF n).length ≤ 32 := by
  unfold subsF
  rw [(srt_perm _).length_eq, grow_len]
  have : 2 ^ n.length ≤ 2 ^ 5 := Nat.pow_le_pow_right (by decide) h
  show 1 * _ ≤ _
  omega
theorem len_eqS (s : Sx) (k : Nat) : REq (.int (((s.map tN).length : Nat) : Int)) (.int (k : Int)) (.bool (decide (s.length = k))) := by
  have h := eq_int (((s.map tN).length : Nat) : Int) k
  rw [List.length_map] at h ⊢
  rw [show decide (s.length = k) = decide ((s.length : Int) = (k : Int)) from decide_eq_decide.mpr Int.ofNat_inj.symm]
  exact h
def R_Lsubsets (ds : List D) (d : D) : Prop := ∃ (n : Sx), ds = [lS n] ∧ n.length ≤ 5 ∧ d = lSS (subsF n)
theorem ok_Lsubsets (T : Tx K mg) : Ok P w K mg base 1 "_law_subsets" ["_law_names_here"] [] (spR R_Lsubsets) := by
  refine ok_pure T d_Lsubsets 40 40 rfl rfl rfl rfl rfl sc_Lsubsets (fun _ _ _ _ _ _ us hl => match us, hl with | [_], _ => rfl) ?_ ?_
  · rintro ds d ⟨n, rfl, h5, rfl⟩; rfl
  intro cdv A outer s H E hr
  have nd := sc_Lsubsets.nd
  refine ⟨_, (pss_cons (ps_set (i := 1) nd rfl (by first | exact Or.inl rfl | exact Or.inr rfl) (pe_lst (pa_cons (pe_tup pa_nil) pa_nil))) (pss_cons (ps_for PassesOwn.never rfl (pi_list (pv 0)) (pg_name (i := 2) nd rfl (by first | exact Or.inl rfl | exact Or.inr rfl)) (pss_one (ps_set (i := 1) nd rfl (by first | exact Or.inl rfl | exact Or.inr rfl) (pe_op op_add' (pv 1) (pe_lc (own := [("_law_some_here", 3)]) (g := (gName 3)) (wi := (iList K (tVar 1))) (tt := tYes) (te := (tOp (rD2 RAdd) (tVar 3) (tTup (tCons (tVar 2) tNil)))) rfl nd (pi_list (pv 1)) (blkOk_by (N := N_Lsubsets) (sc := defScope s_Lsubsets) (by decide +kernel)) (fun _ _ _ _ _ => (pg_name (i := 3) nd rfl (by first | exact Or.inl rfl | exact Or.inr rfl))) (fun _ _ _ _ _ => pts_nil) (fun _ _ _ _ _ => (pe_op op_add' (pv 3) (pe_tup (pa_cons (pv 2) pa_nil))))))))) (pss_one (ps_ret (pe_callB (call_sortedS hr) rfl (T.free 68) boot_sorted (pa_cons (pv 1) pa_nil)))))), ?_⟩
  rintro ds d ⟨n, rfl, h5, rfl⟩
  refine bl_seq (sm_set (x := lSS [[]]) (ev_lst (ea_cons (ev_tup ea_nil (by decide)) ea_nil) (by decide)) trivial) ?_
  refine bl_seq (sm_forI (xs := n) (enc := tN) (js := [2]) (fun _ => none) (fun i => [some (lS n), some (lSS ((n.take i).foldl growF [[]])), none, none]) (env4 := fun i x => [some (lS n), some (lSS ((n.take i).foldl growF [[]])), some (tN x), none]) (env5 := fun i x => [some (lS n), some (lSS ((n.take (i + 1)).foldl growF [[]])), some (tN x), none]) (src_list (ev_get rfl)) (.s (.s (.n (.n .nil)))) ?_) ?_
  · intro i x hx
    have hi : i < n.length := (List.getElem?_eq_some_iff.mp hx).1
    have tl : (n.take i).length ≤ 5 := by rw [List.length_take]; omega
    have gl := grow_len (n.take i) [[]]
    have gs := grow_sz (n.take i) [[]] 0 (fun s hs => by rw [List.mem_singleton.mp hs]; exact Nat.le_refl _)
    have g32 : ((n.take i).foldl growF [[]]).length ≤ 32 := by
      rw [gl]
      have : 2 ^ (n.take i).length ≤ 2 ^ 5 := Nat.pow_le_pow_right (by decide) tl
      show 1 * _ ≤ _
      omega
    have en : (n.take (i + 1)).foldl growF [[]] = growF ((n.take i).foldl growF [[]]) x := by
      rw [List.take_succ, hx, List.foldl_append]
      rfl
    rw [en]
    generalize (n.take i).foldl growF [[]] = f at gl gs g32
    refine ⟨gt_name, trivial, ?_, .s (.s (.n (.n .nil)))⟩
    refine sm_set (i := 1) (x := lSS (growF f x)) ?_ trivial
    refine ev_op (b := .list ((f.map fun s => s ++ [x]).map tS)) (ev_get rfl) ?_ (add_S _ _ (by rw [List.length_map]; omega))
    apply ev_is
    case h =>
      refine ev_lc0 (xs := f) (enc := tS) (fun s => tS (s ++ [x])) (src_list (ev_get rfl)) (fun s hs => gt_name) (by decide) (fun s hs => ?_)
      exact ev_op (ev_get rfl) (ev_tup (ea_cons (ev_get rfl) ea_nil) (by show 1 ≤ 100000; decide)) (add_N s x (by have := gs s hs; omega))
    rw [List.map_map]
    rfl
  · rw [List.take_length]
    refine bl_ret ?_
    apply ev_is
    case h => repeat' (first | exact ⟨_, rfl, rfl⟩ | decide | apply ev_and | apply ev_or | apply et_and | apply et_or | (with_reducible intro x hx) | (with_reducible intro hp) | exact ev_get rfl | exact ev_bl | exact ev_non | exact ev_int (by decide) | exact ev_str (by decide) | exact ea_nil | apply ea_cons | apply ev_op | apply ev_cb | apply ev_call | apply ev_tup | apply ev_lst | apply et_test | apply et_B | exact et_yes | apply et_not | apply ev_lc0 | apply ev_lc | apply src_tup | apply src_list | exact gt_name | apply gt_tup | apply gts_cons | exact gts_nil | exact in_tS _ _ | exact in_lS _ _ | exact nin_tS _ _ | exact in_tSS _ _ | exact eq_tN _ _ | exact ne_tN _ _ | exact eq_tS _ _ | exact ne_tS _ _ | exact eq_int _ _ | exact lt_tN _ _ | exact le_tN _ _ | exact lt_tS _ _ | exact all_map _ _ | exact any_map _ _ | exact tup_lst _ | exact len_lst _ | exact len_tup _ | exact ix_h | exact ix_l | exact ix_f | exact ix_p0 | exact ix_p1 | exact isn_none | exact le_int _ _ | exact gt_int _ _ | apply src_zipT | apply ev_slFromT | exact ev_n1 | exact ev_n3 | exact ev_n4 | apply ev_isiStr | apply ev_isiTup | apply src_str | decide | exact rfl)
    rfl
def R_Lis_within (ds : List D) (d : D) : Prop := ∃ (a b : Sx), ds = [tS a, tS b] ∧ d = .bool (withinF a b)
theorem ok_Lis_within (T : Tx K mg) : Ok P w K mg base 1 "_law_is_within" ["_law_some_here", "_law_late"] [] (spR R_Lis_within) := by
  refine ok_pure T d_Lis_within 41 41 rfl rfl rfl rfl rfl sc_Lis_within (fun _ _ _ _ _ _ us hl => match us, hl with | [_, _], _ => rfl) ?_ ?_
  · rintro ds d ⟨a, b, rfl, rfl⟩; rfl
  intro cdv A outer s H E hr
  have nd := sc_Lis_within.nd
  refine ⟨_, (pss_one (ps_ret (pe_cmpR (op_eq' (hu64 hr)) (pe_lc (own := [("_law_x", 2)]) (g := (gName 2)) (wi := (iTup K (tVar 0))) (tt := (tTest (tOp (rD2 RNotIn) (tVar 2) (tVar 1)))) (te := (tVar 2)) rfl nd (pi_tup (pv 0)) (blkOk_by (N := N_Lis_within) (sc := defScope s_Lis_within) (by decide +kernel)) (fun _ _ _ _ _ => (pg_name (i := 2) nd rfl (by first | exact Or.inl rfl | exact Or.inr rfl))) (fun _ _ _ _ _ => (pts_one (pt_cmpR (op_notIn' (hu65 hr)) (pv 2) (pv 1) (by with_unfolding_all rfl)))) (fun _ _ _ _ _ => (pv 2))) (pe_lst pa_nil) (nomark _)))), ?_⟩
  rintro ds d ⟨a, b, rfl, rfl⟩
  refine bl_ret ?_
  apply ev_is
  case h => repeat' (first | exact eqnil_N _ | decide | apply ev_and | apply ev_or | apply et_and | apply et_or | (with_reducible intro x hx) | (with_reducible intro hp) | exact ev_get rfl | exact ev_bl | exact ev_non | exact ev_int (by decide) | exact ev_str (by decide) | exact ea_nil | apply ea_cons | apply ev_op | apply ev_cb | apply ev_call | apply ev_tup | apply ev_lst | apply et_test | apply et_B | exact et_yes | apply et_not | apply ev_lc0 | apply ev_lc | apply src_tup | apply src_list | exact gt_name | apply gt_tup | apply gts_cons | exact gts_nil | exact in_tS _ _ | exact in_lS _ _ | exact nin_tS _ _ | exact in_tSS _ _ | exact eq_tN _ _ | exact ne_tN _ _ | exact eq_tS _ _ | exact ne_tS _ _ | exact eq_int _ _ | exact lt_tN _ _ | exact le_tN _ _ | exact lt_tS _ _ | exact all_map _ _ | exact any_map _ _ | exact tup_lst _ | exact len_lst _ | exact len_tup _ | exact ix_h | exact ix_l | exact ix_f | exact ix_p0 | exact ix_p1 | exact isn_none | exact le_int _ _ | exact gt_int _ _ | apply src_zipT | apply ev_slFromT | exact ev_n1 | exact ev_n3 | exact ev_n4 | apply ev_isiStr | apply ev_isiTup | apply src_str | decide | exact rfl)
  rw [filter_nil]
  unfold withinF
  simp only [Bool.not_not]
def R_Lless (ds : List D) (d : D) : Prop := ∃ (a b : Sx), ds = [tS a, tS b] ∧ d = tS (lessF a b)
theorem ok_Lless (T : Tx K mg) : Ok P w K mg base 1 "_law_less" ["_law_some_here", "_law_late"] [] (spR R_Lless) := by
  refine ok_pure T d_Lless 42 42 rfl rfl rfl rfl rfl sc_Lless (fun _ _ _ _ _ _ us hl => match us, hl with | [_, _], _ => rfl) ?_ ?_
  · rintro ds d ⟨a, b, rfl, rfl⟩; rfl
  intro cdv A outer s H E hr
  have nd := sc_Lless.nd
  refine ⟨_, (pss_one (ps_ret (pe_callTy call_tuple' rfl (T.free 65) boot_tuple (pa_cons (pe_lc (own := [("_law_x", 2)]) (g := (gName 2)) (wi := (iTup K (tVar 0))) (tt := (tTest (tOp (rD2 RNotIn) (tVar 2) (tVar 1)))) (te := (tVar 2)) rfl nd (pi_tup (pv 0)) (blkOk_by (N := N_Lless) (sc := defScope s_Lless) (by decide +kernel)) (fun _ _ _ _ _ => (pg_name (i := 2) nd rfl (by first | exact Or.inl rfl | exact Or.inr rfl))) (fun _ _ _ _ _ => (pts_one (pt_cmpR (op_notIn' (hu65 hr)) (pv 2) (pv 1) (by with_unfolding_all rfl)))) (fun _ _ _ _ _ => (pv 2))) pa_nil)))), ?_⟩
  rintro ds d ⟨a, b, rfl, rfl⟩
  refine bl_ret ?_
  apply ev_is
  case h => repeat' (first | decide | apply ev_and | apply ev_or | apply et_and | apply et_or | (with_reducible intro x hx) | (with_reducible intro hp) | exact ev_get rfl | exact ev_bl | exact ev_non | exact ev_int (by decide) | exact ev_str (by decide) | exact ea_nil | apply ea_cons | apply ev_op | apply ev_cb | apply ev_call | apply ev_tup | apply ev_lst | apply et_test | apply et_B | exact et_yes | apply et_not | apply ev_lc0 | apply ev_lc | apply src_tup | apply src_list | exact gt_name | apply gt_tup | apply gts_cons | exact gts_nil | exact in_tS _ _ | exact in_lS _ _ | exact nin_tS _ _ | exact in_tSS _ _ | exact eq_tN _ _ | exact ne_tN _ _ | exact eq_tS _ _ | exact ne_tS _ _ | exact eq_int _ _ | exact lt_tN _ _ | exact le_tN _ _ | exact lt_tS _ _ | exact all_map _ _ | exact any_map _ _ | exact tup_lst _ | exact len_lst _ | exact len_tup _ | exact ix_h | exact ix_l | exact ix_f | exact ix_p0 | exact ix_p1 | exact isn_none | exact le_int _ _ | exact gt_int _ _ | apply src_zipT | apply ev_slFromT | exact ev_n1 | exact ev_n3 | exact ev_n4 | apply ev_isiStr | apply ev_isiTup | apply src_str | decide | exact rfl)
  rfl
def R_Lsized (ds : List D) (d : D) : Prop := ∃ (n : Sx) (k : Nat), ds = [lS n, .int (k : Int)] ∧ n.length ≤ 5 ∧ d = lSS ((subsF n).filter fun s => decide (s.length = k))
theorem ok_Lsized (T : Tx K mg) (C_Lsubsets : Ok P w K mg base 1 "_law_subsets" ["_law_names_here"] [] (spR R_Lsubsets)) : Ok P w K mg base 2 "_law_sized" ["_law_names_here", "_law_size"] [] (spR R_Lsized) := by
  refine ok_pure T d_Lsized 45 45 rfl rfl rfl rfl rfl sc_Lsized (fun _ _ _ _ _ _ us hl => match us, hl with | [_, _], _ => rfl) ?_ ?_
  · rintro ds d ⟨n, k, rfl, h5, rfl⟩; rfl
  intro cdv A outer s H E hr
  have nd := sc_Lsized.nd
  refine ⟨_, (pss_one (ps_ret (pe_lc (own := [("_law_some_here", 2)]) (g := (gName 2)) (wi := (iList K (tCall (spR R_Lsubsets) [] E0 (tCons (tVar 0) tNil)))) (tt := (tTest (tOp (rD2 REq) (tCB (rD RLen) (tCons (tVar 2) tNil)) (tVar 1)))) (te := (tVar 2)) rfl nd (pi_list (pe_go C_Lsubsets hr (by decide) rfl (pa_cons (pv 0) pa_nil))) (blkOk_by (N := N_Lsized) (sc := defScope s_Lsized) (by decide +kernel)) (fun _ _ _ _ _ => (pg_name (i := 2) nd rfl (by first | exact Or.inl rfl | exact Or.inr rfl))) (fun _ _ _ _ _ => (pts_one (pt_cmpR (op_eq' (hu64 hr)) (pe_callB call_len' rfl (T.free 62) boot_len (pa_cons (pv 2) pa_nil)) (pv 1) (nomark _)))) (fun _ _ _ _ _ => (pv 2))))), ?_⟩
  rintro ds d ⟨n, k, rfl, h5, rfl⟩
  refine bl_ret ?_
  apply ev_is
  case h => repeat' (first | exact ⟨_, rfl, h5, rfl⟩ | exact len_eqS _ _ | decide | apply ev_and | apply ev_or | apply et_and | apply et_or | (with_reducible intro x hx) | (with_reducible intro hp) | exact ev_get rfl | exact ev_bl | exact ev_non | exact ev_int (by decide) | exact ev_str (by decide) | exact ea_nil | apply ea_cons | apply ev_op | apply ev_cb | apply ev_call | apply ev_tup | apply ev_lst | apply et_test | apply et_B | exact et_yes | apply et_not | apply ev_lc0 | apply ev_lc | apply src_tup | apply src_list | exact gt_name | apply gt_tup | apply gts_cons | exact gts_nil | exact in_tS _ _ | exact in_lS _ _ | exact nin_tS _ _ | exact in_tSS _ _ | exact eq_tN _ _ | exact ne_tN _ _ | exact eq_tS _ _ | exact ne_tS _ _ | exact eq_int _ _ | exact lt_tN _ _ | exact le_tN _ _ | exact lt_tS _ _ | exact all_map _ _ | exact any_map _ _ | exact tup_lst _ | exact len_lst _ | exact len_tup _ | exact ix_h | exact ix_l | exact ix_f | exact ix_p0 | exact ix_p1 | exact isn_none | exact le_int _ _ | exact gt_int _ _ | apply src_zipT | apply ev_slFromT | exact ev_n1 | exact ev_n3 | exact ev_n4 | apply ev_isiStr | apply ev_isiTup | apply src_str | decide | exact rfl)
  rfl
def R_Lis_safe (ds : List D) (d : D) : Prop := ∃ (t : Tri) (d' : Sx), ds = [tTri t, tS d'] ∧ d = .bool (safeL t d')
theorem ok_Lis_safe (T : Tx K mg) (C_Lis_within : Ok P w K mg base 1 "_law_is_within" ["_law_some_here", "_law_late"] [] (spR R_Lis_within)) : Ok P w K mg base 2 "_law_is_safe" ["_law_triple_here", "_law_down"] [] (spR R_Lis_safe) := by
  refine ok_pure T d_Lis_safe 47 47 rfl rfl rfl rfl rfl sc_Lis_safe (fun _ _ _ _ _ _ us hl => match us, hl with | [_, _], _ => rfl) ?_ ?_
  · rintro ds d ⟨t, e, rfl, rfl⟩; rfl
  intro cdv A outer s H E hr
  have nd := sc_Lis_safe.nd
  refine ⟨_, (pss_one (ps_ret (pe_and (pe_cmpR (op_notIn' (hu65 hr)) (pe_ix ix' (pv 0) pe_int (fun _ _ => rfl)) (pv 1) (by with_unfolding_all rfl)) (pe_one (pe_cmpR (op_ne' (hu64 hr)) (pe_lc (own := [("_law_fear", 2)]) (g := (gName 2)) (wi := (iTup K (tOp (rD2 RIx) (tVar 0) (tC (.int 2))))) (tt := (tB (tCall (spR R_Lis_within) [] E0 (tCons (tVar 1) (tCons (tVar 2) tNil))))) (te := (tVar 2)) rfl nd (pi_tup (pe_ix ix' (pv 0) pe_int (fun _ _ => rfl))) (blkOk_by (N := N_Lis_safe) (sc := defScope s_Lis_safe) (by decide +kernel)) (fun _ _ _ _ _ => (pg_name (i := 2) nd rfl (by first | exact Or.inl rfl | exact Or.inr rfl))) (fun _ _ _ _ _ => (pts_one (pt_val (pe_go C_Lis_within hr (by decide) rfl (pa_cons (pv 1) (pa_cons (pv 2) pa_nil)))))) (fun _ _ _ _ _ => (pv 2))) (pe_lst pa_nil) (nomark _)))))), ?_⟩
  rintro ds d ⟨t, e, rfl, rfl⟩
  refine bl_ret ?_
  apply ev_is
  case h => repeat' (first | exact ⟨_, _, rfl, rfl⟩ | exact nenil_S _ | decide | apply ev_and | apply ev_or | apply et_and | apply et_or | (with_reducible intro x hx) | (with_reducible intro hp) | exact ev_get rfl | exact ev_bl | exact ev_non | exact ev_int (by decide) | exact ev_str (by decide) | exact ea_nil | apply ea_cons | apply ev_op | apply ev_cb | apply ev_call | apply ev_tup | apply ev_lst | apply et_test | apply et_B | exact et_yes | apply et_not | apply ev_lc0 | apply ev_lc | apply src_tup | apply src_list | exact gt_name | apply gt_tup | apply gts_cons | exact gts_nil | exact in_tS _ _ | exact in_lS _ _ | exact nin_tS _ _ | exact in_tSS _ _ | exact eq_tN _ _ | exact ne_tN _ _ | exact eq_tS _ _ | exact ne_tS _ _ | exact eq_int _ _ | exact lt_tN _ _ | exact le_tN _ _ | exact lt_tS _ _ | exact all_map _ _ | exact any_map _ _ | exact tup_lst _ | exact len_lst _ | exact len_tup _ | exact ix_h | exact ix_l | exact ix_f | exact ix_p0 | exact ix_p1 | exact isn_none | exact le_int _ _ | exact gt_int _ _ | apply src_zipT | apply ev_slFromT | exact ev_n1 | exact ev_n3 | exact ev_n4 | apply ev_isiStr | apply ev_isiTup | apply src_str | decide | exact rfl)
  rw [filter_nil]
  unfold safeL
  rw [List.not_all_eq_any_not]
  simp only [Bool.not_not]
def R_Lfalls (ds : List D) (d : D) : Prop := ∃ (T : Tru) (t u : Tri), ds = [tT T, tTri t, tTri u] ∧ VT T ∧ d = lSS (fallsL T t u)
theorem ok_Lfalls (T : Tx K mg) (C_Lsubsets : Ok P w K mg base 1 "_law_subsets" ["_law_names_here"] [] (spR R_Lsubsets)) (C_Lis_safe : Ok P w K mg base 2 "_law_is_safe" ["_law_triple_here", "_law_down"] [] (spR R_Lis_safe)) : Ok P w K mg base 3 "_law_falls" ["_law_band", "_law_here", "_law_there"] [] (spR R_Lfalls) := by
  refine ok_pure T d_Lfalls 48 48 rfl rfl rfl rfl rfl sc_Lfalls (fun _ _ _ _ _ _ us hl => match us, hl with | [_, _, _], _ => rfl) ?_ ?_
  · rintro ds d ⟨T, t, u, rfl, V, rfl⟩; rfl
  intro cdv A outer s H E hr
  have nd := sc_Lfalls.nd
  refine ⟨_, (pss_cons (ps_setLc (i := 3) (own := [("_law_triple_here", 4)]) (g := (gName 4)) (wi := (iTup K (tVar 0))) (tt := tYes) (te := (tOp (rD2 RIx) (tVar 4) (tC (.int 0)))) rfl nd rfl rfl (sw_true rfl rfl rfl (by decide +kernel)) (pi_tup (pv 0)) (blkOk_by (N := N_Lfalls) (sc := defScope s_Lfalls) (by decide +kernel)) (fun _ _ _ _ _ => (pg_name (i := 4) nd rfl (by first | exact Or.inl rfl | exact Or.inr rfl))) (fun _ _ _ _ _ => pts_nil) (fun _ _ _ _ _ => (pe_ix ix' (pv 4) pe_int (fun _ _ => rfl)))) (pss_one (ps_ret (pe_lc (own := [("_law_down", 5)]) (g := (gName 5)) (wi := (iList K (tCall (spR R_Lsubsets) [] E0 (tCons (tVar 3) tNil)))) (tt := (tAnd (tB (tCall (spR R_Lis_safe) [] E0 (tCons (tVar 1) (tCons (tVar 5) tNil)))) (tB (tCall (spR R_Lis_safe) [] E0 (tCons (tVar 2) (tCons (tVar 5) tNil)))))) (te := (tVar 5)) rfl nd (pi_list (pe_go C_Lsubsets hr (by decide) rfl (pa_cons (pv 3) pa_nil))) (blkOk_by (N := N_Lfalls) (sc := defScope s_Lfalls) (by decide +kernel)) (fun _ _ _ _ _ => (pg_name (i := 5) nd rfl (by first | exact Or.inl rfl | exact Or.inr rfl))) (fun _ _ _ _ _ => (pts_one (PW.pt (pw_and (pt_val (pe_go C_Lis_safe hr (by decide) rfl (pa_cons (pv 1) (pa_cons (pv 5) pa_nil)))) (pw_and1 (pt_val (pe_go C_Lis_safe hr (by decide) rfl (pa_cons (pv 2) (pa_cons (pv 5) pa_nil))))))))) (fun _ _ _ _ _ => (pv 5)))))), ?_⟩
  rintro ds d ⟨T, t, u, rfl, V, rfl⟩
  refine bl_seq (sm_set (x := lS (housesF T)) ?_ trivial) ?_
  · apply ev_is
    case h => repeat' (first | decide | apply ev_and | apply ev_or | apply et_and | apply et_or | (with_reducible intro x hx) | (with_reducible intro hp) | exact ev_get rfl | exact ev_bl | exact ev_non | exact ev_int (by decide) | exact ev_str (by decide) | exact ea_nil | apply ea_cons | apply ev_op | apply ev_cb | apply ev_call | apply ev_tup | apply ev_lst | apply et_test | apply et_B | exact et_yes | apply et_not | apply ev_lc0 | apply ev_lc | apply src_tup | apply src_list | exact gt_name | apply gt_tup | apply gts_cons | exact gts_nil | exact in_tS _ _ | exact in_lS _ _ | exact nin_tS _ _ | exact in_tSS _ _ | exact eq_tN _ _ | exact ne_tN _ _ | exact eq_tS _ _ | exact ne_tS _ _ | exact eq_int _ _ | exact lt_tN _ _ | exact le_tN _ _ | exact lt_tS _ _ | exact all_map _ _ | exact any_map _ _ | exact tup_lst _ | exact len_lst _ | exact len_tup _ | exact ix_h | exact ix_l | exact ix_f | exact ix_p0 | exact ix_p1 | exact isn_none | exact le_int _ _ | exact gt_int _ _ | apply src_zipT | apply ev_slFromT | exact ev_n1 | exact ev_n3 | exact ev_n4 | apply ev_isiStr | apply ev_isiTup | apply src_str | decide | exact rfl)
    unfold lS housesF
    rw [List.map_map]
    rfl
  refine bl_ret ?_
  apply ev_is
  case h => repeat' (first | exact ⟨_, rfl, V.hlen, rfl⟩ | exact ⟨_, _, rfl, rfl⟩ | decide | apply ev_and | apply ev_or | apply et_and | apply et_or | (with_reducible intro x hx) | (with_reducible intro hp) | exact ev_get rfl | exact ev_bl | exact ev_non | exact ev_int (by decide) | exact ev_str (by decide) | exact ea_nil | apply ea_cons | apply ev_op | apply ev_cb | apply ev_call | apply ev_tup | apply ev_lst | apply et_test | apply et_B | exact et_yes | apply et_not | apply ev_lc0 | apply ev_lc | apply src_tup | apply src_list | exact gt_name | apply gt_tup | apply gts_cons | exact gts_nil | exact in_tS _ _ | exact in_lS _ _ | exact nin_tS _ _ | exact in_tSS _ _ | exact eq_tN _ _ | exact ne_tN _ _ | exact eq_tS _ _ | exact ne_tS _ _ | exact eq_int _ _ | exact lt_tN _ _ | exact le_tN _ _ | exact lt_tS _ _ | exact all_map _ _ | exact any_map _ _ | exact tup_lst _ | exact len_lst _ | exact len_tup _ | exact ix_h | exact ix_l | exact ix_f | exact ix_p0 | exact ix_p1 | exact isn_none | exact le_int _ _ | exact gt_int _ _ | apply src_zipT | apply ev_slFromT | exact ev_n1 | exact ev_n3 | exact ev_n4 | apply ev_isiStr | apply ev_isiTup | apply src_str | decide | exact rfl)
  rfl
def R_Lleast (ds : List D) (d : D) : Prop := ∃ (ss : List Sx), ds = [lSS ss] ∧ Few ss ∧ d = tSS (leastL ss)
theorem ok_Lleast (T : Tx K mg) (C_Lis_within : Ok P w K mg base 1 "_law_is_within" ["_law_some_here", "_law_late"] [] (spR R_Lis_within)) : Ok P w K mg base 2 "_law_least" ["_law_sets"] [] (spR R_Lleast) := by
  refine ok_pure T d_Lleast 49 49 rfl rfl rfl rfl rfl sc_Lleast (fun _ _ _ _ _ _ us hl => match us, hl with | [_], _ => rfl) ?_ ?_
  · rintro ds d ⟨ss, rfl, hf, rfl⟩; rfl
  intro cdv A outer s H E hr
  have nd := sc_Lleast.nd
  refine ⟨_, (pss_cons (ps_setLc (i := 1) (own := [("_law_some_here", 2)]) (g := (gName 2)) (wi := (iList K (tVar 0))) (tt := (tTest (tOp (rD2 REq) (tLc (iList K (tVar 0)) (gName 3) (tAnd (tTest (tOp (rD2 RNe) (tVar 3) (tVar 2))) (tB (tCall (spR R_Lis_within) [] E0 (tCons (tVar 3) (tCons (tVar 2) tNil))))) (tVar 3) [3]) (tLst tNil)))) (te := (tVar 2)) rfl nd rfl rfl (sw_true rfl rfl rfl (by decide +kernel)) (pi_list (pv 0)) (blkOk_by (N := N_Lleast) (sc := defScope s_Lleast) (by decide +kernel)) (fun _ _ _ _ _ => (pg_name (i := 2) nd rfl (by first | exact Or.inl rfl | exact Or.inr rfl))) (fun _ _ _ _ _ => (pts_one (pt_cmpR (op_eq' (hu64 hr)) (pe_lc (own := [("_law_x", 3)]) (g := (gName 3)) (wi := (iList K (tVar 0))) (tt := (tAnd (tTest (tOp (rD2 RNe) (tVar 3) (tVar 2))) (tB (tCall (spR R_Lis_within) [] E0 (tCons (tVar 3) (tCons (tVar 2) tNil)))))) (te := (tVar 3)) rfl nd (pi_list (pv 0)) (blkOk_by (by kernel_rfl)) (fun _ _ _ _ _ => (pg_name (i := 3) nd rfl (by first | exact Or.inl rfl | exact Or.inr rfl))) (fun _ _ _ _ _ => (pts_one (PW.pt (pw_and (pt_cmpR (op_ne' (hu64 hr)) (pv 3) (pv 2) (nomark _)) (pw_and1 (pt_val (pe_go C_Lis_within hr (by decide) rfl (pa_cons (pv 3) (pa_cons (pv 2) pa_nil))))))))) (fun _ _ _ _ _ => (pv 3))) (pe_lst pa_nil) (nomark _)))) (fun _ _ _ _ _ => (pv 2))) (pss_one (ps_ret (pe_callTy call_tuple' rfl (T.free 65) boot_tuple (pa_cons (pe_sortedSet hr rfl rfl (T.free 68) rfl (T.free 69) (pv 1)) pa_nil))))), ?_⟩
  rintro ds d ⟨ss, rfl, hf, rfl⟩
  refine bl_seq (sm_set (x := lSS (ss.filter fun s => decide ((ss.filter fun x => !decide (x = s) && withinF x s) = []))) ?_ trivial) ?_
  · apply ev_is
    case h => repeat' (first | exact ⟨_, _, rfl, rfl⟩ | exact eqnil_S _ | decide | apply ev_and | apply ev_or | apply et_and | apply et_or | (with_reducible intro x hx) | (with_reducible intro hp) | exact ev_get rfl | exact ev_bl | exact ev_non | exact ev_int (by decide) | exact ev_str (by decide) | exact ea_nil | apply ea_cons | apply ev_op | apply ev_cb | apply ev_call | apply ev_tup | apply ev_lst | apply et_test | apply et_B | exact et_yes | apply et_not | apply ev_lc0 | apply ev_lc | apply src_tup | apply src_list | exact gt_name | apply gt_tup | apply gts_cons | exact gts_nil | exact in_tS _ _ | exact in_lS _ _ | exact nin_tS _ _ | exact in_tSS _ _ | exact eq_tN _ _ | exact ne_tN _ _ | exact eq_tS _ _ | exact ne_tS _ _ | exact eq_int _ _ | exact lt_tN _ _ | exact le_tN _ _ | exact lt_tS _ _ | exact all_map _ _ | exact any_map _ _ | exact tup_lst _ | exact len_lst _ | exact len_tup _ | exact ix_h | exact ix_l | exact ix_f | exact ix_p0 | exact ix_p1 | exact isn_none | exact le_int _ _ | exact gt_int _ _ | apply src_zipT | apply ev_slFromT | exact ev_n1 | exact ev_n3 | exact ev_n4 | apply ev_isiStr | apply ev_isiTup | apply src_str | decide | exact rfl)
    rfl
  obtain ⟨U, hU, hin⟩ := hf.U
  refine bl_ret (ev_cb (ea_cons (ev_srtSet (.inl (ev_get rfl)) U hU fun s hs => hin s (List.mem_filter.mp hs).1) ea_nil) (tup_lst _))
def R_Ltriple (ds : List D) (d : D) : Prop := ∃ (T : Tru) (a : Nm), ds = [tT T, tN a] ∧ a ∈ housesF T ∧ d = tTri (rowF T a)
theorem ok_Ltriple (T : Tx K mg) : Ok P w K mg base 1 "_law_triple" ["_law_band", "_law_x"] [] (spR R_Ltriple) := by
  refine ok_pure T d_Ltriple 50 50 rfl rfl rfl rfl rfl sc_Ltriple (fun _ _ _ _ _ _ us hl => match us, hl with | [_, _], _ => rfl) ?_ ?_
  · rintro ds d ⟨T, a, rfl, ha, rfl⟩; rfl
  intro cdv A outer s H E hr
  have nd := sc_Ltriple.nd
  refine ⟨_, (pss_one (ps_ret (pe_ix ix' (pe_lc (own := [("_law_triple_here", 2)]) (g := (gName 2)) (wi := (iTup K (tVar 0))) (tt := (tTest (tOp (rD2 REq) (tOp (rD2 RIx) (tVar 2) (tC (.int 0))) (tVar 1)))) (te := (tVar 2)) rfl nd (pi_tup (pv 0)) (blkOk_by (N := N_Ltriple) (sc := defScope s_Ltriple) (by decide +kernel)) (fun _ _ _ _ _ => (pg_name (i := 2) nd rfl (by first | exact Or.inl rfl | exact Or.inr rfl))) (fun _ _ _ _ _ => (pts_one (pt_cmpR (op_eq' (hu64 hr)) (pe_ix ix' (pv 2) pe_int (fun _ _ => rfl)) (pv 1) (nomark _)))) (fun _ _ _ _ _ => (pv 2))) pe_int (fun _ _ => rfl)))), ?_⟩
  rintro ds d ⟨T, a, rfl, ha, rfl⟩
  obtain ⟨t, h1, h2, h3, h4⟩ := rowF_some ha
  refine bl_ret ?_
  apply ev_is
  case h => repeat' (first | exact ix_first h1 | decide | apply ev_and | apply ev_or | apply et_and | apply et_or | (with_reducible intro x hx) | (with_reducible intro hp) | exact ev_get rfl | exact ev_bl | exact ev_non | exact ev_int (by decide) | exact ev_str (by decide) | exact ea_nil | apply ea_cons | apply ev_op | apply ev_cb | apply ev_call | apply ev_tup | apply ev_lst | apply et_test | apply et_B | exact et_yes | apply et_not | apply ev_lc0 | apply ev_lc | apply src_tup | apply src_list | exact gt_name | apply gt_tup | apply gts_cons | exact gts_nil | exact in_tS _ _ | exact in_lS _ _ | exact nin_tS _ _ | exact in_tSS _ _ | exact eq_tN _ _ | exact ne_tN _ _ | exact eq_tS _ _ | exact ne_tS _ _ | exact eq_int _ _ | exact lt_tN _ _ | exact le_tN _ _ | exact lt_tS _ _ | exact all_map _ _ | exact any_map _ _ | exact tup_lst _ | exact len_lst _ | exact len_tup _ | exact ix_h | exact ix_l | exact ix_f | exact ix_p0 | exact ix_p1 | exact isn_none | exact le_int _ _ | exact gt_int _ _ | apply src_zipT | apply ev_slFromT | exact ev_n1 | exact ev_n3 | exact ev_n4 | apply ev_isiStr | apply ev_isiTup | apply src_str | decide | exact rfl)
  rw [h2]
end
end K16
/-! ## part P9 -/
set_option Elab.async false
set_option linter.all false
set_option maxRecDepth 100000
set_option maxHeartbeats 1000000
namespace K16
open PySem PySem.Spec PyProof.Rows L2
open Evl (Ex)
open StX (tStar pa_star)
section
variable {P : Program} {w : World} {K : PySem.W.Frag} {mg : Str → Option Value} {base : Heap}
theorem mem_grow : ∀ {n : Sx} {f : List Sx} {s : Sx}, s ∈ n.foldl growF f ↔ ∃ a ∈ f, ∃ b : Sx, b.Sublist n ∧ s = a ++ b
  | [], f, s => by
    rw [List.foldl_nil]
    constructor
    · intro h
      exact ⟨s, h, [], List.Sublist.refl _, by simp⟩
    · rintro ⟨a, ha, b, hb, rfl⟩
      rw [List.sublist_nil.mp hb, List.append_nil]
      exact ha
  | x :: n, f, s => by
    rw [List.foldl_cons, mem_grow (n := n)]
    constructor
    · rintro ⟨a, ha, b, hb, rfl⟩
      unfold growF at ha
      rcases List.mem_append.mp ha with h | h
      · exact ⟨a, h, b, hb.cons x, rfl⟩
      · obtain ⟨c, hc, rfl⟩ := List.mem_map.mp h
        exact ⟨c, hc, x :: b, hb.cons_cons x, by simp⟩
    · rintro ⟨a, ha, b, hb, rfl⟩
      cases hb with
      | cons _ h => exact ⟨a, List.mem_append_left _ ha, b, h, rfl⟩
      | @cons_cons l _ _ h => exact ⟨a ++ [x], List.mem_append_right _ (List.mem_map.mpr ⟨a, ha, rfl⟩), _, h, by simp⟩
theorem mem_subsF {n s : Sx} : s ∈ subsF n ↔ s.Sublist n := by
  unfold subsF
  rw [srt_mem, mem_grow]
  constructor
  · rintro ⟨a, ha, b, hb, rfl⟩
    rw [List.mem_singleton.mp ha]
    exact hb
  · intro h
    exact ⟨[], List.mem_singleton.mpr rfl, s, h, rfl⟩
theorem setOf_sub {n s : Sx} (hn : RisN n) (h : s.Sublist n) : SetOf n s := ⟨List.Pairwise.sublist h hn, fun x hx => h.subset hx⟩
theorem subsF_set {n s : Sx} (hn : RisN n) : s ∈ subsF n ↔ SetOf n s := mem_subsF.trans ⟨setOf_sub hn, fun h => sub_of_ris hn h.ris h.sub⟩
theorem VT.foundLlen {T : Tru} (V : VT T) (a : Nm) : (foundL T a).length ≤ 5 * 1024 := by
  have := flat_len (l := T) (f := fun t => if t.h = a then [] else (fallsL T (rowF T a) t).flatMap fun d => t.lots.map fun b => lessF b d) (k := 1024) fun t ht => by
    split
    · simp
    · have h1 := flat_len (l := fallsL T (rowF T a) t) (f := fun d => t.lots.map fun b => lessF b d) (k := 32) fun d hd => by
        rw [List.length_map]
        exact V.llen ht
      have h2 : (fallsL T (rowF T a) t).length ≤ 32 := Nat.le_trans (List.length_filter_le _ _) (subsF_len V.hlen)
      omega
  have h5 := V.len
  unfold foundL
  omega
theorem VT.foundLset {T : Tru} (V : VT T) {a : Nm} : ∀ s ∈ foundL T a, SetOf (housesF T) s := fun s hs => by
  obtain ⟨t, ht, hs⟩ := List.mem_flatMap.mp hs
  split at hs
  · cases hs
  · obtain ⟨d, hd, hs⟩ := List.mem_flatMap.mp hs
    obtain ⟨b, hb, rfl⟩ := List.mem_map.mp hs
    exact (V.lset t ht b hb).2.filter _
theorem VT.fewFoundL {T : Tru} (V : VT T) {a : Nm} : Few (foundL T a) := ⟨_, V.ris, V.hlen, V.foundLset⟩
theorem VT.fewCanL {T : Tru} (V : VT T) {a : Nm} : Few (canS (foundL T a)) := ⟨_, V.ris, V.hlen, fun s hs => V.foundLset s (canon_mem.mp hs)⟩
def threeT (b : Bool) : Tru := [(0 : Nm), 3, 4].map fun x => ⟨x, [[0, 3], [0, 4], [3, 4]], if b then (([0, 3, 4] : Sx).filter fun y => !decide (y = x)).map fun y => [y] else [[]]⟩
def fourT : Tru := [(0 : Nm), 3, 4, 5].map fun x => ⟨x, [[0, 3, 4], [0, 3, 5], [0, 4, 5], [3, 4, 5]], (([0, 3, 4, 5] : Sx).filter fun y => !decide (y = x)).map fun y => [y]⟩
def loneT : Tru := [⟨0, [[3]], [[3]]⟩, ⟨3, [[3]], [[]]⟩]
def lamedT : Tru := [⟨0, [[3]], [[]]⟩, ⟨3, [[0]], [[0]]⟩]
def fiveT : Tru := [⟨0, [[0, 3, 4, 5, 6]], [[4, 5, 6]]⟩, ⟨3, [[0, 3, 4, 5, 6]], [[4, 5, 6]]⟩, ⟨4, [[0, 3, 4, 5, 6]], [[0, 3, 5]]⟩, ⟨5, [[0, 3, 4, 5, 6]], [[]]⟩, ⟨6, [[0, 3, 4, 5, 6]], [[0, 3, 4, 5]]⟩]
theorem src_abc {env : En} : SrcE (iStr (tC (.str "abc"))) env (([0, 3, 4] : Sx).map tN) := src_str (s := "abc") (ev_str (by decide)) (by decide)
theorem src_abcd {env : En} : SrcE (iStr (tC (.str "abcd"))) env (([0, 3, 4, 5] : Sx).map tN) := src_str (s := "abcd") (ev_str (by decide)) (by decide)
theorem ne_one {x y : Nm} : RNe (tN y) (tN x) (.bool (!decide (y = x))) := ne_tN y x
def R_Lneeds (ds : List D) (d : D) : Prop := ∃ (T : Tru) (a : Nm), ds = [tT T, tN a] ∧ VT T ∧ a ∈ housesF T ∧ d = tSS (needsL T a)
theorem ok_Lneeds (T : Tx K mg) (C_Lleast : Ok P w K mg base 2 "_law_least" ["_law_sets"] [] (spR R_Lleast)) (C_Lfalls : Ok P w K mg base 3 "_law_falls" ["_law_band", "_law_here", "_law_there"] [] (spR R_Lfalls)) (C_Lless : Ok P w K mg base 1 "_law_less" ["_law_some_here", "_law_late"] [] (spR R_Lless)) (C_Ltriple : Ok P w K mg base 1 "_law_triple" ["_law_band", "_law_x"] [] (spR R_Ltriple)) : Ok P w K mg base 4 "_law_needs" ["_law_band", "_law_x"] [] (spR R_Lneeds) := by
  refine ok_pure T d_Lneeds 51 51 rfl rfl rfl rfl rfl sc_Lneeds (fun _ _ _ _ _ _ us hl => match us, hl with | [_, _], _ => rfl) ?_ ?_
  · rintro ds d ⟨T, a, rfl, V, ha, rfl⟩; rfl
  intro cdv A outer s H E hr
  have nd := sc_Lneeds.nd
  refine ⟨_, (pss_cons (ps_par (i := 2) (j := 3) rfl nd rfl rfl (by decide) rfl rfl (pa_cons (pe_go C_Ltriple hr (by decide) rfl (pa_cons (pv 0) (pa_cons (pv 1) pa_nil))) (pa_cons (pe_lst pa_nil) pa_nil)) (by with_unfolding_all rfl)) (pss_cons (ps_for PassesOwn.never rfl (pi_tup (pv 0)) (pg_name (i := 4) nd rfl (by first | exact Or.inl rfl | exact Or.inr rfl)) (pss_one (ps_if (pt_cmpR (op_ne' (hu64 hr)) (pe_ix ix' (pv 4) pe_int (fun _ _ => rfl)) (pv 1) (nomark _)) (pss_one (ps_for PassesOwn.never rfl (pi_list (pe_go C_Lfalls hr (by decide) rfl (pa_cons (pv 0) (pa_cons (pv 2) (pa_cons (pv 4) pa_nil))))) (pg_name (i := 5) nd rfl (by first | exact Or.inl rfl | exact Or.inr rfl)) (pss_one (ps_expr (pe_bm PySem.F.plainAttrs_list PySem.F.slot_list_extend PySem.F.type_list_extend mt_extend (pv 3) (pa_cons (pe_lc (own := [("_law_bloc", 6)]) (g := (gName 6)) (wi := (iTup K (tOp (rD2 RIx) (tVar 4) (tC (.int 1))))) (tt := tYes) (te := (tCall (spR R_Lless) [] E0 (tCons (tVar 6) (tCons (tVar 5) tNil)))) rfl nd (pi_tup (pe_ix ix' (pv 4) pe_int (fun _ _ => rfl))) (blkOk_by (N := N_Lneeds) (sc := defScope s_Lneeds) (by decide +kernel)) (fun _ _ _ _ _ => (pg_name (i := 6) nd rfl (by first | exact Or.inl rfl | exact Or.inr rfl))) (fun _ _ _ _ _ => pts_nil) (fun _ _ _ _ _ => (pe_go C_Lless hr (by decide) rfl (pa_cons (pv 6) (pa_cons (pv 5) pa_nil))))) pa_nil)))))) pss_nil))) (pss_one (ps_ret (pe_go C_Lleast hr (by decide) rfl (pa_cons (pe_sortedSet hr rfl rfl (T.free 68) rfl (T.free 69) (pv 3)) pa_nil)))))), ?_⟩
  rintro ds d ⟨T, a, rfl, V, ha, rfl⟩
  refine bl_seq (sm_parOwn (i := 2) (m := 3) (x := tTri (rowF T a)) (ev_call (ea_cons (ev_get rfl) (ea_cons (ev_get rfl) ea_nil)) ⟨_, _, rfl, ha, rfl⟩) (by show 3 < 7; decide)) ?_
  have bd := V.foundLlen a
  refine bl_seq (sm_forOwn (xs := T) (enc := tTri) (js := [4]) (fun t => (if t.h = a then [] else (fallsL T (rowF T a) t).flatMap fun d => t.lots.map fun b => lessF b d).map tS) 3 [] (envW := [some (tT T), some (tN a), some (tTri (rowF T a)), none, none, none, none]) (env4 := fun t => [some (tT T), some (tN a), some (tTri (rowF T a)), none, some (tTri t), none, none]) (env5 := fun t => [some (tT T), some (tN a), some (tTri (rowF T a)), none, some (tTri t), none, none]) (src_tup (ev_get rfl)) (.s (.s (.s (.n (.n (.n (.n .nil))))))) ?_ ?_) ?_
  · rw [List.length_nil, ← List.map_flatMap, List.length_map]
    unfold foundL at bd
    omega
  · intro t ht
    refine ⟨gt_name, by decide, fun acc hacc => ?_, .s (.s (.s (.n (.n (.n (.n .nil))))))⟩
    refine sm_if (b := !decide (t.h = a)) ?_ (fun h => ?_) (fun h => ?_)
    · apply et_is
      case h => repeat' (first | decide | apply ev_and | apply ev_or | apply et_and | apply et_or | (with_reducible intro x hx) | (with_reducible intro hp) | exact ev_get rfl | exact ev_bl | exact ev_non | exact ev_int (by decide) | exact ev_str (by decide) | exact ea_nil | apply ea_cons | apply ev_op | apply ev_cb | apply ev_call | apply ev_tup | apply ev_lst | apply et_test | apply et_B | exact et_yes | apply et_not | apply ev_lc0 | apply ev_lc | apply src_tup | apply src_list | exact gt_name | apply gt_tup | apply gts_cons | exact gts_nil | exact in_tS _ _ | exact in_lS _ _ | exact nin_tS _ _ | exact in_tSS _ _ | exact eq_tN _ _ | exact ne_tN _ _ | exact eq_tS _ _ | exact ne_tS _ _ | exact eq_int _ _ | exact lt_tN _ _ | exact le_tN _ _ | exact lt_tS _ _ | exact all_map _ _ | exact any_map _ _ | exact tup_lst _ | exact len_lst _ | exact len_tup _ | exact ix_h | exact ix_l | exact ix_f | exact ix_p0 | exact ix_p1 | exact isn_none | exact le_int _ _ | exact gt_int _ _ | apply src_zipT | apply ev_slFromT | exact ev_n1 | exact ev_n3 | exact ev_n4 | apply ev_isiStr | apply ev_isiTup | apply src_str | decide | exact rfl)
      rfl
    · have hne : ¬ t.h = a := by simpa using h
      rw [if_neg hne] at hacc ⊢
      rw [List.map_flatMap] at hacc ⊢
      refine sm_weak (sm_forOwn (xs := fallsL T (rowF T a) t) (enc := tS) (js := [5]) (fun d => (t.lots.map fun b => lessF b d).map tS) 3 acc (envW := [some (tT T), some (tN a), some (tTri (rowF T a)), none, some (tTri t), none, none]) (env4 := fun d => [some (tT T), some (tN a), some (tTri (rowF T a)), none, some (tTri t), some (tS d), none]) (env5 := fun d => [some (tT T), some (tN a), some (tTri (rowF T a)), none, some (tTri t), some (tS d), none]) (src_list ?_) (.s (.s (.s (.n (.s (.n (.n .nil))))))) hacc ?_) (.s (.s (.s (.n (.s (.n (.n .nil)))))))
      · exact ev_call (ea_cons (ev_get rfl) (ea_cons (ev_get rfl) (ea_cons (ev_get rfl) ea_nil))) ⟨_, _, _, rfl, V, rfl⟩
      · intro d hd
        refine ⟨gt_name, by decide, fun acc2 hacc2 => ?_, .s (.s (.s (.n (.s (.n (.n .nil))))))⟩
        refine sm_ext (es := (t.lots.map fun b => lessF b d).map tS) ?_ hacc2
        apply ev_is
        case h => repeat' (first | exact ⟨_, _, rfl, rfl⟩ | decide | apply ev_and | apply ev_or | apply et_and | apply et_or | (with_reducible intro x hx) | (with_reducible intro hp) | exact ev_get rfl | exact ev_bl | exact ev_non | exact ev_int (by decide) | exact ev_str (by decide) | exact ea_nil | apply ea_cons | apply ev_op | apply ev_cb | apply ev_call | apply ev_tup | apply ev_lst | apply et_test | apply et_B | exact et_yes | apply et_not | apply ev_lc0 | apply ev_lc | apply src_tup | apply src_list | exact gt_name | apply gt_tup | apply gts_cons | exact gts_nil | exact in_tS _ _ | exact in_lS _ _ | exact nin_tS _ _ | exact in_tSS _ _ | exact eq_tN _ _ | exact ne_tN _ _ | exact eq_tS _ _ | exact ne_tS _ _ | exact eq_int _ _ | exact lt_tN _ _ | exact le_tN _ _ | exact lt_tS _ _ | exact all_map _ _ | exact any_map _ _ | exact tup_lst _ | exact len_lst _ | exact len_tup _ | exact ix_h | exact ix_l | exact ix_f | exact ix_p0 | exact ix_p1 | exact isn_none | exact le_int _ _ | exact gt_int _ _ | apply src_zipT | apply ev_slFromT | exact ev_n1 | exact ev_n3 | exact ev_n4 | apply ev_isiStr | apply ev_isiTup | apply src_str | decide | exact rfl)
        rw [List.map_map]
        rfl
    · have he : t.h = a := by simpa using h
      rw [if_pos he, List.map_nil, List.append_nil]
      exact sm_next
  · rw [List.nil_append, ← List.map_flatMap]
    refine bl_freeze ?_ (by rw [List.length_map]; unfold foundL at bd; omega)
    obtain ⟨U, hU, hin⟩ := (V.fewFoundL (a := a)).U
    exact bl_ret (ev_call (ea_cons (ev_srtSet (ss := foundL T a) (.inl (ev_get rfl)) U hU hin) ea_nil) ⟨_, rfl, V.fewCanL, rfl⟩)
def R_Lthree (ds : List D) (d : D) : Prop := ∃ (b : Bool), ds = [.bool b] ∧ d = tT (threeT b)
theorem ok_Lthree (T : Tx K mg) : Ok P w K mg base 1 "_law_three" ["_law_fears"] [] (spR R_Lthree) := by
  refine ok_pure T d_Lthree 52 52 rfl rfl rfl rfl rfl sc_Lthree (fun _ _ _ _ _ _ us hl => match us, hl with | [_], _ => rfl) ?_ ?_
  · rintro ds d ⟨b, rfl, rfl⟩; rfl
  intro cdv A outer s H E hr
  have nd := sc_Lthree.nd
  refine ⟨_, (pss_cons (ps_par (i := 1) (j := 2) rfl nd rfl rfl (by decide) rfl rfl (pa_cons (pe_tup (pa_cons (pe_tup (pa_cons pe_str (pa_cons pe_str pa_nil))) (pa_cons (pe_tup (pa_cons pe_str (pa_cons pe_str pa_nil))) (pa_cons (pe_tup (pa_cons pe_str (pa_cons pe_str pa_nil))) pa_nil)))) (pa_cons (pe_lst pa_nil) pa_nil)) (by with_unfolding_all rfl)) (pss_cons (ps_for PassesOwn.never rfl (pi_str pe_str) (pg_name (i := 3) nd rfl (by first | exact Or.inl rfl | exact Or.inr rfl)) (pss_cons (ps_set (i := 4) nd rfl (by first | exact Or.inl rfl | exact Or.inr rfl) (pe_callTy call_tuple' rfl (T.free 65) boot_tuple (pa_cons (pe_lc (own := [("_law_y", 5)]) (g := (gName 5)) (wi := (iStr (tC (.str "abc")))) (tt := (tTest (tOp (rD2 RNe) (tVar 5) (tVar 3)))) (te := (tTup (tCons (tVar 5) tNil))) rfl nd (pi_str pe_str) (blkOk_by (N := N_Lthree) (sc := defScope s_Lthree) (by decide +kernel)) (fun _ _ _ _ _ => (pg_name (i := 5) nd rfl (by first | exact Or.inl rfl | exact Or.inr rfl))) (fun _ _ _ _ _ => (pts_one (pt_cmpR (op_ne' (hu64 hr)) (pv 5) (pv 3) (nomark _)))) (fun _ _ _ _ _ => (pe_tup (pa_cons (pv 5) pa_nil)))) pa_nil))) (pss_one (ps_expr (pe_bm PySem.F.plainAttrs_list PySem.F.slot_list_append PySem.F.type_list_append mt_append (pv 2) (pa_cons (pe_tup (pa_cons (pv 3) (pa_cons (pv 1) (pa_cons (pe_ifExp (pt_val (pv 0)) (pv 4) (pe_tup (pa_cons (pe_tup pa_nil) pa_nil))) pa_nil)))) pa_nil)))))) (pss_one (ps_ret (pe_callTy call_tuple' rfl (T.free 65) boot_tuple (pa_cons (pv 2) pa_nil)))))), ?_⟩
  rintro ds d ⟨b, rfl, rfl⟩
  refine bl_seq (sm_parOwn (i := 1) (m := 2) (x := tSS [[0, 3], [0, 4], [3, 4]]) ?_ (by show 2 < 6; decide)) ?_
  · apply ev_is
    case h => repeat' (first | decide | apply ev_and | apply ev_or | apply et_and | apply et_or | (with_reducible intro x hx) | (with_reducible intro hp) | exact ev_get rfl | exact ev_bl | exact ev_non | exact ev_int (by decide) | exact ev_str (by decide) | exact ea_nil | apply ea_cons | apply ev_op | apply ev_cb | apply ev_call | apply ev_tup | apply ev_lst | apply et_test | apply et_B | exact et_yes | apply et_not | apply ev_lc0 | apply ev_lc | apply src_tup | apply src_list | exact gt_name | apply gt_tup | apply gts_cons | exact gts_nil | exact in_tS _ _ | exact in_lS _ _ | exact nin_tS _ _ | exact in_tSS _ _ | exact eq_tN _ _ | exact ne_tN _ _ | exact eq_tS _ _ | exact ne_tS _ _ | exact eq_int _ _ | exact lt_tN _ _ | exact le_tN _ _ | exact lt_tS _ _ | exact all_map _ _ | exact any_map _ _ | exact tup_lst _ | exact len_lst _ | exact len_tup _ | exact ix_h | exact ix_l | exact ix_f | exact ix_p0 | exact ix_p1 | exact isn_none | exact le_int _ _ | exact gt_int _ _ | apply src_zipT | apply ev_slFromT | exact ev_n1 | exact ev_n3 | exact ev_n4 | apply ev_isiStr | apply ev_isiTup | apply src_str | decide | exact rfl)
    rfl
  refine bl_seq (sm_forOwn (xs := ([0, 3, 4] : Sx)) (enc := tN) (js := [3]) (fun x => [tTri ⟨x, [[0, 3], [0, 4], [3, 4]], if b then (([0, 3, 4] : Sx).filter fun y => !decide (y = x)).map fun y => [y] else [[]]⟩]) 2 [] (envW := [some (.bool b), some (tSS [[0, 3], [0, 4], [3, 4]]), none, none, none, none]) (env4 := fun x => [some (.bool b), some (tSS [[0, 3], [0, 4], [3, 4]]), none, some (tN x), none, none]) (env5 := fun x => [some (.bool b), some (tSS [[0, 3], [0, 4], [3, 4]]), none, some (tN x), some (tSS ((([0, 3, 4] : Sx).filter fun y => !decide (y = x)).map fun y => [y])), none]) src_abc (.s (.s (.n (.n (.n (.n .nil)))))) (by show 3 ≤ 100000; decide) ?_) ?_
  · intro x hx
    refine ⟨gt_name, by decide, fun acc hacc => ?_, .s (.s (.n (.n (.n (.n .nil)))))⟩
    refine sm_seq (sm_set (x := tSS ((([0, 3, 4] : Sx).filter fun y => !decide (y = x)).map fun y => [y])) ?_ (by show 2 ∉ [4]; decide)) ?_
    · apply ev_is
      case h =>
        refine ev_cb (ea_cons (d := .list ((([0, 3, 4] : Sx).filter fun y => !decide (y = x)).map fun y => tS [y])) ?_ ea_nil) (tup_lst _)
        refine ev_lc (xs := ([0, 3, 4] : Sx)) (enc := tN) (fun y => !decide (y = x)) (fun y => tS [y]) src_abc (fun y hy => gt_name) (by decide) (fun y hy => et_test (ev_op (ev_get rfl) (ev_get rfl) (ne_tN y x))) (fun y hy _ => ?_)
        exact ev_tup (ea_cons (ev_get rfl) ea_nil) (by show 1 ≤ 100000; decide)
      unfold tSS
      rw [List.map_map]
      rfl
    · refine sm_app (x := tTri ⟨x, [[0, 3], [0, 4], [3, 4]], if b then (([0, 3, 4] : Sx).filter fun y => !decide (y = x)).map fun y => [y] else [[]]⟩) ?_ hacc
      refine ev_tup (ea_cons (ev_get rfl) (ea_cons (ev_get rfl) (ea_cons (ev_if (x := b) (et_B (ev_get rfl)) (fun h => ?_) (fun h => ?_)) ea_nil))) (by show 3 ≤ 100000; decide)
      · subst h
        exact ev_get rfl
      · subst h
        exact ev_tup (ea_cons (ev_tup ea_nil (by decide)) ea_nil) (by show 1 ≤ 100000; decide)
  · refine bl_freeze ?_ (by show 3 ≤ 100000; decide)
    exact bl_ret (ev_cb (ea_cons (ev_get rfl) ea_nil) (tup_lst _))
def R_Lfour_houses (ds : List D) (d : D) : Prop := ds = [] ∧ d = tT fourT
theorem ok_Lfour_houses (T : Tx K mg) : Ok P w K mg base 1 "_law_four_houses" [] [] (spR R_Lfour_houses) := by
  refine ok_pure T d_Lfour_houses 53 53 rfl rfl rfl rfl rfl sc_Lfour_houses (fun _ _ _ _ _ _ us hl => match us, hl with | [], _ => rfl) ?_ ?_
  · rintro ds d ⟨rfl, rfl⟩; rfl
  intro cdv A outer s H E hr
  have nd := sc_Lfour_houses.nd
  refine ⟨_, (pss_cons (ps_par (i := 0) (j := 1) rfl nd rfl rfl (by decide) rfl rfl (pa_cons (pe_tup (pa_cons (pe_tup (pa_cons pe_str (pa_cons pe_str (pa_cons pe_str pa_nil)))) (pa_cons (pe_tup (pa_cons pe_str (pa_cons pe_str (pa_cons pe_str pa_nil)))) (pa_cons (pe_tup (pa_cons pe_str (pa_cons pe_str (pa_cons pe_str pa_nil)))) (pa_cons (pe_tup (pa_cons pe_str (pa_cons pe_str (pa_cons pe_str pa_nil)))) pa_nil))))) (pa_cons (pe_lst pa_nil) pa_nil)) (by with_unfolding_all rfl)) (pss_cons (ps_for PassesOwn.never rfl (pi_str pe_str) (pg_name (i := 2) nd rfl (by first | exact Or.inl rfl | exact Or.inr rfl)) (pss_one (ps_expr (pe_bm PySem.F.plainAttrs_list PySem.F.slot_list_append PySem.F.type_list_append mt_append (pv 1) (pa_cons (pe_tup (pa_cons (pv 2) (pa_cons (pv 0) (pa_cons (pe_callTy call_tuple' rfl (T.free 65) boot_tuple (pa_cons (pe_lc (own := [("_law_y", 3)]) (g := (gName 3)) (wi := (iStr (tC (.str "abcd")))) (tt := (tTest (tOp (rD2 RNe) (tVar 3) (tVar 2)))) (te := (tTup (tCons (tVar 3) tNil))) rfl nd (pi_str pe_str) (blkOk_by (N := N_Lfour_houses) (sc := defScope s_Lfour_houses) (by decide +kernel)) (fun _ _ _ _ _ => (pg_name (i := 3) nd rfl (by first | exact Or.inl rfl | exact Or.inr rfl))) (fun _ _ _ _ _ => (pts_one (pt_cmpR (op_ne' (hu64 hr)) (pv 3) (pv 2) (nomark _)))) (fun _ _ _ _ _ => (pe_tup (pa_cons (pv 3) pa_nil)))) pa_nil)) pa_nil)))) pa_nil))))) (pss_one (ps_ret (pe_callTy call_tuple' rfl (T.free 65) boot_tuple (pa_cons (pv 1) pa_nil)))))), ?_⟩
  rintro ds d ⟨rfl, rfl⟩
  refine bl_seq (sm_parOwn (i := 0) (m := 1) (x := tSS [[0, 3, 4], [0, 3, 5], [0, 4, 5], [3, 4, 5]]) ?_ (by show 1 < 4; decide)) ?_
  · apply ev_is
    case h => repeat' (first | decide | apply ev_and | apply ev_or | apply et_and | apply et_or | (with_reducible intro x hx) | (with_reducible intro hp) | exact ev_get rfl | exact ev_bl | exact ev_non | exact ev_int (by decide) | exact ev_str (by decide) | exact ea_nil | apply ea_cons | apply ev_op | apply ev_cb | apply ev_call | apply ev_tup | apply ev_lst | apply et_test | apply et_B | exact et_yes | apply et_not | apply ev_lc0 | apply ev_lc | apply src_tup | apply src_list | exact gt_name | apply gt_tup | apply gts_cons | exact gts_nil | exact in_tS _ _ | exact in_lS _ _ | exact nin_tS _ _ | exact in_tSS _ _ | exact eq_tN _ _ | exact ne_tN _ _ | exact eq_tS _ _ | exact ne_tS _ _ | exact eq_int _ _ | exact lt_tN _ _ | exact le_tN _ _ | exact lt_tS _ _ | exact all_map _ _ | exact any_map _ _ | exact tup_lst _ | exact len_lst _ | exact len_tup _ | exact ix_h | exact ix_l | exact ix_f | exact ix_p0 | exact ix_p1 | exact isn_none | exact le_int _ _ | exact gt_int _ _ | apply src_zipT | apply ev_slFromT | exact ev_n1 | exact ev_n3 | exact ev_n4 | apply ev_isiStr | apply ev_isiTup | apply src_str | decide | exact rfl)
    rfl
  refine bl_seq (sm_forOwn (xs := ([0, 3, 4, 5] : Sx)) (enc := tN) (js := [2]) (fun x => [tTri ⟨x, [[0, 3, 4], [0, 3, 5], [0, 4, 5], [3, 4, 5]], (([0, 3, 4, 5] : Sx).filter fun y => !decide (y = x)).map fun y => [y]⟩]) 1 [] (envW := [some (tSS [[0, 3, 4], [0, 3, 5], [0, 4, 5], [3, 4, 5]]), none, none, none]) (env4 := fun x => [some (tSS [[0, 3, 4], [0, 3, 5], [0, 4, 5], [3, 4, 5]]), none, some (tN x), none]) (env5 := fun x => [some (tSS [[0, 3, 4], [0, 3, 5], [0, 4, 5], [3, 4, 5]]), none, some (tN x), none]) src_abcd (.s (.n (.n (.n .nil)))) (by show 4 ≤ 100000; decide) ?_) ?_
  · intro x hx
    refine ⟨gt_name, by decide, fun acc hacc => ?_, .s (.n (.n (.n .nil)))⟩
    refine sm_app (x := tTri ⟨x, [[0, 3, 4], [0, 3, 5], [0, 4, 5], [3, 4, 5]], (([0, 3, 4, 5] : Sx).filter fun y => !decide (y = x)).map fun y => [y]⟩) ?_ hacc
    refine ev_tup (ea_cons (d := tN x) (ev_get rfl) (ea_cons (d := tSS [[0, 3, 4], [0, 3, 5], [0, 4, 5], [3, 4, 5]]) (ev_get rfl) (ea_cons (d := tSS ((([0, 3, 4, 5] : Sx).filter fun y => !decide (y = x)).map fun y => [y])) ?_ ea_nil))) (by show 3 ≤ 100000; decide)
    apply ev_is
    case h =>
      refine ev_cb (ea_cons (d := .list ((([0, 3, 4, 5] : Sx).filter fun y => !decide (y = x)).map fun y => tS [y])) ?_ ea_nil) (tup_lst _)
      refine ev_lc (xs := ([0, 3, 4, 5] : Sx)) (enc := tN) (fun y => !decide (y = x)) (fun y => tS [y]) src_abcd (fun y hy => gt_name) (by decide) (fun y hy => et_test (ev_op (ev_get rfl) (ev_get rfl) (ne_tN y x))) (fun y hy _ => ?_)
      exact ev_tup (ea_cons (ev_get rfl) ea_nil) (by show 1 ≤ 100000; decide)
    unfold tSS
    rw [List.map_map]
    rfl
  · refine bl_freeze ?_ (by show 4 ≤ 100000; decide)
    exact bl_ret (ev_cb (ea_cons (ev_get rfl) ea_nil) (tup_lst _))
def R_Llone (ds : List D) (d : D) : Prop := ds = [] ∧ d = tT loneT
theorem ok_Llone (T : Tx K mg) : Ok P w K mg base 1 "_law_lone" [] [] (spR R_Llone) := by
  refine ok_pure T d_Llone 54 54 rfl rfl rfl rfl rfl sc_Llone (fun _ _ _ _ _ _ us hl => match us, hl with | [], _ => rfl) ?_ ?_
  · rintro ds d ⟨rfl, rfl⟩; rfl
  intro cdv A outer s H E hr
  have nd := sc_Llone.nd
  refine ⟨_, (pss_one (ps_ret (pe_tup (pa_cons (pe_tup (pa_cons pe_str (pa_cons (pe_tup (pa_cons (pe_tup (pa_cons pe_str pa_nil)) pa_nil)) (pa_cons (pe_tup (pa_cons (pe_tup (pa_cons pe_str pa_nil)) pa_nil)) pa_nil)))) (pa_cons (pe_tup (pa_cons pe_str (pa_cons (pe_tup (pa_cons (pe_tup (pa_cons pe_str pa_nil)) pa_nil)) (pa_cons (pe_tup (pa_cons (pe_tup pa_nil) pa_nil)) pa_nil)))) pa_nil))))), ?_⟩
  rintro ds d ⟨rfl, rfl⟩
  refine bl_ret ?_
  apply ev_is
  case h => repeat' (first | (show _ ≤ 100000; decide) | apply ev_and | apply ev_or | apply et_and | apply et_or | (with_reducible intro x hx) | (with_reducible intro hp) | exact ev_get rfl | exact ev_bl | exact ev_non | exact ev_int (by decide) | exact ev_str (by decide) | exact ea_nil | apply ea_cons | apply ev_op | apply ev_cb | apply ev_call | apply ev_tup | apply ev_lst | apply et_test | apply et_B | exact et_yes | apply et_not | apply ev_lc0 | apply ev_lc | apply src_tup | apply src_list | exact gt_name | apply gt_tup | apply gts_cons | exact gts_nil | exact in_tS _ _ | exact in_lS _ _ | exact nin_tS _ _ | exact in_tSS _ _ | exact eq_tN _ _ | exact ne_tN _ _ | exact eq_tS _ _ | exact ne_tS _ _ | exact eq_int _ _ | exact lt_tN _ _ | exact le_tN _ _ | exact lt_tS _ _ | exact all_map _ _ | exact any_map _ _ | exact tup_lst _ | exact len_lst _ | exact len_tup _ | exact ix_h | exact ix_l | exact ix_f | exact ix_p0 | exact ix_p1 | exact isn_none | exact le_int _ _ | exact gt_int _ _ | apply src_zipT | apply ev_slFromT | exact ev_n1 | exact ev_n3 | exact ev_n4 | apply ev_isiStr | apply ev_isiTup | apply src_str | exact rfl)
  rfl
def R_Llamed (ds : List D) (d : D) : Prop := ds = [] ∧ d = tT lamedT
theorem ok_Llamed (T : Tx K mg) : Ok P w K mg base 1 "_law_lamed" [] [] (spR R_Llamed) := by
  refine ok_pure T d_Llamed 55 55 rfl rfl rfl rfl rfl sc_Llamed (fun _ _ _ _ _ _ us hl => match us, hl with | [], _ => rfl) ?_ ?_
  · rintro ds d ⟨rfl, rfl⟩; rfl
  intro cdv A outer s H E hr
  have nd := sc_Llamed.nd
  refine ⟨_, (pss_one (ps_ret (pe_tup (pa_cons (pe_tup (pa_cons pe_str (pa_cons (pe_tup (pa_cons (pe_tup (pa_cons pe_str pa_nil)) pa_nil)) (pa_cons (pe_tup (pa_cons (pe_tup pa_nil) pa_nil)) pa_nil)))) (pa_cons (pe_tup (pa_cons pe_str (pa_cons (pe_tup (pa_cons (pe_tup (pa_cons pe_str pa_nil)) pa_nil)) (pa_cons (pe_tup (pa_cons (pe_tup (pa_cons pe_str pa_nil)) pa_nil)) pa_nil)))) pa_nil))))), ?_⟩
  rintro ds d ⟨rfl, rfl⟩
  refine bl_ret ?_
  apply ev_is
  case h => repeat' (first | (show _ ≤ 100000; decide) | apply ev_and | apply ev_or | apply et_and | apply et_or | (with_reducible intro x hx) | (with_reducible intro hp) | exact ev_get rfl | exact ev_bl | exact ev_non | exact ev_int (by decide) | exact ev_str (by decide) | exact ea_nil | apply ea_cons | apply ev_op | apply ev_cb | apply ev_call | apply ev_tup | apply ev_lst | apply et_test | apply et_B | exact et_yes | apply et_not | apply ev_lc0 | apply ev_lc | apply src_tup | apply src_list | exact gt_name | apply gt_tup | apply gts_cons | exact gts_nil | exact in_tS _ _ | exact in_lS _ _ | exact nin_tS _ _ | exact in_tSS _ _ | exact eq_tN _ _ | exact ne_tN _ _ | exact eq_tS _ _ | exact ne_tS _ _ | exact eq_int _ _ | exact lt_tN _ _ | exact le_tN _ _ | exact lt_tS _ _ | exact all_map _ _ | exact any_map _ _ | exact tup_lst _ | exact len_lst _ | exact len_tup _ | exact ix_h | exact ix_l | exact ix_f | exact ix_p0 | exact ix_p1 | exact isn_none | exact le_int _ _ | exact gt_int _ _ | apply src_zipT | apply ev_slFromT | exact ev_n1 | exact ev_n3 | exact ev_n4 | apply ev_isiStr | apply ev_isiTup | apply src_str | exact rfl)
  rfl
end
end K16
/-! ## part Rp -/
set_option Elab.async false
set_option linter.all false
set_option maxRecDepth 100000
set_option maxHeartbeats 1000000
/-! repr of data: how long it is; _law_same -/
namespace K16
open PySem PySem.Spec PyProof.Rows L2
open Evl (Ex)
theorem sum_le {n : Nat} : ∀ {l : List Nat}, (∀ x ∈ l, x ≤ n) → l.sum ≤ l.length * n
  | [], _ => by simp
  | x :: l, h => by
    have h1 := h x List.mem_cons_self
    have h2 := sum_le (l := l) fun y hy => h y (List.mem_cons_of_mem _ hy)
    rw [List.sum_cons, List.length_cons, Nat.add_mul, Nat.one_mul]
    omega
theorem text_le : ∀ (ts : List Str) (k : Nat) (acc : Str), (textFrom k acc ts).length ≤ acc.length + (ts.map (·.length)).sum + 2 * ts.length
  | [], k, acc => by
    show acc.length ≤ _
    omega
  | t :: ts, k, acc => by
    have ih := text_le ts (k + 1) (acc ++ (if k > 0 then ", " else "" : String) ++ t)
    show (textFrom (k + 1) (acc ++ (if k > 0 then ", " else "" : String) ++ t) ts).length ≤ _
    rw [Str.length_append, Str.length_append] at ih
    have h2 : (Str.ofString (if k > 0 then ", " else "" : String)).length ≤ 2 := by
      split
      · decide
      · decide
    rw [List.map_cons, List.sum_cons, List.length_cons]
    omega
theorem shownAll_len : ∀ {xs : List D}, (PyData.shownAll xs).length = xs.length
  | [] => rfl
  | x :: xs => by rw [PyData.shownAll, List.length_cons, shownAll_len, List.length_cons]
structure Sh (n : Nat) (d : D) : Prop where
  ok : PyData.showable d = true
  le : d.shown.length ≤ n
theorem shAll {n : Nat} : ∀ {xs : List D}, (∀ x ∈ xs, Sh n x) → PyData.showableAll xs = true ∧ ∀ t ∈ PyData.shownAll xs, t.length ≤ n
  | [], _ => ⟨rfl, fun t ht => (by cases ht)⟩
  | x :: xs, h => by
    obtain ⟨h1, h2⟩ := shAll (xs := xs) fun y hy => h y (List.mem_cons_of_mem _ hy)
    have hx := h x List.mem_cons_self
    refine ⟨by rw [PyData.showableAll, hx.ok, h1]; rfl, fun t ht => ?_⟩
    rw [PyData.shownAll] at ht
    rcases List.mem_cons.mp ht with e | ht
    · rw [e]; exact hx.le
    · exact h2 t ht
theorem sh_sum {n : Nat} {xs : List D} (h : ∀ x ∈ xs, Sh n x) : ((PyData.shownAll xs).map (·.length)).sum ≤ xs.length * n := by
  have := sum_le (n := n) (l := (PyData.shownAll xs).map (·.length)) fun x hx => by
    obtain ⟨t, ht, rfl⟩ := List.mem_map.mp hx
    exact (shAll h).2 t ht
  rw [List.length_map, shownAll_len] at this
  exact this
theorem sh_lst {n : Nat} {xs : List D} (h : ∀ x ∈ xs, Sh n x) : Sh (xs.length * (n + 2) + 3) (.list xs) := by
  refine ⟨by rw [PyData.showable]; exact (shAll h).1, ?_⟩
  rw [PyData.shown]
  unfold listText
  rw [Str.length_append]
  have h1 := text_le (PyData.shownAll xs) 0 "["
  have h2 := sh_sum h
  have h3 : (Str.ofString "[").length = 1 := by decide
  have h4 : (Str.ofString "]").length = 1 := by decide
  rw [shownAll_len] at h1
  rw [Nat.mul_add]
  omega
theorem sh_tup {n : Nat} {xs : List D} (h : ∀ x ∈ xs, Sh n x) : Sh (xs.length * (n + 2) + 3) (.tuple xs) := by
  refine ⟨by rw [PyData.showable]; exact (shAll h).1, ?_⟩
  rw [PyData.shown]
  unfold tupleText
  rw [Str.length_append, Str.length_append]
  have h1 := StrLaws.join_length_le ", " (PyData.shownAll xs)
  have h2 := sh_sum h
  have h3 : (Str.ofString "(").length = 1 := by decide
  have h4 : (Str.ofString (if ((PyData.shownAll xs).length == 1) = true then ",)" else ")" : String)).length ≤ 2 := by
    split
    · decide
    · decide
  have h5 : (Str.ofString ", ").length = 2 := by decide
  rw [shownAll_len, h5] at h1
  rw [Nat.mul_add]
  omega
theorem Sh.mono {n m : Nat} {d : D} (h : Sh n d) (l : n ≤ m) : Sh m d := ⟨h.ok, Nat.le_trans h.le l⟩
theorem sh_tN : ∀ a : Nm, Sh 10 (tN a) := fun a => ⟨rfl, by revert a; decide +kernel⟩
theorem sh_map {α : Type} {f : α → D} {n : Nat} {xs : List α} (h : ∀ x ∈ xs, Sh n (f x)) : ∀ d ∈ xs.map f, Sh n d := fun d hd => by
  obtain ⟨x, hx, rfl⟩ := List.mem_map.mp hd
  exact h x hx
theorem sh_tS {s : Sx} (h : s.length ≤ 5) : Sh 63 (tS s) := (sh_tup (sh_map fun x _ => sh_tN x)).mono (by rw [List.length_map]; omega)
theorem sh_tSS {ss : List Sx} (h : ss.length ≤ 32) (h5 : ∀ s ∈ ss, s.length ≤ 5) : Sh 2100 (tSS ss) := (sh_tup (sh_map fun x hx => sh_tS (h5 x hx))).mono (by rw [List.length_map]; omega)
theorem sh_bool (b : Bool) : Sh 10 (.bool b) := ⟨rfl, by cases b <;> decide⟩
theorem sh_opt {o : Option Sx} (h : ∀ s, o = some s → s.length ≤ 5) : Sh 63 (optS o) := by
  cases o with
  | none => exact ⟨rfl, by decide⟩
  | some s => exact sh_tS (h s rfl)
/-- what _law_same compares -/
structure Repable (x : D) : Prop where
  seq : ∃ xs, x = .list xs ∨ x = .tuple xs
  sh : Sh 100000 x
  flat : Flat 10 x
theorem Repable.R {x : D} (h : Repable x) : RRepr [x] (.str x.shown) := by
  obtain ⟨xs, hx⟩ := h.seq
  exact ⟨x, xs, hx, rfl, h.sh.ok, h.flat.lay, Nat.le_trans h.flat.dp (by decide), h.sh.le, rfl⟩
def REqS (a b d : D) : Prop := ∃ s t : Str, a = .str s ∧ b = .str t ∧ d = .bool (decide (s = t))
def RNeS (a b d : D) : Prop := ∃ s t : Str, a = .str s ∧ b = .str t ∧ d = .bool (!decide (s = t))
theorem dec_str (s t : Str) : decide (V.str s = V.str t) = decide (s = t) := decide_eq_decide.mpr ⟨fun h => by injection h, fun h => by rw [h]⟩
theorem op_eqS' {X : Cx} : OpR X (compareOp .Eq) (rD2 REqS) := OpR.imp op_eq fun x y H Q ⟨G, a, b, d, ⟨s, t, ha, hb, hd⟩, e, ra, rb, q⟩ => by
  subst ha hb hd
  rw [ra.str, rb.str]
  refine ⟨rfl, ?_⟩
  rw [dec_str]
  exact q _ G H (Stp.refl e) (.of_bool _)
theorem op_neS' {X : Cx} : OpR X (compareOp .NotEq) (rD2 RNeS) := OpR.imp op_ne fun x y H Q ⟨G, a, b, d, ⟨s, t, ha, hb, hd⟩, e, ra, rb, q⟩ => by
  subst ha hb hd
  rw [ra.str, rb.str]
  refine ⟨rfl, ?_⟩
  rw [dec_str]
  exact q _ G H (Stp.refl e) (.of_bool _)
theorem hu66 {k : Nat} {A : Around} (hr : Room k A) : A.units + 66 < cLine := by have := hr.un; omega
end K16
/-! ## part Ma -/
set_option Elab.async false
set_option linter.all false
set_option maxRecDepth 100000
set_option maxHeartbeats 1000000
/-! the laws of least sets, greatest sets, needs, crossings: plain mathematics -/
namespace K16
open PySem PySem.Spec PyProof.Rows L2
theorem within_iff {a b : Sx} : withinF a b = true ↔ ∀ x ∈ a, x ∈ b := by
  unfold withinF
  rw [List.all_eq_true]
  exact ⟨fun h x hx => of_decide_eq_true (h x hx), fun h x hx => decide_eq_true (h x hx)⟩
theorem set_eq {n a b : Sx} (ha : SetOf n a) (hb : SetOf n b) (h1 : ∀ x ∈ a, x ∈ b) (h2 : ∀ x ∈ b, x ∈ a) : a = b := Ris.one ordN ha.ris hb.ris fun x => ⟨h1 x, h2 x⟩
theorem mem_leastF {ss : List Sx} {s : Sx} : s ∈ leastF ss ↔ s ∈ ss ∧ ∀ x ∈ ss, x ≠ s → ¬ ∀ y ∈ x, y ∈ s := by
  unfold leastF
  rw [List.mem_filter, canon_mem, Bool.not_eq_true', List.any_eq_false]
  refine and_congr_right fun _ => ⟨fun h x hx hne hw => h x (canon_mem.mpr hx) ?_, fun h x hx hw => ?_⟩
  · rw [Bool.and_eq_true, within_iff]
    exact ⟨by simp [hne], hw⟩
  · rw [Bool.and_eq_true, within_iff] at hw
    refine h x (canon_mem.mp hx) ?_ hw.2
    simpa using hw.1
theorem mem_greatestF {ss : List Sx} {s : Sx} : s ∈ greatestF ss ↔ s ∈ ss ∧ ∀ x ∈ ss, x ≠ s → ¬ ∀ y ∈ s, y ∈ x := by
  unfold greatestF
  rw [List.mem_filter, canon_mem, Bool.not_eq_true', List.any_eq_false]
  refine and_congr_right fun _ => ⟨fun h x hx hne hw => h x (canon_mem.mpr hx) ?_, fun h x hx hw => ?_⟩
  · rw [Bool.and_eq_true, within_iff]
    exact ⟨by simp [hne], hw⟩
  · rw [Bool.and_eq_true, within_iff] at hw
    refine h x (canon_mem.mp hx) ?_ hw.2
    simpa using hw.1
theorem mem_leastL {ss : List Sx} {s : Sx} : s ∈ leastL ss ↔ s ∈ ss ∧ ∀ x ∈ ss, x ≠ s → ¬ ∀ y ∈ x, y ∈ s := by
  unfold leastL
  rw [canon_mem, List.mem_filter, decide_eq_true_eq, List.filter_eq_nil_iff]
  refine and_congr_right fun _ => ⟨fun h x hx hne hw => h x hx ?_, fun h x hx hw => ?_⟩
  · rw [Bool.and_eq_true, within_iff]
    exact ⟨by simp [hne], hw⟩
  · rw [Bool.and_eq_true, within_iff] at hw
    refine h x hx ?_ hw.2
    simpa using hw.1
theorem leastF_ris (ss : List Sx) : RisS (leastF ss) := (canon_ris ordS ss).filter _
theorem greatestF_ris (ss : List Sx) : RisS (greatestF ss) := (canon_ris ordS ss).filter _
theorem leastL_ris (ss : List Sx) : RisS (leastL ss) := canon_ris ordS _
/-- some greatest one lies above each -/
theorem above {n : Sx} {ss : List Sx} (hn : RisN n) (h : ∀ s ∈ ss, SetOf n s) : ∀ (k : Nat) (s : Sx), s ∈ ss → n.length - s.length = k → ∃ g ∈ greatestF ss, ∀ x ∈ s, x ∈ g := by
  intro k
  induction k using Nat.strongRecOn with
  | ind k ih =>
    intro s hs hk
    rcases Classical.em (∃ x ∈ ss, x ≠ s ∧ ∀ y ∈ s, y ∈ x) with ⟨x, hx, hne, hw⟩ | c
    · have hl : s.length < x.length := by
        have sub := sub_of_ris (h x hx).ris (h s hs).ris hw
        rcases Nat.lt_or_ge s.length x.length with l | l
        · exact l
        · exact absurd (sub.eq_of_length_le l).symm hne
      have hxl := set_len hn (h x hx)
      obtain ⟨g, hg, hw2⟩ := ih (n.length - x.length) (by omega) x hx rfl
      exact ⟨g, hg, fun y hy => hw2 y (hw y hy)⟩
    · exact ⟨s, mem_greatestF.mpr ⟨hs, fun x hx hne hw => c ⟨x, hx, hne, hw⟩⟩, fun x hx => hx⟩
/-- some least one lies below each -/
theorem below {n : Sx} {ss : List Sx} (h : ∀ s ∈ ss, SetOf n s) : ∀ (k : Nat) (s : Sx), s ∈ ss → s.length = k → ∃ g ∈ leastF ss, ∀ x ∈ g, x ∈ s := by
  intro k
  induction k using Nat.strongRecOn with
  | ind k ih =>
    intro s hs hk
    rcases Classical.em (∃ x ∈ ss, x ≠ s ∧ ∀ y ∈ x, y ∈ s) with ⟨x, hx, hne, hw⟩ | c
    · have hl : x.length < s.length := by
        have sub := sub_of_ris (h s hs).ris (h x hx).ris hw
        rcases Nat.lt_or_ge x.length s.length with l | l
        · exact l
        · exact absurd (sub.eq_of_length_le l) hne
      obtain ⟨g, hg, hw2⟩ := ih x.length (by omega) x hx rfl
      exact ⟨g, hg, fun y hy => hw y (hw2 y hy)⟩
    · exact ⟨s, mem_leastF.mpr ⟨hs, fun x hx hne hw => c ⟨x, hx, hne, hw⟩⟩, fun x hx => hx⟩
/-- the least ones of A are those of B, if A lies in B and below each of B is one of A -/
theorem least_same {n : Sx} {A B : List Sx} (hB : ∀ s ∈ B, SetOf n s) (h1 : ∀ s ∈ A, s ∈ B) (h2 : ∀ b ∈ B, ∃ a ∈ A, ∀ x ∈ a, x ∈ b) (s : Sx) :
    (s ∈ A ∧ ∀ x ∈ A, x ≠ s → ¬ ∀ y ∈ x, y ∈ s) ↔ (s ∈ B ∧ ∀ x ∈ B, x ≠ s → ¬ ∀ y ∈ x, y ∈ s) := by
  constructor
  · rintro ⟨hs, hm⟩
    refine ⟨h1 s hs, fun x hx hne hw => ?_⟩
    obtain ⟨a, ha, hax⟩ := h2 x hx
    rcases Classical.em (a = s) with e | e
    · subst e
      exact hne (set_eq (hB x hx) (hB a (h1 a ha)) hw hax)
    · exact hm a ha e fun y hy => hw y (hax y hy)
  · rintro ⟨hs, hm⟩
    obtain ⟨a, ha, has⟩ := h2 s hs
    have e : a = s := by
      rcases Classical.em (a = s) with e | e
      · exact e
      · exact absurd has (hm a (h1 a ha) e)
    subst e
    exact ⟨ha, fun x hx => hm x (h1 x hx)⟩
theorem mem_less {a b : Sx} {x : Nm} : x ∈ lessF a b ↔ x ∈ a ∧ x ∉ b := by
  unfold lessF
  rw [List.mem_filter]
  simp
theorem mem_joint {a b : Sx} {x : Nm} : x ∈ jointF a b ↔ x ∈ a ∧ x ∈ b := by
  unfold jointF
  rw [List.mem_filter]
  simp
theorem safe_iff {t : Tri} {d : Sx} : safeL t d = true ↔ t.h ∉ d ∧ ∃ f ∈ t.fears, ∀ x ∈ d, x ∈ f := by
  unfold safeL
  rw [Bool.and_eq_true, List.any_eq_true]
  simp only [within_iff]
  simp
section
variable {T : Tru}
theorem VT.uniq (V : VT T) {t u : Tri} (ht : t ∈ T) (hu : u ∈ T) (e : t.h = u.h) : t = u := by
  have := List.pairwise_map.mp (V.ris.nodup ordN)
  rcases Classical.em (t = u) with c | c
  · exact c
  · exfalso
    obtain ⟨i, hi, ei⟩ := List.getElem_of_mem ht
    obtain ⟨j, hj, ej⟩ := List.getElem_of_mem hu
    have hne : i ≠ j := fun e => c (by subst e; rw [← ei, ← ej])
    rcases Nat.lt_or_gt_of_ne hne with l | l
    · exact (List.pairwise_iff_getElem.mp this i j hi hj l) (by rw [ei, ej, e])
    · exact (List.pairwise_iff_getElem.mp this j i hj hi l) (by rw [ei, ej, e])
theorem VT.row (V : VT T) {t : Tri} (ht : t ∈ T) : rowF T t.h = t := by
  have hh : t.h ∈ housesF T := List.mem_map.mpr ⟨t, ht, rfl⟩
  obtain ⟨u, _, e, hu, eh⟩ := rowF_some hh
  rw [e]
  exact V.uniq hu ht eh
theorem row_h {a : Nm} (ha : a ∈ housesF T) : (rowF T a).h = a := by
  obtain ⟨u, _, e, hu, eh⟩ := rowF_some ha
  rw [e]; exact eh
/-- a greatest fall is a fall -/
theorem VT.fall_safe (V : VT T) {a b : Nm} (ha : a ∈ housesF T) (hb : b ∈ housesF T) (hne : a ≠ b) {f : Sx} (hf : f ∈ fallsF T a b) : SetOf (housesF T) f ∧ safeL (rowF T a) f = true ∧ safeL (rowF T b) f = true := by
  refine ⟨(V.falls ha hb).2 f hf, ?_⟩
  unfold fallsF at hf
  rw [if_neg hne] at hf
  obtain ⟨one, h1, hf⟩ := List.mem_flatMap.mp (mem_greatestF.mp hf).1
  obtain ⟨late, h2, rfl⟩ := List.mem_map.mp hf
  have k1 := V.fset _ (rowF_mem ha) one h1
  have k2 := V.fset _ (rowF_mem hb) late h2
  exact ⟨safe_iff.mpr ⟨fun h => k1.2 (mem_joint.mp h).1, one, h1, fun x hx => (mem_joint.mp hx).1⟩, safe_iff.mpr ⟨fun h => k2.2 (mem_joint.mp h).2, late, h2, fun x hx => (mem_joint.mp hx).2⟩⟩
/-- each fall lies in a greatest one -/
theorem VT.fall_in (V : VT T) {a b : Nm} (ha : a ∈ housesF T) (hb : b ∈ housesF T) (hne : a ≠ b) {d : Sx} (h1 : safeL (rowF T a) d = true) (h2 : safeL (rowF T b) d = true) : ∃ f ∈ fallsF T a b, ∀ x ∈ d, x ∈ f := by
  obtain ⟨_, one, k1, w1⟩ := safe_iff.mp h1
  obtain ⟨_, late, k2, w2⟩ := safe_iff.mp h2
  have hm : jointF one late ∈ (fearsF T a).flatMap fun one => (fearsF T b).map fun late => jointF one late := List.mem_flatMap.mpr ⟨one, k1, List.mem_map.mpr ⟨late, k2, rfl⟩⟩
  obtain ⟨g, hg, hw⟩ := above V.ris (fun s hs => by
    obtain ⟨o, ho, hs⟩ := List.mem_flatMap.mp hs
    obtain ⟨l, hl, rfl⟩ := List.mem_map.mp hs
    exact (V.fset _ (rowF_mem ha) o ho).1.filter _) _ _ hm rfl
  refine ⟨g, ?_, fun x hx => hw x (mem_joint.mpr ⟨w1 x hx, w2 x hx⟩)⟩
  unfold fallsF
  rw [if_neg hne]
  exact hg
theorem mem_foundL {a : Nm} {s : Sx} : s ∈ foundL T a ↔ ∃ t ∈ T, t.h ≠ a ∧ ∃ d ∈ fallsL T (rowF T a) t, ∃ b ∈ t.lots, s = lessF b d := by
  unfold foundL
  rw [List.mem_flatMap]
  constructor
  · rintro ⟨t, ht, hs⟩
    split at hs
    · cases hs
    · next hne =>
      obtain ⟨d, hd, hs⟩ := List.mem_flatMap.mp hs
      obtain ⟨b, hb, rfl⟩ := List.mem_map.mp hs
      exact ⟨t, ht, hne, d, hd, b, hb, rfl⟩
  · rintro ⟨t, ht, hne, d, hd, b, hb, rfl⟩
    refine ⟨t, ht, ?_⟩
    rw [if_neg hne]
    exact List.mem_flatMap.mpr ⟨d, hd, List.mem_map.mpr ⟨b, hb, rfl⟩⟩
theorem mem_fallsL (V : VT T) {t u : Tri} {d : Sx} : d ∈ fallsL T t u ↔ SetOf (housesF T) d ∧ safeL t d = true ∧ safeL u d = true := by
  unfold fallsL
  rw [List.mem_filter, subsF_set V.ris, Bool.and_eq_true]
theorem VT.mem_foundF (V : VT T) {a : Nm} {s : Sx} : s ∈ foundF T a ↔ ∃ t ∈ T, t.h ≠ a ∧ ∃ f ∈ fallsF T a t.h, ∃ b ∈ t.lots, s = lessF b f := by
  unfold foundF
  rw [List.mem_flatMap]
  constructor
  · rintro ⟨p, hp, hs⟩
    split at hs
    · cases hs
    · next hne =>
      obtain ⟨f, hf, rfl⟩ := List.mem_map.mp hs
      obtain ⟨_, _, t, ht, e, hl, _⟩ := V.pair hp
      exact ⟨t, ht, by rw [e]; exact hne, f, by rw [e]; exact hf, _, hl, rfl⟩
  · rintro ⟨t, ht, hne, f, hf, b, hb, rfl⟩
    obtain ⟨k, hk, e⟩ := List.getElem_of_mem hb
    refine ⟨(t.h, k), List.mem_flatMap.mpr ⟨t, ht, List.mem_map.mpr ⟨k, List.mem_range.mpr hk, rfl⟩⟩, ?_⟩
    rw [if_neg hne]
    refine List.mem_map.mpr ⟨f, hf, ?_⟩
    have : lotF T (t.h, k) = b := by
      unfold lotF lotsF
      rw [V.row ht, List.getElem?_eq_getElem hk, e]
      rfl
    rw [this]
theorem VT.needs_same (V : VT T) {a : Nm} (ha : a ∈ housesF T) : needsF T a = needsL T a := by
  refine Ris.one ordS (leastF_ris _) (leastL_ris _) fun s => ?_
  rw [show (s ∈ needsF T a) = (s ∈ leastF (foundF T a)) from rfl, show (s ∈ needsL T a) = (s ∈ leastL (canS (foundL T a))) from rfl, mem_leastF, mem_leastL]
  refine least_same (n := housesF T) (fun s hs => V.foundLset s (canon_mem.mp hs)) (fun s hs => canon_mem.mpr ?_) (fun b hb => ?_) s
  · obtain ⟨t, ht, hne, f, hf, b, hb, rfl⟩ := V.mem_foundF.mp hs
    have hh : t.h ∈ housesF T := List.mem_map.mpr ⟨t, ht, rfl⟩
    obtain ⟨k1, k2, k3⟩ := V.fall_safe ha hh (fun e => hne e.symm) hf
    rw [V.row ht] at k3
    exact mem_foundL.mpr ⟨t, ht, hne, f, (mem_fallsL V).mpr ⟨k1, k2, k3⟩, b, hb, rfl⟩
  · obtain ⟨t, ht, hne, d, hd, l, hl, rfl⟩ := mem_foundL.mp (canon_mem.mp hb)
    obtain ⟨k1, k2, k3⟩ := (mem_fallsL V).mp hd
    have hh : t.h ∈ housesF T := List.mem_map.mpr ⟨t, ht, rfl⟩
    obtain ⟨f, hf, hw⟩ := V.fall_in ha hh (fun e => hne e.symm) k2 (by rw [V.row ht]; exact k3)
    exact ⟨lessF l f, V.mem_foundF.mpr ⟨t, ht, hne, f, hf, l, hl, rfl⟩, fun x hx => mem_less.mpr ⟨(mem_less.mp hx).1, fun h => (mem_less.mp hx).2 (hw x h)⟩⟩
end
/-! ### crossings -/
def Hit (ns : List Sx) (s : Sx) : Prop := ∀ m ∈ ns, ∃ x ∈ m, x ∈ s
theorem joint_ne {a b : Sx} : jointF a b ≠ [] ↔ ∃ x ∈ a, x ∈ b := by
  constructor
  · intro h
    obtain ⟨x, hx⟩ := List.exists_mem_of_ne_nil _ h
    exact ⟨x, (mem_joint.mp hx).1, (mem_joint.mp hx).2⟩
  · rintro ⟨x, h1, h2⟩ e
    have : x ∈ jointF a b := mem_joint.mpr ⟨h1, h2⟩
    rw [e] at this
    cases this
theorem mem_stepF {need s : Sx} {found : List Sx} : s ∈ stepF need found ↔ ∃ lot ∈ found, (jointF need lot = [] ∧ ∃ h ∈ need, s = srtN (lot ++ [h])) ∨ (jointF need lot ≠ [] ∧ s = lot) := by
  unfold stepF
  rw [List.mem_flatMap]
  refine ⟨fun ⟨lot, hl, hs⟩ => ⟨lot, hl, ?_⟩, fun ⟨lot, hl, hs⟩ => ⟨lot, hl, ?_⟩⟩
  · split at hs
    · next e =>
      obtain ⟨h, hh, rfl⟩ := List.mem_map.mp hs
      exact .inl ⟨e, h, hh, rfl⟩
    · next e => exact .inr ⟨e, List.mem_singleton.mp hs⟩
  · rcases hs with ⟨e, h, hh, rfl⟩ | ⟨e, rfl⟩
    · rw [if_pos e]
      exact List.mem_map.mpr ⟨h, hh, rfl⟩
    · rw [if_neg e]
      exact List.mem_singleton.mpr rfl
theorem mem_srtN {lot : Sx} {h x : Nm} : x ∈ srtN (lot ++ [h]) ↔ x ∈ lot ∨ x = h := by
  rw [srt_mem, List.mem_append, List.mem_singleton]
/-- s is a least set that meets ns -/
def LeastHit (n : Sx) (ns : List Sx) (s : Sx) : Prop := SetOf n s ∧ Hit ns s ∧ ∀ t, SetOf n t → Hit ns t → (∀ x ∈ t, x ∈ s) → t = s
theorem least_hit_below {n : Sx} {ns : List Sx} : ∀ (k : Nat) (s : Sx), s.length = k → SetOf n s → Hit ns s → ∃ m, LeastHit n ns m ∧ ∀ x ∈ m, x ∈ s := by
  intro k
  induction k using Nat.strongRecOn with
  | ind k ih =>
    intro s hk hs hh
    rcases Classical.em (∃ t, SetOf n t ∧ Hit ns t ∧ (∀ x ∈ t, x ∈ s) ∧ t ≠ s) with ⟨t, ht, hht, hw, hne⟩ | c
    · have hl : t.length < s.length := by
        have sub := sub_of_ris hs.ris ht.ris hw
        rcases Nat.lt_or_ge t.length s.length with l | l
        · exact l
        · exact absurd (sub.eq_of_length_le l) hne
      obtain ⟨m, hm, hw2⟩ := ih t.length (by omega) t rfl ht hht
      exact ⟨m, hm, fun x hx => hw x (hw2 x hx)⟩
    · refine ⟨s, ⟨hs, hh, fun t ht hht hw => ?_⟩, fun x hx => hx⟩
      rcases Classical.em (t = s) with e | e
      · exact e
      · exact absurd ⟨t, ht, hht, hw, e⟩ c
theorem crossF_least {n : Sx} {ns : List Sx} (N : Needs n ns) : ∀ i, i ≤ ns.length → ∀ s, s ∈ crossF (ns.take i) ↔ LeastHit n (ns.take i) s
  | 0, _, s => by
    rw [List.take_zero]
    show s ∈ [[]] ↔ _
    rw [List.mem_singleton]
    have e0 : SetOf n ([] : Sx) := ⟨.nil, fun x hx => (by cases hx)⟩
    constructor
    · intro e
      subst e
      exact ⟨e0, (fun m hm => by cases hm), fun t ht _ hw => by
        cases t with
        | nil => rfl
        | cons x t => exact absurd (hw x List.mem_cons_self) (by simp)⟩
    · intro h
      exact (h.2.2 [] e0 (fun m hm => by cases hm) (fun x hx => by cases hx)).symm
  | i + 1, hi, s => by
    have hlt : i < ns.length := by omega
    have hx : ns[i]? = some ns[i] := List.getElem?_eq_getElem hlt
    have hneed : SetOf n ns[i] := N.sub _ (List.getElem_mem hlt)
    have ih := crossF_least N i (by omega)
    have ok := (crossF_ok N i (by omega)).1
    have tk : ns.take (i + 1) = ns.take i ++ [ns[i]] := by rw [List.take_succ, hx] <;> rfl
    rw [crossF_next hx, tk]
    generalize ns[i] = need at hneed
    generalize ns.take i = ms at ih ok
    generalize crossF ms = found at ih ok
    have hit2 : ∀ t, Hit (ms ++ [need]) t ↔ Hit ms t ∧ ∃ x ∈ need, x ∈ t := fun t => by
      constructor
      · intro h
        exact ⟨fun m hm => h m (List.mem_append_left _ hm), h need (List.mem_append_right _ (List.mem_singleton.mpr rfl))⟩
      · rintro ⟨h1, h2⟩ m hm
        rcases List.mem_append.mp hm with hm | hm
        · exact h1 m hm
        · rw [List.mem_singleton.mp hm]; exact h2
    have st := step_set ok hneed
    have sthit : ∀ t ∈ stepF need found, Hit (ms ++ [need]) t := fun t ht => by
      rw [hit2]
      obtain ⟨lot, hl, (⟨e, h, hh, rfl⟩ | ⟨e, rfl⟩)⟩ := mem_stepF.mp ht
      · refine ⟨fun m hm => ?_, h, hh, mem_srtN.mpr (.inr rfl)⟩
        obtain ⟨x, hx, hx2⟩ := ((ih lot).mp hl).2.1 m hm
        exact ⟨x, hx, mem_srtN.mpr (.inl hx2)⟩
      · exact ⟨((ih t).mp hl).2.1, joint_ne.mp e⟩
    have under : ∀ t, SetOf n t → Hit (ms ++ [need]) t → ∃ m ∈ stepF need found, ∀ x ∈ m, x ∈ t := fun t ht hh => by
      obtain ⟨h1, h, hn, ht2⟩ := (hit2 t).mp hh
      obtain ⟨lot, hl, hw⟩ := least_hit_below (n := n) (ns := ms) _ t rfl ht h1
      have hlf := (ih lot).mpr hl
      rcases Classical.em (jointF need lot = []) with e | e
      · refine ⟨srtN (lot ++ [h]), mem_stepF.mpr ⟨lot, hlf, .inl ⟨e, h, hn, rfl⟩⟩, fun x hx => ?_⟩
        rcases mem_srtN.mp hx with hx | hx
        · exact hw x hx
        · rw [hx]; exact ht2
      · exact ⟨lot, mem_stepF.mpr ⟨lot, hlf, .inr ⟨e, rfl⟩⟩, hw⟩
    rw [mem_leastF]
    constructor
    · rintro ⟨hs, hm⟩
      refine ⟨st s hs, sthit s hs, fun t ht hht hw => ?_⟩
      obtain ⟨m, hms, hmt⟩ := under t ht hht
      have e : m = s := by
        rcases Classical.em (m = s) with e | e
        · exact e
        · exact absurd (fun y hy => hw y (hmt y hy)) (hm m hms e)
      subst e
      exact set_eq ht (st m hms) hw hmt
    · rintro ⟨hs, hh, hm⟩
      obtain ⟨m, hms, hmt⟩ := under s hs hh
      have e := hm m (st m hms) (sthit m hms) hmt
      subst e
      exact ⟨hms, fun x hx hne hw => hne (hm x (st x hx) (sthit x hx) hw)⟩
theorem Needs.cross_least {n : Sx} {ns : List Sx} (N : Needs n ns) (s : Sx) : s ∈ crossF ns ↔ LeastHit n ns s := by
  have := crossF_least N ns.length (Nat.le_refl _) s
  rw [List.take_length] at this
  exact this
theorem crossF_ris : ∀ (ns : List Sx), RisS (crossF ns) := fun ns => by
  rcases List.eq_nil_or_concat ns with e | ⟨l, x, e⟩
  · subst e
    exact List.pairwise_singleton _ _
  · subst e
    rw [List.concat_eq_append]
    unfold crossF
    rw [List.foldl_append]
    exact leastF_ris _
/-- the sets of houses that meet the needs, as the law finds them -/
def metF (n : Sx) (ns : List Sx) : List Sx := (subsF n).filter fun s => decide (ns.filter (fun m => decide (lessF m s = m)) = [])
theorem less_same {m s : Sx} : lessF m s = m ↔ jointF m s = [] := by
  unfold lessF jointF
  rw [List.filter_eq_self, List.filter_eq_nil_iff]
  simp
theorem mem_metF {n : Sx} {ns : List Sx} (hn : RisN n) {s : Sx} : s ∈ metF n ns ↔ SetOf n s ∧ Hit ns s := by
  unfold metF
  rw [List.mem_filter, subsF_set hn, decide_eq_true_eq, List.filter_eq_nil_iff]
  refine and_congr_right fun _ => ⟨fun h m hm => ?_, fun h m hm e => ?_⟩
  · have := h m hm
    rw [decide_eq_true_eq, less_same] at this
    exact joint_ne.mp this
  · rw [decide_eq_true_eq, less_same] at e
    exact joint_ne.mpr (h m hm) e
theorem Needs.cross_same {n : Sx} {ns : List Sx} (N : Needs n ns) : crossF ns = leastL (metF n ns) := by
  refine Ris.one ordS (crossF_ris ns) (leastL_ris _) fun s => ?_
  rw [N.cross_least, mem_leastL, mem_metF N.ris]
  constructor
  · rintro ⟨h1, h2, h3⟩
    exact ⟨⟨h1, h2⟩, fun x hx hne hw => hne (h3 x ((mem_metF N.ris).mp hx).1 ((mem_metF N.ris).mp hx).2 hw)⟩
  · rintro ⟨⟨h1, h2⟩, h3⟩
    refine ⟨h1, h2, fun t ht hh hw => ?_⟩
    rcases Classical.em (t = s) with e | e
    · exact e
    · exact absurd hw (h3 t ((mem_metF N.ris).mpr ⟨ht, hh⟩) e)
theorem miss_head {ns : List Sx} {s : Sx} : (ns.filter fun m => decide (lessF m s = m))[0]? = missF ns s := by
  unfold missF
  have : (fun m => decide (lessF m s = m)) = fun m => decide (jointF m s = []) := by
    funext m
    exact decide_eq_decide.mpr less_same
  rw [this]
  induction ns with
  | nil => rfl
  | cons m ns ih =>
    rw [List.filter_cons, List.find?_cons]
    cases decide (jointF m s = []) with
    | true => rfl
    | false => exact ih
/-! ### fears less -/
theorem miss_none {ns : List Sx} {s : Sx} : missF ns s = none ↔ Hit ns s := by
  unfold missF
  rw [List.find?_eq_none]
  refine ⟨fun h m hm => ?_, fun h m hm e => ?_⟩
  · have := h m hm
    rw [decide_eq_true_eq] at this
    exact joint_ne.mp this
  · rw [decide_eq_true_eq] at e
    exact joint_ne.mpr (h m hm) e
/-- T' is T with fears less -/
structure Fewer (T T' : Tru) : Prop where
  hs : housesF T' = housesF T
  lots : ∀ t' ∈ T', ∃ t ∈ T, t.h = t'.h ∧ t'.lots = t.lots ∧ ∀ f ∈ t'.fears, f ∈ t.fears
theorem Fewer.hit {T T' : Tru} (F : Fewer T T') (V : VT T) (V' : VT T') {a : Nm} (ha : a ∈ housesF T) {s : Sx} (h : Hit (needsF T a) s) : Hit (needsF T' a) s := by
  have ha' : a ∈ housesF T' := by rw [F.hs]; exact ha
  intro m' hm'
  have safe : ∀ b, b ∈ housesF T → ∀ d, safeL (rowF T' b) d = true → safeL (rowF T b) d = true := fun b hb d hd => by
    have hb' : b ∈ housesF T' := by rw [F.hs]; exact hb
    obtain ⟨t, ht, e1, e2, e3⟩ := F.lots _ (rowF_mem hb')
    have eh := row_h hb'
    have : rowF T b = t := by
      have := V.row ht
      rw [e1, eh] at this
      exact this
    rw [this]
    obtain ⟨k1, f, k2, k3⟩ := safe_iff.mp hd
    exact safe_iff.mpr ⟨by rw [e1]; exact k1, f, e3 f k2, k3⟩
  obtain ⟨t', ht', hne, f, hf, b, hb, rfl⟩ := V'.mem_foundF.mp (mem_leastF.mp hm').1
  obtain ⟨t, ht, e1, e2, e3⟩ := F.lots t' ht'
  have hh' : t'.h ∈ housesF T' := List.mem_map.mpr ⟨t', ht', rfl⟩
  have hh : t'.h ∈ housesF T := by rw [← F.hs]; exact hh'
  obtain ⟨k1, k2, k3⟩ := V'.fall_safe ha' hh' (fun e => hne e.symm) hf
  obtain ⟨g, hg, hw⟩ := V.fall_in ha hh (fun e => hne e.symm) (safe a ha f k2) (safe _ hh f k3)
  have hm : lessF b g ∈ foundF T a := V.mem_foundF.mpr ⟨t, ht, by rw [e1]; exact hne, g, by rw [e1]; exact hg, b, by rw [← e2]; exact hb, rfl⟩
  obtain ⟨n, hn, h5, hset⟩ := V.fewFound (a := a)
  obtain ⟨m, hmm, hw2⟩ := below (n := n) (ss := foundF T a) hset _ _ hm rfl
  obtain ⟨x, hx, hxs⟩ := h m hmm
  have hx2 := mem_less.mp (hw2 x hx)
  exact ⟨x, mem_less.mpr ⟨hx2.1, fun hf => hx2.2 (hw x hf)⟩, hxs⟩
end K16
/-! ## part P10 -/
set_option Elab.async false
set_option linter.all false
set_option maxRecDepth 100000
set_option maxHeartbeats 1000000
namespace K16
open PySem PySem.Spec PyProof.Rows L2
open Evl (Ex)
open StX (tStar pa_star)
section
variable {P : Program} {w : World} {K : PySem.W.Frag} {mg : Str → Option Value} {base : Heap}
theorem ok_pureG {x : Str} {N ps : List Str} {k : Nat} {R : List D → D → Prop} (T : Tx K mg) (d : He.DefD) (i j : Nat) (hd : fn[i]? = some d) (hat : d.at_ = (x, none)) (hg : fa[j]? = some (.glo x)) (h0 : d.dfl = []) (h1 : d.kwd = []) (S : FnScope N ps d.scope)
    (hb : ∀ (kV doc pm : Value) (an : Option Addr) (cdv ct : Value) (us : List Value), us.length = ps.length → bindArgs (PySem.W.fnOf d.name d.qual d.params d.body d.scope .none kV doc pm an cdv ct) ⟨us, []⟩ = pure (ps.zip us))
    (len : ∀ ds d, R ds d → ds.length = ps.length)
    (body : ∀ (cdv : Value) (A : Around) (outer : List Env) (s : Shared) (H : Hp), A.guards = some [] → Room k (A.deeper (envOfC d.qual d.scope s.heap.objs.size (He.ga K x) cdv)) →
      ∃ t, PSs (cxOf CX0 P w K mg base N d.qual d.scope (He.ga K x) cdv A outer s H E0).nox d.body t ∧ ∀ ds d, R ds d → BlE t (start0 N ds) none d) : OkG P w K mg base (k + 1) x ps (spR R) :=
  okG_any T d i j hd hat hg h0 h1 S hb (fun vs H Q E h => spR_len len h) fun cdv A outer s H vs Q hgd hr hs => by
    obtain ⟨t, h1, h2⟩ := body cdv A outer s H hgd hr
    exact ⟨t, h1, run_bl h2 hs⟩
theorem flat_two {n : Nat} {a b : D} (ha : Flat n a) (hb : Flat n b) : Flat (n + 1) (.list [a, b]) := ⟨by rw [PyData.canLay0, PyData.canLayAll0, PyData.canLayAll0, PyData.canLayAll0, ha.lay, hb.lay]; rfl, by
  rw [PyData.depth, PyData.depthAll, PyData.depthAll, PyData.depthAll]
  have := ha.dp
  have := hb.dp
  omega⟩
theorem flat_bool (b : Bool) : Flat 3 (.bool b) := ⟨rfl, by simp [PyData.depth]⟩
theorem Flat.up {n m : Nat} {d : D} (h : Flat n d) (l : n ≤ m) : Flat m d := ⟨h.lay, Nat.le_trans h.dp l⟩
theorem flat_opt (o : Option Sx) : Flat 3 (optS o) := by
  cases o with
  | none => exact ⟨rfl, by simp [optS, PyData.depth]⟩
  | some s => exact (flat_tS s).up (by decide)
theorem rep_two {a b : D} (ha : Sh 2100 a) (hb : Sh 2100 b) (fa : Flat 3 a) (fb : Flat 3 b) : Repable (.list [a, b]) where
  seq := ⟨_, .inl rfl⟩
  sh := (sh_lst (n := 2100) (fun x hx => by
    rcases List.mem_cons.mp hx with e | hx
    · rw [e]; exact ha
    · rw [List.mem_singleton.mp hx]; exact hb)).mono (by show 2 * 2102 + 3 ≤ 100000; decide)
  flat := (flat_two fa fb).up (by decide)
def R_Lsame (ds : List D) (d : D) : Prop := ∃ (x y : D), ds = [x, y] ∧ Repable x ∧ x = y ∧ d = .bool true
theorem ok_Lsame (T : Tx K mg) : OkG P w K mg base 1 "_law_same" ["_law_told", "_law_due"] (spR R_Lsame) := by
  refine ok_pureG T d_Lsame 39 39 rfl rfl rfl rfl rfl sc_Lsame (fun _ _ _ _ _ _ us hl => match us, hl with | [_, _], _ => rfl) ?_ ?_
  · rintro ds d ⟨x, y, rfl, rx, rfl, rfl⟩; rfl
  intro cdv A outer s H hgd hr
  have nd := sc_Lsame.nd
  refine ⟨_, (pss_one (ps_ret (pe_cmpR op_eqS' (pe_callB (call_repr' hgd (hu66 hr)) rfl (T.free 73) boot_repr (pa_cons (pv 0) pa_nil)) (pe_callB (call_repr' hgd (hu66 hr)) rfl (T.free 73) boot_repr (pa_cons (pv 1) pa_nil)) (nomark _)))), ?_⟩
  rintro ds d ⟨x, y, rfl, rx, rfl, rfl⟩
  refine bl_ret ?_
  apply ev_is
  case h => exact ev_op (ev_cb (ea_cons (ev_get rfl) ea_nil) rx.R) (ev_cb (ea_cons (ev_get rfl) ea_nil) rx.R) ⟨_, _, rfl, rfl, rfl⟩
  simp
end
end K16
/-! ## part P11 -/
set_option Elab.async false
set_option linter.all false
set_option maxRecDepth 100000
set_option maxHeartbeats 1000000
namespace K16
open PySem PySem.Spec PyProof.Rows L2
open Evl (Ex)
open StX (tStar pa_star)
section
variable {P : Program} {w : World} {K : PySem.W.Frag} {mg : Str → Option Value} {base : Heap}
theorem flat_if {α β : Type} (p : α → Bool) (f : α → β) : ∀ l : List α, (l.flatMap fun x => if p x = true then [f x] else []) = (l.filter p).map f
  | [] => rfl
  | x :: l => by
    rw [List.flatMap_cons, flat_if p f l, List.filter_cons]
    cases p x <;> rfl
theorem sm_is {t : TS} {env env2 : En} {mu mu2 mu3 : Mu} (e : mu2 = mu3) (h : SmE t env mu env2 mu2) : SmE t env mu env2 mu3 := e ▸ h
theorem eqnilT_S (l : List Sx) : REq (tSS l) (.tuple []) (.bool (decide (l = []))) := ⟨(flat_tSS l).shp (by decide), (flat_tSS []).shp (by decide), by
  have h := eqvAll_map eqv_tS l []
  unfold tSS
  rw [PyData.eqv]
  exact congrArg PyData.bool h.symm⟩
theorem isn_opt (o : Option Sx) : RIsN (optS o) .none (.bool o.isNone) := by
  cases o <;> exact ⟨rfl, rfl⟩
theorem sh_sets {n : Sx} {ss : List Sx} (hn : RisN n) (h5 : n.length ≤ 5) (hr : RisS ss) (h : ∀ s ∈ ss, SetOf n s) : Sh 2100 (tSS ss) := sh_tSS (ris_few hn h5 (hr.nodup ordS) h) fun s hs => Nat.le_trans (set_len hn (h s hs)) h5
theorem missF_mem {ns : List Sx} {s m : Sx} (h : missF ns s = some m) : m ∈ ns := List.mem_of_find?_eq_some h
/-- what the law finds of a set: is it met, what is missed first -/
theorem miss_cases (ns : List Sx) (s : Sx) : ((ns.filter fun m => decide (lessF m s = m)) = [] ∧ missF ns s = none) ∨ ∃ m, (ns.filter fun m => decide (lessF m s = m)) ≠ [] ∧ missF ns s = some m ∧ (ns.filter fun m => decide (lessF m s = m))[0]? = some m := by
  have h := miss_head (ns := ns) (s := s)
  cases q : (ns.filter fun m => decide (lessF m s = m)) with
  | nil =>
    rw [q] at h
    exact .inl ⟨rfl, h.symm⟩
  | cons m l =>
    rw [q] at h
    exact .inr ⟨m, by simp, h.symm, rfl⟩
def R_Lis_right (ds : List D) (d : D) : Prop := ∃ (T : Tru) (a : Nm), ds = [tT T, tN a] ∧ VT T ∧ a ∈ housesF T ∧ d = .bool true
theorem ok_Lis_right (T : Tx K mg) (CR_fewest_lot : OkR P w K mg base 8 "fewest_lot" ["trust", "house"] (spR R_fewest_lot)) (CR_least_lots : OkR P w K mg base 8 "least_lots" ["trust", "house"] (spR R_least_lots)) (C_least_lots : Ok P w K mg base 8 "least_lots" ["trust", "house"] [] (spR R_least_lots)) (C_Lsame : OkG P w K mg base 1 "_law_same" ["_law_told", "_law_due"] (spR R_Lsame)) (C_fewest_lot : Ok P w K mg base 8 "fewest_lot" ["trust", "house"] [] (spR R_fewest_lot)) (C_Lleast : Ok P w K mg base 2 "_law_least" ["_law_sets"] [] (spR R_Lleast)) (C_Lsubsets : Ok P w K mg base 1 "_law_subsets" ["_law_names_here"] [] (spR R_Lsubsets)) (C_first_missed : Ok P w K mg base 8 "first_missed" ["trust", "house", "lot"] [] (spR R_first_missed)) (C_meets_needs : Ok P w K mg base 8 "meets_needs" ["trust", "house", "lot"] [] (spR R_meets_needs)) (C_Lless : Ok P w K mg base 1 "_law_less" ["_law_some_here", "_law_late"] [] (spR R_Lless)) (CR_needs_of : OkR P w K mg base 8 "needs_of" ["trust", "house"] (spR R_needs_of)) (C_needs_of : Ok P w K mg base 8 "needs_of" ["trust", "house"] [] (spR R_needs_of)) (C_Lneeds : Ok P w K mg base 4 "_law_needs" ["_law_band", "_law_x"] [] (spR R_Lneeds)) : OkG P w K mg base 9 "_law_is_right" ["_law_band", "_law_x"] (spR R_Lis_right) := by
  refine ok_pureG T d_Lis_right 57 57 rfl rfl rfl rfl rfl sc_Lis_right (fun _ _ _ _ _ _ us hl => match us, hl with | [_, _], _ => rfl) ?_ ?_
  · rintro ds d ⟨T, a, rfl, V, ha, rfl⟩; rfl
  intro cdv A outer s H hgd hr
  have nd := sc_Lis_right.nd
  refine ⟨_, (pss_cons (ps_par (i := 2) (j := 3) rfl nd rfl rfl (by decide) rfl rfl (pa_cons (pe_lc (own := [("_law_triple_here", 4)]) (g := (gName 4)) (wi := (iTup K (tVar 0))) (tt := tYes) (te := (tOp (rD2 RIx) (tVar 4) (tC (.int 0)))) rfl nd (pi_tup (pv 0)) (blkOk_by (N := N_Lis_right) (sc := defScope s_Lis_right) (by decide +kernel)) (fun _ _ _ _ _ => (pg_name (i := 4) nd rfl (by first | exact Or.inl rfl | exact Or.inr rfl))) (fun _ _ _ _ _ => pts_nil) (fun _ _ _ _ _ => (pe_ix ix' (pv 4) pe_int (fun _ _ => rfl)))) (pa_cons (pe_go C_Lneeds hr (by decide) rfl (pa_cons (pv 0) (pa_cons (pv 1) pa_nil))) pa_nil)) (by with_unfolding_all rfl)) (pss_cons (ps_if (pt_not (pt_val (pe_goG C_Lsame hr (by decide) hgd rfl (pa_cons (pe_lst (pa_cons (pe_go C_needs_of hr (by decide) rfl (pa_cons (pv 0) (pa_cons (pv 1) pa_nil))) (pa_cons (pe_goR CR_needs_of hr (by decide) rfl (pk_cons (pv 1) (pk_cons (pv 0) pk_nil))) pa_nil))) (pa_cons (pe_lst (pa_cons (pv 3) (pa_cons (pv 3) pa_nil))) pa_nil))))) pss_never pss_nil) (pss_cons (ps_set (i := 5) nd rfl (by first | exact Or.inl rfl | exact Or.inr rfl) (pe_lst pa_nil)) (pss_cons (ps_for PassesOwn.never rfl (pi_list (pe_go C_Lsubsets hr (by decide) rfl (pa_cons (pv 2) pa_nil))) (pg_name (i := 6) nd rfl (by first | exact Or.inl rfl | exact Or.inr rfl)) (pss_cons (ps_setLc (i := 7) (own := [("_law_need", 8)]) (g := (gName 8)) (wi := (iTup K (tVar 3))) (tt := (tTest (tOp (rD2 REq) (tCall (spR R_Lless) [] E0 (tCons (tVar 8) (tCons (tVar 6) tNil))) (tVar 8)))) (te := (tVar 8)) rfl nd rfl rfl (sw_true rfl rfl rfl (by decide +kernel)) (pi_tup (pv 3)) (blkOk_by (N := N_Lis_right) (sc := defScope s_Lis_right) (by decide +kernel)) (fun _ _ _ _ _ => (pg_name (i := 8) nd rfl (by first | exact Or.inl rfl | exact Or.inr rfl))) (fun _ _ _ _ _ => (pts_one (pt_cmpR (op_eq' (hu64 hr)) (pe_go C_Lless hr (by decide) rfl (pa_cons (pv 8) (pa_cons (pv 6) pa_nil))) (pv 8) (nomark _)))) (fun _ _ _ _ _ => (pv 8))) (pss_cons (ps_set (i := 9) nd rfl (by first | exact Or.inl rfl | exact Or.inr rfl) (pe_lst (pa_cons (pe_cmpR (op_eq' (hu64 hr)) (pv 7) (pe_lst pa_nil) (nomark _)) (pa_cons (pe_ifExp (pt_cmpR (op_ne' (hu64 hr)) (pv 7) (pe_lst pa_nil) (nomark _)) (pe_ix ix' (pv 7) pe_int (fun _ _ => rfl)) pe_non) pa_nil)))) (pss_cons (ps_if (pt_not (pt_val (pe_goG C_Lsame hr (by decide) hgd rfl (pa_cons (pe_lst (pa_cons (pe_go C_meets_needs hr (by decide) rfl (pa_cons (pv 0) (pa_cons (pv 1) (pa_cons (pv 6) pa_nil)))) (pa_cons (pe_go C_first_missed hr (by decide) rfl (pa_cons (pv 0) (pa_cons (pv 1) (pa_cons (pv 6) pa_nil)))) pa_nil))) (pa_cons (pe_lst (pa_cons (pe_ix ix' (pv 9) pe_int (fun _ _ => rfl)) (pa_cons (pe_ix ix' (pv 9) pe_int (fun _ _ => rfl)) pa_nil))) pa_nil))))) pss_never pss_nil) (pss_one (ps_if (pt_cmpR (op_eq' (hu64 hr)) (pv 7) (pe_lst pa_nil) (nomark _)) (pss_one (ps_expr (pe_bm PySem.F.plainAttrs_list PySem.F.slot_list_append PySem.F.type_list_append mt_append (pv 5) (pa_cons (pv 6) pa_nil)))) pss_nil)))))) (pss_cons (ps_par (i := 10) (j := 11) rfl nd rfl rfl (by decide) rfl rfl (pa_cons (pe_go C_Lleast hr (by decide) rfl (pa_cons (pv 5) pa_nil)) (pa_cons (pe_go C_fewest_lot hr (by decide) rfl (pa_cons (pv 0) (pa_cons (pv 1) pa_nil))) pa_nil)) (by with_unfolding_all rfl)) (pss_cons (ps_if (pt_not (pt_val (pe_goG C_Lsame hr (by decide) hgd rfl (pa_cons (pe_lst (pa_cons (pe_go C_least_lots hr (by decide) rfl (pa_cons (pv 0) (pa_cons (pv 1) pa_nil))) (pa_cons (pe_goR CR_least_lots hr (by decide) rfl (pk_cons (pv 1) (pk_cons (pv 0) pk_nil))) pa_nil))) (pa_cons (pe_lst (pa_cons (pv 10) (pa_cons (pv 10) pa_nil))) pa_nil))))) pss_never pss_nil) (pss_cons (ps_if (pt_cmpR (op_eq' (hu64 hr)) (pv 10) (pe_tup pa_nil) (nomark _)) (pss_one (ps_ret (pe_and (pe_cmpR op_isN' (pv 11) pe_non (nomark _)) (pe_one (pe_cmpR op_isN' (pe_goR CR_fewest_lot hr (by decide) rfl (pk_cons (pv 1) (pk_cons (pv 0) pk_nil))) pe_non (nomark _)))))) pss_nil) (pss_one (ps_ret (pe_and (pe_cmpR (op_in' (hu65 hr)) (pv 11) (pv 10) (by with_unfolding_all rfl)) (pe_one (pe_cmpR (op_eq' (hu64 hr)) (pe_callB call_len' rfl (T.free 62) boot_len (pa_cons (pv 11) pa_nil)) (pe_callB (call_min' rfl) rfl (T.free 72) boot_min (pa_cons (pe_lc (own := [("_law_some_here", 6)]) (g := (gName 6)) (wi := (iTup K (tVar 10))) (tt := tYes) (te := (tCB (rD RLen) (tCons (tVar 6) tNil))) rfl nd (pi_tup (pv 10)) (blkOk_by (N := N_Lis_right) (sc := defScope s_Lis_right) (by decide +kernel)) (fun _ _ _ _ _ => (pg_name (i := 6) nd rfl (by first | exact Or.inl rfl | exact Or.inr rfl))) (fun _ _ _ _ _ => pts_nil) (fun _ _ _ _ _ => (pe_callB call_len' rfl (T.free 62) boot_len (pa_cons (pv 6) pa_nil)))) pa_nil)) (nomark _))))))))))))), ?_⟩
  rintro ds d ⟨T, a, rfl, V, ha, rfl⟩
  have N := V.needsOk a
  have shN : Sh 2100 (tSS (needsF T a)) := sh_sets V.ris V.hlen (leastF_ris _) V.needs
  obtain ⟨cr1, cr2⟩ := N.cross
  have shC : Sh 2100 (tSS (crossF (needsF T a))) := sh_sets V.ris V.hlen (crossF_ris _) cr1
  refine bl_seq (sm_par (i := 2) (j := 3) (x := lS (housesF T)) (y := tSS (needsF T a)) ?_ trivial) ?_
  · refine ea_cons ?_ (ea_cons ?_ ea_nil)
    · apply ev_is
      case h => repeat' (first | decide | apply ev_and | apply ev_or | apply et_and | apply et_or | (with_reducible intro x hx) | (with_reducible intro hp) | exact ev_get rfl | exact ev_bl | exact ev_non | exact ev_int (by decide) | exact ev_str (by decide) | exact ea_nil | apply ea_cons | apply ev_op | apply ev_cb | apply ev_call | apply ev_tup | apply ev_lst | apply et_test | apply et_B | exact et_yes | apply et_not | apply ev_lc0 | apply ev_lc | apply src_tup | apply src_list | exact gt_name | apply gt_tup | apply gts_cons | exact gts_nil | exact in_tS _ _ | exact in_lS _ _ | exact nin_tS _ _ | exact in_tSS _ _ | exact eq_tN _ _ | exact ne_tN _ _ | exact eq_tS _ _ | exact ne_tS _ _ | exact eq_int _ _ | exact lt_tN _ _ | exact le_tN _ _ | exact lt_tS _ _ | exact all_map _ _ | exact any_map _ _ | exact tup_lst _ | exact len_lst _ | exact len_tup _ | exact ix_h | exact ix_l | exact ix_f | exact ix_p0 | exact ix_p1 | exact isn_none | exact le_int _ _ | exact gt_int _ _ | apply src_zipT | apply ev_slFromT | exact ev_n1 | exact ev_n3 | exact ev_n4 | apply ev_isiStr | apply ev_isiTup | apply src_str | decide | exact rfl)
      unfold lS housesF
      rw [List.map_map]
      rfl
    · apply ev_is
      case h => repeat' (first | exact ⟨_, _, rfl, V, ha, rfl⟩ | decide | apply ev_and | apply ev_or | apply et_and | apply et_or | (with_reducible intro x hx) | (with_reducible intro hp) | exact ev_get rfl | exact ev_bl | exact ev_non | exact ev_int (by decide) | exact ev_str (by decide) | exact ea_nil | apply ea_cons | apply ev_op | apply ev_cb | apply ev_call | apply ev_tup | apply ev_lst | apply et_test | apply et_B | exact et_yes | apply et_not | apply ev_lc0 | apply ev_lc | apply src_tup | apply src_list | exact gt_name | apply gt_tup | apply gts_cons | exact gts_nil | exact in_tS _ _ | exact in_lS _ _ | exact nin_tS _ _ | exact in_tSS _ _ | exact eq_tN _ _ | exact ne_tN _ _ | exact eq_tS _ _ | exact ne_tS _ _ | exact eq_int _ _ | exact lt_tN _ _ | exact le_tN _ _ | exact lt_tS _ _ | exact all_map _ _ | exact any_map _ _ | exact tup_lst _ | exact len_lst _ | exact len_tup _ | exact ix_h | exact ix_l | exact ix_f | exact ix_p0 | exact ix_p1 | exact isn_none | exact le_int _ _ | exact gt_int _ _ | apply src_zipT | apply ev_slFromT | exact ev_n1 | exact ev_n3 | exact ev_n4 | apply ev_isiStr | apply ev_isiTup | apply src_str | decide | exact rfl)
      rw [V.needs_same ha]
  refine bl_weak (env2 := [some (tT T), some (tN a), some (lS (housesF T)), some (tSS (needsF T a)), none, none, none, none, none, none, none, none]) ?_ (.s (.s (.s (.s (.n (.n (.n (.n (.n (.n (.n (.n .nil))))))))))))
  refine bl_seq (sm_if (env2 := [some (tT T), some (tN a), some (lS (housesF T)), some (tSS (needsF T a)), none, none, none, none, none, none, none, none]) (mu2 := none) (b := false) ?_ (fun h => absurd h (by decide)) (fun _ => sm_next)) ?_
  · refine et_is (x := !true) ?h rfl
    case h =>
      refine et_not (et_B (ev_call (ea_cons (d := .list [tSS (needsF T a), tSS (needsF T a)]) ?_ (ea_cons (d := .list [tSS (needsF T a), tSS (needsF T a)]) ?_ ea_nil)) ⟨_, _, rfl, rep_two shN shN (flat_tSS _) (flat_tSS _), rfl, rfl⟩))
      · refine ev_lst (ea_cons ?_ (ea_cons ?_ ea_nil)) (by show 2 ≤ 100000; decide)
        · exact ev_call (ea_cons (ev_get rfl) (ea_cons (ev_get rfl) ea_nil)) ⟨T, a, rfl, V, ha, rfl⟩
        · exact ev_goR (ea_cons (ev_get rfl) (ea_cons (ev_get rfl) ea_nil)) ⟨T, a, rfl, V, ha, rfl⟩
      · exact ev_lst (ea_cons (ev_get rfl) (ea_cons (ev_get rfl) ea_nil)) (by show 2 ≤ 100000; decide)
  refine bl_seq (sm_own (m := 5) (by show 5 < 12; decide)) ?_
  have sl := subsF_len V.hlen
  refine bl_seq (sm_forOwn (xs := subsF (housesF T)) (enc := tS) (js := [6]) (fun s => if decide ((needsF T a).filter (fun m => decide (lessF m s = m)) = []) = true then [tS s] else []) 5 [] (envW := [some (tT T), some (tN a), some (lS (housesF T)), some (tSS (needsF T a)), none, none, none, none, none, none, none, none]) (env4 := fun s => [some (tT T), some (tN a), some (lS (housesF T)), some (tSS (needsF T a)), none, none, some (tS s), none, none, none, none, none]) (env5 := fun s => [some (tT T), some (tN a), some (lS (housesF T)), some (tSS (needsF T a)), none, none, some (tS s), some (lSS ((needsF T a).filter fun m => decide (lessF m s = m))), none, some (.list [.bool (missF (needsF T a) s).isNone, optS (missF (needsF T a) s)]), none, none]) (src_list (ev_call (ea_cons (ev_get rfl) ea_nil) ⟨_, rfl, V.hlen, rfl⟩)) (.s (.s (.s (.s (.n (.n (.n (.n (.n (.n (.n (.n .nil)))))))))))) ?_ ?_) ?_
  · rw [flat_if]
    have := List.length_filter_le (fun s => decide ((needsF T a).filter (fun m => decide (lessF m s = m)) = [])) (subsF (housesF T))
    rw [List.length_map, List.length_nil]
    omega
  · intro s hs
    have hset := (subsF_set V.ris).mp hs
    refine ⟨gt_name, by decide, fun acc hacc => ?_, (.s (.s (.s (.s (.n (.n (.n (.n (.n (.n (.n (.n .nil))))))))))))⟩
    refine sm_seq (sm_set (i := 7) (x := lSS ((needsF T a).filter fun m => decide (lessF m s = m))) ?_ (by show 5 ∉ [7]; decide)) ?_
    · apply ev_is
      case h => repeat' (first | exact ⟨_, _, rfl, rfl⟩ | decide | apply ev_and | apply ev_or | apply et_and | apply et_or | (with_reducible intro x hx) | (with_reducible intro hp) | exact ev_get rfl | exact ev_bl | exact ev_non | exact ev_int (by decide) | exact ev_str (by decide) | exact ea_nil | apply ea_cons | apply ev_op | apply ev_cb | apply ev_call | apply ev_tup | apply ev_lst | apply et_test | apply et_B | exact et_yes | apply et_not | apply ev_lc0 | apply ev_lc | apply src_tup | apply src_list | exact gt_name | apply gt_tup | apply gts_cons | exact gts_nil | exact in_tS _ _ | exact in_lS _ _ | exact nin_tS _ _ | exact in_tSS _ _ | exact eq_tN _ _ | exact ne_tN _ _ | exact eq_tS _ _ | exact ne_tS _ _ | exact eq_int _ _ | exact lt_tN _ _ | exact le_tN _ _ | exact lt_tS _ _ | exact all_map _ _ | exact any_map _ _ | exact tup_lst _ | exact len_lst _ | exact len_tup _ | exact ix_h | exact ix_l | exact ix_f | exact ix_p0 | exact ix_p1 | exact isn_none | exact le_int _ _ | exact gt_int _ _ | apply src_zipT | apply ev_slFromT | exact ev_n1 | exact ev_n3 | exact ev_n4 | apply ev_isiStr | apply ev_isiTup | apply src_str | decide | exact rfl)
      rfl
    refine sm_seq (sm_set (i := 9) (x := .list [.bool (missF (needsF T a) s).isNone, optS (missF (needsF T a) s)]) ?_ (by show 5 ∉ [9]; decide)) ?_
    · rcases miss_cases (needsF T a) s with ⟨e1, e2⟩ | ⟨m, e1, e2, e3⟩
      · rw [e1, e2]
        refine ev_lst (ea_cons (ev_op (ev_get rfl) (ev_lst ea_nil (by decide)) (eqnil_S [])) (ea_cons ?_ ea_nil)) (by show 2 ≤ 100000; decide)
        exact ev_if (x := false) (et_is (et_test (ev_op (ev_get rfl) (ev_lst ea_nil (by decide)) (nenil_S []))) rfl) (fun h => absurd h (by decide)) (fun _ => ev_non)
      · rw [e2]
        refine ev_lst (ea_cons (ev_is (ev_op (ev_get rfl) (ev_lst ea_nil (by decide)) (eqnil_S _)) ?_) (ea_cons ?_ ea_nil)) (by show 2 ≤ 100000; decide)
        · rw [decide_eq_false e1]
          rfl
        · refine ev_if (x := true) (et_is (et_test (ev_op (ev_get rfl) (ev_lst ea_nil (by decide)) (nenil_S _))) ?_) (fun _ => ev_op (ev_get rfl) (ev_int (by decide)) (ix_first e3)) (fun h => absurd h (by decide))
          rw [decide_eq_false e1]
          rfl
    refine sm_seq (sm_if (env2 := [some (tT T), some (tN a), some (lS (housesF T)), some (tSS (needsF T a)), none, none, some (tS s), some (lSS ((needsF T a).filter fun m => decide (lessF m s = m))), none, some (.list [.bool (missF (needsF T a) s).isNone, optS (missF (needsF T a) s)]), none, none]) (mu2 := some (5, acc)) (b := false) ?_ (fun h => absurd h (by decide)) (fun _ => sm_weak sm_next (.s (.s (.s (.s (.n (.n (.s (.s (.n (.s (.n (.n .nil)))))))))))))) ?_
    · refine et_is (x := !true) ?h rfl
      case h =>
        have r2 : Repable (.list [.bool (missF (needsF T a) s).isNone, optS (missF (needsF T a) s)]) := rep_two ((sh_bool _).mono (by decide)) ((sh_opt fun m hm => Nat.le_trans (set_len V.ris (V.needs m (missF_mem hm))) V.hlen).mono (by decide)) (flat_bool _) (flat_opt _)
        refine et_not (et_B (ev_call (ea_cons (d := .list [.bool (missF (needsF T a) s).isNone, optS (missF (needsF T a) s)]) ?_ (ea_cons (d := .list [.bool (missF (needsF T a) s).isNone, optS (missF (needsF T a) s)]) ?_ ea_nil)) ⟨_, _, rfl, r2, rfl, rfl⟩))
        · refine ev_lst (ea_cons ?_ (ea_cons ?_ ea_nil)) (by show 2 ≤ 100000; decide)
          · exact ev_call (ea_cons (ev_get rfl) (ea_cons (ev_get rfl) (ea_cons (ev_get rfl) ea_nil))) ⟨T, a, s, rfl, V, ha, hset, rfl⟩
          · exact ev_call (ea_cons (ev_get rfl) (ea_cons (ev_get rfl) (ea_cons (ev_get rfl) ea_nil))) ⟨T, a, s, rfl, V, ha, hset, rfl⟩
        · exact ev_lst (ea_cons (ev_op (ev_get rfl) (ev_int (by decide)) ⟨_, 0, .inl rfl, rfl, rfl⟩) (ea_cons (ev_op (ev_get rfl) (ev_int (by decide)) ⟨_, 1, .inl rfl, rfl, rfl⟩) ea_nil)) (by show 2 ≤ 100000; decide)
    refine sm_if (b := decide ((needsF T a).filter (fun m => decide (lessF m s = m)) = [])) ?_ (fun h => ?_) (fun h => ?_)
    · exact et_test (ev_op (ev_get rfl) (ev_lst ea_nil (by decide)) (eqnil_S _))
    · rw [h] at hacc ⊢
      exact sm_app (ev_get rfl) hacc
    · rw [h]
      exact sm_is (by simp) sm_next
  rw [flat_if, List.nil_append]
  refine bl_freeze ?_ (by
    have := List.length_filter_le (fun s => decide ((needsF T a).filter (fun m => decide (lessF m s = m)) = [])) (subsF (housesF T))
    rw [List.length_map]
    omega)
  have few : Few (metF (housesF T) (needsF T a)) := ⟨_, V.ris, V.hlen, fun s hs => ((mem_metF V.ris).mp hs).1⟩
  refine bl_seq (sm_par (i := 10) (j := 11) (x := tSS (crossF (needsF T a))) (y := optS (fewF (crossF (needsF T a)))) ?_ trivial) ?_
  · refine ea_cons ?_ (ea_cons ?_ ea_nil)
    · apply ev_is
      case h => exact ev_call (ea_cons (ev_get rfl) ea_nil) ⟨metF (housesF T) (needsF T a), rfl, few, rfl⟩
      rw [N.cross_same]
    · exact ev_call (ea_cons (ev_get rfl) (ea_cons (ev_get rfl) ea_nil)) ⟨T, a, rfl, V, ha, rfl⟩
  refine bl_weak (env2 := [some (tT T), some (tN a), some (lS (housesF T)), some (tSS (needsF T a)), none, none, none, none, none, none, some (tSS (crossF (needsF T a))), some (optS (fewF (crossF (needsF T a))))]) ?_ (.s (.s (.s (.s (.n (.n (.n (.n (.n (.n (.s (.s .nil))))))))))))
  refine bl_seq (sm_if (env2 := [some (tT T), some (tN a), some (lS (housesF T)), some (tSS (needsF T a)), none, none, none, none, none, none, some (tSS (crossF (needsF T a))), some (optS (fewF (crossF (needsF T a))))]) (mu2 := none) (b := false) ?_ (fun h => absurd h (by decide)) (fun _ => sm_next)) ?_
  · refine et_is (x := !true) ?h rfl
    case h =>
      refine et_not (et_B (ev_call (ea_cons (d := .list [tSS (crossF (needsF T a)), tSS (crossF (needsF T a))]) ?_ (ea_cons (d := .list [tSS (crossF (needsF T a)), tSS (crossF (needsF T a))]) ?_ ea_nil)) ⟨_, _, rfl, rep_two shC shC (flat_tSS _) (flat_tSS _), rfl, rfl⟩))
      · refine ev_lst (ea_cons ?_ (ea_cons ?_ ea_nil)) (by show 2 ≤ 100000; decide)
        · exact ev_call (ea_cons (ev_get rfl) (ea_cons (ev_get rfl) ea_nil)) ⟨T, a, rfl, V, ha, rfl⟩
        · exact ev_goR (ea_cons (ev_get rfl) (ea_cons (ev_get rfl) ea_nil)) ⟨T, a, rfl, V, ha, rfl⟩
      · exact ev_lst (ea_cons (ev_get rfl) (ea_cons (ev_get rfl) ea_nil)) (by show 2 ≤ 100000; decide)
  refine bl_if (w := tNext) (b := decide (crossF (needsF T a) = [])) ?_ (fun h => ?_) (fun h => ?_)
  · exact et_test (ev_op (ev_get rfl) (ev_tup ea_nil (by decide)) (eqnilT_S _))
  · have e0 := of_decide_eq_true h
    have e1 : fewF (crossF (needsF T a)) = none := by rw [e0]; rfl
    refine bl_ret ?_
    apply ev_is
    case h => exact ev_and (ev_op (ev_get rfl) ev_non (isn_opt _)) (fun _ => ev_op (ev_goR (ea_cons (ev_get rfl) (ea_cons (ev_get rfl) ea_nil)) ⟨T, a, rfl, V, ha, rfl⟩) ev_non (isn_opt _))
    rw [e1]
    rfl
  · have hne := of_decide_eq_false h
    have c5 : ∀ l ∈ crossF (needsF T a), l.length ≤ 5 := fun l hl => Nat.le_trans (set_len V.ris (cr1 l hl)) V.hlen
    obtain ⟨l, e1, hl, e2⟩ := fewF_some hne
    rw [e1]
    refine bl_ret ?_
    apply ev_is
    case h =>
      refine ev_and (ev_op (ev_get rfl) (ev_get rfl) (in_tSS l _)) (fun _ => ev_op (ev_cb (ea_cons (ev_get rfl) ea_nil) (len_tup (l.map tN))) (ev_cb (ea_cons ?_ ea_nil) (min_lens hne c5)) (eq_int _ _))
      refine ev_lc0 (xs := crossF (needsF T a)) (enc := tS) (fun l => .int (((l.map tN).length : Nat) : Int)) (src_tup (ev_get rfl)) (fun x hx => gt_name) (by decide) (fun x hx => ev_cb (ea_cons (ev_get rfl) ea_nil) (len_tup (x.map tN)))
    rw [decide_eq_true hl, List.length_map, e2]
    simp
end
end K16
/-! ## part P12 -/
set_option Elab.async false
set_option linter.all false
set_option maxRecDepth 100000
set_option maxHeartbeats 1000000
namespace K16
open PySem PySem.Spec PyProof.Rows L2
open Evl (Ex)
open StX (tStar pa_star)
section
variable {P : Program} {w : World} {K : PySem.W.Frag} {mg : Str → Option Value} {base : Heap}
def fdk (c : Addr) (s r t : Int) : List (Key × V) := [(.inr "cells", .ref c), (.inr "spot", .int s), (.inr "rest", .int r), (.inr "turn", .int t)]
/-- the feed at p: its cells at c -/
structure FdAt (H : Hp) (p c : Addr) (ns : List Int) (s r t : Int) : Prop where
  at_ : H p = some (.dK (fdk c s r t))
  cells : H c = some (.lst (ns.map V.int))
  len : ns.length ≤ 61
section
variable {H : Hp} {p c : Addr} {ns : List Int} {s r t : Int}
theorem FdAt.ne (F : FdAt H p c ns s r t) : c ≠ p := fun e => by
  have h1 := F.at_
  have h2 := F.cells
  rw [e, h1] at h2
  cases h2
theorem FdAt.turn (F : FdAt H p c ns s r t) : DGet H p (.str "turn") (some (.int t)) := DGet.k (k := .inr "turn") F.at_
theorem FdAt.rest (F : FdAt H p c ns s r t) : DGet H p (.str "rest") (some (.int r)) := DGet.k (k := .inr "rest") F.at_
theorem FdAt.spot (F : FdAt H p c ns s r t) : DGet H p (.str "spot") (some (.int s)) := DGet.k (k := .inr "spot") F.at_
theorem FdAt.cell (F : FdAt H p c ns s r t) : DGet H p (.str "cells") (some (.ref c)) := DGet.k (k := .inr "cells") F.at_
theorem fsz : ([] : List Nat).length < sizeLine := by decide
theorem FdAt.putTurn (F : FdAt H p c ns s r t) (x : Int) : DPut H p (.str "turn") (.int x) (upd H p (.dK (fdk c s r x))) := DPut.k (k := .inr "turn") F.at_ (by show 4 < sizeLine; decide)
theorem FdAt.putRest (F : FdAt H p c ns s r t) (x : Int) : DPut H p (.str "rest") (.int x) (upd H p (.dK (fdk c s x t))) := DPut.k (k := .inr "rest") F.at_ (by show 4 < sizeLine; decide)
theorem FdAt.putSpot (F : FdAt H p c ns s r t) (x : Int) : DPut H p (.str "spot") (.int x) (upd H p (.dK (fdk c x r t))) := DPut.k (k := .inr "spot") F.at_ (by show 4 < sizeLine; decide)
theorem FdAt.upd (F : FdAt H p c ns s r t) (s' r' t' : Int) : FdAt (L2.upd H p (.dK (fdk c s' r' t'))) p c ns s' r' t' := ⟨upd_same, by rw [upd_ne F.ne]; exact F.cells, F.len⟩
def ExP (p : Addr) (H H' : Hp) : Prop := ∀ a o, a ≠ p → H a = some o → H' a = some o
theorem ExP.upd {p : Addr} {H : Hp} (o : HO) : ExP p H (L2.upd H p o) := fun a u h e => by rw [upd_ne h]; exact e
theorem ExP.trans {p : Addr} {H H1 H2 : Hp} (h : ExP p H H1) (k : ExP p H1 H2) : ExP p H H2 := fun a o n e => k a o n (h a o n e)
theorem ExP.new {p l : Addr} {H : Hp} (hl : H l = none) (o : HO) : ExP p H (L2.upd H l o) := fun a u h e => by
  rw [upd_ne (ne_of_none e hl)]
  exact e
theorem FdAt.fresh (F : FdAt H p c ns s r t) {l : Addr} (hl : H l = none) (o : HO) : FdAt (L2.upd H l o) p c ns s r t := ⟨by rw [upd_ne (ne_of_none F.at_ hl)]; exact F.at_, by rw [upd_ne (ne_of_none F.cells hl)]; exact F.cells, F.len⟩
theorem FdAt.dp {K : PySem.W.Frag} (F : FdAt H p c ns s r t) : Dp K H (.ref c) (.list (ns.map .int)) := .lst (.inl (.inl F.cells)) (by
  have : ∀ ns : List Int, DpAll K H (ns.map V.int) (ns.map .int) := fun ns => by
    induction ns with
    | nil => exact .nil
    | cons n ns ih => exact .cons (.int n) ih
  exact this ns)
end
theorem shp_ints (ns : List Int) : shp (.list (ns.map .int)) := (flat_lst (n := 1) (fun i => ⟨by simp [PyData.canLay0], by simp [PyData.depth]⟩) ns).shp (by decide)
theorem eqv_ints : ∀ ns : List Int, PyData.eqv (.list (ns.map .int)) (.list []) = decide (ns = [])
  | [] => by rfl
  | _ :: _ => by simp [PyData.eqv, PyData.eqvAll]
def sp_Ldraw : Sp := fun vs H Q _ => ∃ (p c : Addr) (ns : List Int) (s r t : Int) (m : Nat), vs = [.ref p, .int (m : Int)] ∧ 1 ≤ m ∧ m ≤ 1000 ∧ FdAt H p c ns s r t ∧
  ∀ (k : Nat) (H' : Hp) (s' r' t' : Int), k < m → ExP p H H' → FdAt H' p c ns s' r' t' → Q (.int (k : Int)) H'
theorem mod_nat {m : Nat} (h : 1 ≤ m) (x : Int) : ∃ k : Nat, k < m ∧ x % (m : Int) = (k : Int) := by
  have h1 := Int.emod_nonneg x (show (m : Int) ≠ 0 by omega)
  have h2 := Int.emod_lt_of_pos x (show (0 : Int) < (m : Int) by omega)
  exact ⟨(x % (m : Int)).toNat, by omega, by omega⟩
theorem small_mod (x : Int) {j : Int} (h : 0 < j) (h2 : j < 2 ^ 64) : -(2 ^ 64) < x % j ∧ x % j < 2 ^ 64 := by
  have h3 := Int.emod_nonneg x (show j ≠ 0 by omega)
  have h4 := Int.emod_lt_of_pos x h
  omega
theorem wide_16 (x : Int) : CDivW x 16 := wide_div (b := 10) (by decide) (by decide) (by decide) (by decide)
theorem fin_q {H H' : Hp} {p c : Addr} {ns : List Int} {s' r' t' : Int} {m : Nat} {Q : VK} (q : ∀ (k : Nat) (H' : Hp) (s' r' t' : Int), k < m → ExP p H H' → FdAt H' p c ns s' r' t' → Q (.int (k : Int)) H') (h1 : 1 ≤ m) (x : Int) (E : ExP p H H') (F : FdAt H' p c ns s' r' t') : Q (.int (x % (m : Int))) H' := by
  obtain ⟨k, hk, e⟩ := mod_nat h1 x
  rw [e]
  exact q k _ _ _ _ hk E F
theorem wide_m {m : Nat} (h : 1 ≤ m) (h2 : m ≤ 1000) (x : Int) : CDivW x (m : Int) := wide_div (b := 10) (by omega) (by show m < 1024; omega) (by decide) (by decide)
theorem ok_Ldraw (T : Tx K mg) : Ok P w K mg base 1 "_law_draw" ["_law_feed_here", "_law_many"] [] sp_Ldraw := by
  refine ok_any T d_Ldraw 37 37 rfl rfl rfl rfl rfl sc_Ldraw (fun _ _ _ _ _ _ us hl => match us, hl with | [_, _], _ => rfl) ?_ ?_
  · rintro vs H Q E ⟨p, c, ns, s, r, t, m, rfl, _⟩; rfl
  intro cdv A outer s H vs Q E hr hs
  have nd := sc_Ldraw.nd
  have hu : A.units + 3 + 1 < cLine := hu_of hr
  refine ⟨_, PSs.nox ((pss_cons (ps_dput hu (pv 0) pe_str (pe_op op_add (pe_dget hu (pv 0) pe_str (fun _ _ => rfl)) pe_int) rfl) (pss_cons (ps_if (pt_cmpR op_gt (pe_dget hu (pv 0) pe_str (fun _ _ => rfl)) pe_int (nomark _)) (pss_cons (ps_set (i := 2) nd rfl (by first | exact Or.inl rfl | exact Or.inr rfl) (pe_op op_mod (pe_callTy call_int1 rfl (T.free 74) boot_int (pa_cons (pe_dget hu (pv 0) pe_str (fun _ _ => rfl)) pa_nil)) (pv 1))) (pss_cons (ps_dput hu (pv 0) pe_str (pe_op op_fdivW (pe_dget hu (pv 0) pe_str (fun _ _ => rfl)) (pv 1)) rfl) (pss_one (ps_ret (pv 2))))) pss_nil) (pss_cons (ps_par (i := 3) (j := 4) rfl nd rfl rfl (by decide) rfl rfl (pa_cons (pe_dget hu (pv 0) pe_str (fun _ _ => rfl)) (pa_cons (pe_dget hu (pv 0) pe_str (fun _ _ => rfl)) pa_nil)) (by with_unfolding_all rfl)) (pss_cons (ps_dput hu (pv 0) pe_str (pe_op op_add (pv 3) pe_int) rfl) (pss_cons (ps_set (i := 5) nd rfl (by first | exact Or.inl rfl | exact Or.inr rfl) (pe_ifExp (pt_cmpR (op_neD (hu64 hr)) (pv 4) (pe_lst pa_nil) (nomark _)) (pe_ix ix_list (pv 4) (pe_op op_mod (pe_callTy call_int1 rfl (T.free 74) boot_int (pa_cons (pv 3) pa_nil)) (pe_callB call_len_seq rfl (T.free 62) boot_len (pa_cons (pv 4) pa_nil))) (fun _ _ => rfl)) pe_int)) (pss_cons (ps_if (PW.pt (pw_and (pt_cmpR op_ge (pv 5) (pe_op op_pow pe_int pe_int) (nomark _)) (pw_and1 (pt_cmpR op_lt (pv 3) (pe_callB call_len_seq rfl (T.free 62) boot_len (pa_cons (pv 4) pa_nil)) (nomark _))))) (pss_cons (ps_dput hu (pv 0) pe_str (pe_op op_fdivW (pv 5) (pv 1)) rfl) (pss_one (ps_ret (pe_op op_mod (pe_callTy call_int1 rfl (T.free 74) boot_int (pa_cons (pv 5) pa_nil)) (pv 1))))) pss_nil) (pss_cons (ps_set (i := 6) nd rfl (by first | exact Or.inl rfl | exact Or.inr rfl) (pe_op op_mod (pe_callTy call_int1 rfl (T.free 74) boot_int (pa_cons (pe_op op_add (pe_op op_add (pe_op op_mod (pe_callTy call_int1 rfl (T.free 74) boot_int (pa_cons (pv 5) pa_nil)) pe_int) (pe_op op_mul pe_int (pe_dget hu (pv 0) pe_str (fun _ _ => rfl)))) pe_int) pa_nil)) pe_int)) (pss_cons (ps_set (i := 6) nd rfl (by first | exact Or.inl rfl | exact Or.inr rfl) (pe_op op_mod (pe_callTy call_int1 rfl (T.free 74) boot_int (pa_cons (pe_op op_add (pe_op op_mul (pv 6) (pv 6)) (pe_op op_mul pe_int (pe_dget hu (pv 0) pe_str (fun _ _ => rfl)))) pa_nil)) pe_int)) (pss_one (ps_ret (pe_op op_mod (pe_callTy call_int1 rfl (T.free 74) boot_int (pa_cons (pe_op op_fdivW (pe_op op_mod (pe_callTy call_int1 rfl (T.free 74) boot_int (pa_cons (pe_op op_add (pe_op op_mul (pv 6) (pv 6)) (pe_op op_mul pe_int (pv 6))) pa_nil)) pe_int) pe_int) pa_nil)) (pv 1))))))))))))), ?_⟩
  obtain ⟨p, c, ns, s, r, t, m, rfl, h1, h2, F, q⟩ := hs
  have F1 := F.upd s r (t + 1)
  -- the turn
  refine ⟨_, rfl, _, _, rfl, F.turn, _, _, rfl, rfl, _, rfl, p, _, rfl, F.putTurn (t + 1), ?_⟩
  -- the rest
  refine ⟨_, rfl, _, _, rfl, F1.rest, _, _, rfl, rfl, _, rfl, ?_⟩
  show if decide (0 < r) = true then _ else _
  split
  · refine ⟨_, rfl, _, _, rfl, F1.rest, .inl ⟨_, rfl, _, rfl, _, _, rfl, rfl, (by show (0 : Int) < (m : Int); omega), ?_⟩⟩
    refine ⟨_, rfl, _, _, rfl, F1.rest, _, rfl, _, _, rfl, rfl, wide_m h1 h2 r, _, rfl, p, _, rfl, F1.putRest _, _, rfl, ?_⟩
    exact fin_q q h1 _ ((ExP.upd _).trans (ExP.upd _)) (F1.upd _ _ _)
  · refine ⟨_, rfl, p, _, rfl, F1.spot, _, rfl, p, _, rfl, F1.cell, _, _, rfl, ?_⟩
    have F2 := F1.upd (s + 1) r (t + 1)
    refine ⟨_, rfl, _, _, rfl, rfl, _, rfl, p, _, rfl, F1.putSpot (s + 1), ?_⟩
    refine ⟨_, rfl, Nat.zero_le _, fun l hl => ⟨_, _, (F2.fresh hl (.lst [])).dp, .lst (.inl (.inl upd_same)) .nil, shp_ints ns, shp_ints [], _, rfl, ?_⟩⟩
    have F3 := F2.fresh hl (.lst [])
    rw [eqv_ints]
    have E3 : ExP p H _ := ((ExP.upd _).trans (ExP.upd _)).trans (ExP.new hl (.lst []))
    show if (!decide (ns = [])) = true then _ else _
    split
    · next hne =>
      have hne' : ns ≠ [] := by simpa using hne
      have hpos : 1 ≤ (ns.map V.int).length := by rw [List.length_map]; exact List.length_pos_iff.mpr hne'
      obtain ⟨j, hj, ej⟩ := mod_nat hpos s
      have hj' : j < ns.length := by rw [List.length_map] at hj; exact hj
      have hat : (ns.map V.int)[j]? = some (V.int ns[j]) := by rw [List.getElem?_map, List.getElem?_eq_getElem hj']; rfl
      refine ⟨_, rfl, _, rfl, .inl ⟨_, rfl, _, rfl, c, _, rfl, .inl (.inl (.inl F3.cells)), _, _, rfl, rfl, (by show (0 : Int) < (((ns.map V.int).length : Nat) : Int); omega), c, _, _, V.int ns[j], rfl, rfl, .inl (.inl F3.cells), (by rw [ej]; exact atI_nat hat), ?_⟩⟩
      generalize ns[j] = cell
      refine ⟨_, rfl, _, _, rfl, rfl, ⟨by decide, by decide, by decide⟩, _, _, rfl, rfl, _, rfl, ?_⟩
      show if decide _ = true then _ else _
      split
      · refine ⟨_, rfl, _, rfl, c, _, rfl, .inl (.inl (.inl F3.cells)), _, _, rfl, rfl, _, rfl, ?_⟩
        show if decide _ = true then _ else _
        split
        · refine ⟨_, rfl, _, rfl, _, _, rfl, rfl, wide_m h1 h2 _, _, rfl, p, _, rfl, F3.putRest _, _, rfl, .inl ⟨_, rfl, _, rfl, _, _, rfl, rfl, (by show (0 : Int) < (m : Int); omega), ?_⟩⟩
          exact fin_q q h1 _ (E3.trans (ExP.upd _)) (F3.upd _ _ _)
        · refine ⟨_, rfl, .inl ⟨_, rfl, _, _, rfl, rfl, (show (0 : Int) < 1000000513 by decide), _, rfl, p, _, rfl, F3.turn, _, _, rfl, rfl, .inl ⟨by decide, by decide⟩, _, _, rfl, rfl, _, _, rfl, rfl, .inl ⟨_, rfl, _, _, rfl, rfl, (show (0 : Int) < 2147482897 by decide), ?_⟩⟩⟩
          refine ⟨_, rfl, _, rfl, _, _, rfl, rfl, .inl (small_mod _ (by decide) (by decide)), _, rfl, p, _, rfl, F3.turn, _, _, rfl, rfl, .inl ⟨by decide, by decide⟩, _, _, rfl, rfl, .inl ⟨_, rfl, _, _, rfl, rfl, (show (0 : Int) < 2147482721 by decide), ?_⟩⟩
          refine ⟨_, rfl, _, rfl, _, _, rfl, rfl, .inl (small_mod _ (by decide) (by decide)), _, rfl, _, _, rfl, rfl, .inl ⟨by decide, by decide⟩, _, _, rfl, rfl, .inl ⟨_, rfl, _, _, rfl, rfl, (show (0 : Int) < 2147482693 by decide), _, _, rfl, rfl, wide_16 _, .inl ⟨_, rfl, _, rfl, _, _, rfl, rfl, (by show (0 : Int) < (m : Int); omega), ?_⟩⟩⟩
          exact fin_q q h1 _ E3 F3
      · refine ⟨_, rfl, .inl ⟨_, rfl, _, _, rfl, rfl, (show (0 : Int) < 1000000513 by decide), _, rfl, p, _, rfl, F3.turn, _, _, rfl, rfl, .inl ⟨by decide, by decide⟩, _, _, rfl, rfl, _, _, rfl, rfl, .inl ⟨_, rfl, _, _, rfl, rfl, (show (0 : Int) < 2147482897 by decide), ?_⟩⟩⟩
        refine ⟨_, rfl, _, rfl, _, _, rfl, rfl, .inl (small_mod _ (by decide) (by decide)), _, rfl, p, _, rfl, F3.turn, _, _, rfl, rfl, .inl ⟨by decide, by decide⟩, _, _, rfl, rfl, .inl ⟨_, rfl, _, _, rfl, rfl, (show (0 : Int) < 2147482721 by decide), ?_⟩⟩
        refine ⟨_, rfl, _, rfl, _, _, rfl, rfl, .inl (small_mod _ (by decide) (by decide)), _, rfl, _, _, rfl, rfl, .inl ⟨by decide, by decide⟩, _, _, rfl, rfl, .inl ⟨_, rfl, _, _, rfl, rfl, (show (0 : Int) < 2147482693 by decide), _, _, rfl, rfl, wide_16 _, .inl ⟨_, rfl, _, rfl, _, _, rfl, rfl, (by show (0 : Int) < (m : Int); omega), ?_⟩⟩⟩
        exact fin_q q h1 _ E3 F3
    · show gName 5 (.int 140603) _ _ _
      generalize (140603 : Int) = cell
      refine ⟨_, rfl, _, _, rfl, rfl, ⟨by decide, by decide, by decide⟩, _, _, rfl, rfl, _, rfl, ?_⟩
      show if decide _ = true then _ else _
      split
      · refine ⟨_, rfl, _, rfl, c, _, rfl, .inl (.inl (.inl F3.cells)), _, _, rfl, rfl, _, rfl, ?_⟩
        show if decide _ = true then _ else _
        split
        · refine ⟨_, rfl, _, rfl, _, _, rfl, rfl, wide_m h1 h2 _, _, rfl, p, _, rfl, F3.putRest _, _, rfl, .inl ⟨_, rfl, _, rfl, _, _, rfl, rfl, (by show (0 : Int) < (m : Int); omega), ?_⟩⟩
          exact fin_q q h1 _ (E3.trans (ExP.upd _)) (F3.upd _ _ _)
        · refine ⟨_, rfl, .inl ⟨_, rfl, _, _, rfl, rfl, (show (0 : Int) < 1000000513 by decide), _, rfl, p, _, rfl, F3.turn, _, _, rfl, rfl, .inl ⟨by decide, by decide⟩, _, _, rfl, rfl, _, _, rfl, rfl, .inl ⟨_, rfl, _, _, rfl, rfl, (show (0 : Int) < 2147482897 by decide), ?_⟩⟩⟩
          refine ⟨_, rfl, _, rfl, _, _, rfl, rfl, .inl (small_mod _ (by decide) (by decide)), _, rfl, p, _, rfl, F3.turn, _, _, rfl, rfl, .inl ⟨by decide, by decide⟩, _, _, rfl, rfl, .inl ⟨_, rfl, _, _, rfl, rfl, (show (0 : Int) < 2147482721 by decide), ?_⟩⟩
          refine ⟨_, rfl, _, rfl, _, _, rfl, rfl, .inl (small_mod _ (by decide) (by decide)), _, rfl, _, _, rfl, rfl, .inl ⟨by decide, by decide⟩, _, _, rfl, rfl, .inl ⟨_, rfl, _, _, rfl, rfl, (show (0 : Int) < 2147482693 by decide), _, _, rfl, rfl, wide_16 _, .inl ⟨_, rfl, _, rfl, _, _, rfl, rfl, (by show (0 : Int) < (m : Int); omega), ?_⟩⟩⟩
          exact fin_q q h1 _ E3 F3
      · refine ⟨_, rfl, .inl ⟨_, rfl, _, _, rfl, rfl, (show (0 : Int) < 1000000513 by decide), _, rfl, p, _, rfl, F3.turn, _, _, rfl, rfl, .inl ⟨by decide, by decide⟩, _, _, rfl, rfl, _, _, rfl, rfl, .inl ⟨_, rfl, _, _, rfl, rfl, (show (0 : Int) < 2147482897 by decide), ?_⟩⟩⟩
        refine ⟨_, rfl, _, rfl, _, _, rfl, rfl, .inl (small_mod _ (by decide) (by decide)), _, rfl, p, _, rfl, F3.turn, _, _, rfl, rfl, .inl ⟨by decide, by decide⟩, _, _, rfl, rfl, .inl ⟨_, rfl, _, _, rfl, rfl, (show (0 : Int) < 2147482721 by decide), ?_⟩⟩
        refine ⟨_, rfl, _, rfl, _, _, rfl, rfl, .inl (small_mod _ (by decide) (by decide)), _, rfl, _, _, rfl, rfl, .inl ⟨by decide, by decide⟩, _, _, rfl, rfl, .inl ⟨_, rfl, _, _, rfl, rfl, (show (0 : Int) < 2147482693 by decide), _, _, rfl, rfl, wide_16 _, .inl ⟨_, rfl, _, rfl, _, _, rfl, rfl, (by show (0 : Int) < (m : Int); omega), ?_⟩⟩⟩
        exact fin_q q h1 _ E3 F3
end
end K16
/-! ## part Fe -/
set_option Elab.async false
set_option linter.all false
set_option maxRecDepth 100000
set_option maxHeartbeats 1000000
/-! the calculus with a feed: a dict that each draw writes, and values of which only a property is known -/
namespace K16
open PySem PySem.Spec PyProof.Rows L2
open Evl (Ex)
/-- the feed: its slot, its place, its cells -/
structure Fe where
  sl : Nat
  p : Addr
  c : Addr
  ns : List Int
def Fe.on (f : Fe) (H : Hp) : Prop := ∃ s r t, FdAt H f.p f.c f.ns s r t
theorem Fe.on.has {f : Fe} {H : Hp} (h : f.on H) : H f.p ≠ none := by
  obtain ⟨s, r, t, F⟩ := h
  rw [F.at_]
  simp
structure Wf (f : Fe) (G H : Hp) : Prop where
  in_ : Ex G H
  hid : G f.p = none
  on : f.on H
structure StF (f : Fe) (G H G2 H2 : Hp) : Prop where
  ex : ExP f.p H H2
  eg : Ex G G2
  in_ : Ex G2 H2
  hid : ∀ a, H a ≠ none → G a = none → G2 a = none
  on : f.on H2
section
variable {f : Fe} {G H G1 H1 G2 H2 : Hp}
theorem StF.wf (w : Wf f G H) (s : StF f G H G2 H2) : Wf f G2 H2 := ⟨s.in_, s.hid _ w.on.has w.hid, s.on⟩
theorem StF.refl (w : Wf f G H) : StF f G H G H := ⟨fun _ _ _ h => h, Evl.Ex.refl G, w.in_, fun _ _ h => h, w.on⟩
theorem StF.keep (s : StF f G H G2 H2) {a : Addr} (h : H a ≠ none) : H2 a ≠ none := by
  by_cases c : a = f.p
  · rw [c]; exact s.on.has
  · cases q : H a with
    | none => exact absurd q h
    | some o => rw [s.ex a o c q]; simp
theorem StF.trans (a : StF f G H G1 H1) (b : StF f G1 H1 G2 H2) : StF f G H G2 H2 :=
  ⟨a.ex.trans b.ex, Evl.Ex.trans a.eg b.eg, b.in_, fun x h1 h2 => b.hid x (a.keep h1) (a.hid x h1 h2), b.on⟩
theorem Fe.on.ex (h : f.on H) (e : Ex H H2) : f.on H2 := by
  obtain ⟨s, r, t, F⟩ := h
  exact ⟨s, r, t, e _ _ F.at_, e _ _ F.cells, F.len⟩
theorem StF.of (w : Wf f G H) (s : Stp G H G2 H2) : StF f G H G2 H2 := ⟨fun a o _ h => s.ex a o h, s.eg, s.in_, s.hid, w.on.ex s.ex⟩
theorem StF.draw (w : Wf f G H) (e : ExP f.p H H2) (o : f.on H2) : StF f G H G H2 := ⟨e, Evl.Ex.refl G, fun a u q => e a u (fun z => by rw [z, w.hid] at q; cases q) (w.in_ a u q), fun _ _ h => h, o⟩
end
structure Rf (f : Fe) (G : Hp) (σ : L2.St) (env : En) : Prop where
  rs : Rs G σ env
  fd : σ[f.sl]? = some (some (.ref f.p))
def FvE (f : Fe) (te : TE) (env : En) (S : D → Prop) : Prop := ∀ σ G H, Rf f G σ env → Wf f G H → ∀ Q : VK, (∀ v d G2 H2, StF f G H G2 H2 → S d → Rq G2 v d → Q v H2) → te σ H Q
def FvA (f : Fe) (ta : TA) (env : En) (S : List D → Prop) : Prop := ∀ σ G H, Rf f G σ env → Wf f G H → ∀ Q : List V → Hp → Prop, (∀ vs ds G2 H2, StF f G H G2 H2 → S ds → RqA G2 vs ds → Q vs H2) → ta σ H Q
def FvT (f : Fe) (tt : TT) (env : En) (B : Bool → Prop) : Prop := ∀ σ G H, Rf f G σ env → Wf f G H → ∀ Q : Bool → Hp → Prop, (∀ b G2 H2, StF f G H G2 H2 → B b → Q b H2) → tt σ H Q
section
variable {f : Fe} {G H G2 H2 : Hp} {env : En} {te ta tb tm : TE} {tr : TA} {tt : TT} {d : D} {ds : List D} {S S2 Sa Sb : D → Prop} {σ : L2.St}
theorem Rf.mono (h : Rf f G σ env) (e : Ex G G2) : Rf f G2 σ env := ⟨h.rs.mono e, h.fd⟩
theorem fv_of (h : EvE te env d) : FvE f te env (· = d) := fun σ G H r w Q q => h σ G H r.rs w.in_ _ fun v G2 H2 s rv => q v d G2 H2 (StF.of w s) rfl rv
theorem ft_of {b : Bool} (h : EvT tt env b) : FvT f tt env (· = b) := fun σ G H r w Q q => h σ G H r.rs w.in_ _ fun G2 H2 s => q b G2 H2 (StF.of w s) rfl
theorem fa_of (h : EvA tr env ds) : FvA f tr env (· = ds) := fun σ G H r w Q q => h σ G H r.rs w.in_ _ fun v G2 H2 s rv => q v ds G2 H2 (StF.of w s) rfl rv
theorem fv_mono (h : FvE f te env S) (k : ∀ d, S d → S2 d) : FvE f te env S2 := fun σ G H r w Q q => h σ G H r w Q fun v d G2 H2 s hd rv => q v d G2 H2 s (k d hd) rv
theorem ft_mono {B B2 : Bool → Prop} (h : FvT f tt env B) (k : ∀ b, B b → B2 b) : FvT f tt env B2 := fun σ G H r w Q q => h σ G H r w Q fun b G2 H2 s hb => q b G2 H2 s (k b hb)
theorem fa_nil : FvA f tNil env (· = []) := fun σ G H r w Q q => q [] [] G H (StF.refl w) rfl .nil
theorem fa_cons {R : List D → Prop} (h : FvE f te env S) (k : FvA f tr env R) : FvA f (tCons te tr) env (fun ds => ∃ d es, S d ∧ R es ∧ ds = d :: es) := fun σ G H r w Q q =>
  h σ G H r w _ fun v d G1 H1 s1 hd r1 => k σ G1 H1 (r.mono s1.eg) (s1.wf w) _ fun vs es G2 H2 s2 hes r2 => q _ _ G2 H2 (s1.trans s2) ⟨d, es, hd, hes, rfl⟩ (.cons (r1.mono s2.eg) r2)
theorem fa_mono {R R2 : List D → Prop} (h : FvA f tr env R) (k : ∀ d, R d → R2 d) : FvA f tr env R2 := fun σ G H r w Q q => h σ G H r w Q fun v d G2 H2 s hd rv => q v d G2 H2 s (k d hd) rv
/-- a draw -/
theorem fv_draw {m : Nat} (h1 : 1 ≤ m) (h2 : m ≤ 1000) (h : EvE tm env (.int (m : Int))) : FvE f (tCall sp_Ldraw [] E0 (tCons (tVar f.sl) (tCons tm tNil))) env (fun d => ∃ k : Nat, k < m ∧ d = .int (k : Int)) := fun σ G H r w Q q => by
  refine ⟨.ref f.p, r.fd, h σ G H r.rs w.in_ _ fun v G1 H1 s1 r1 => ?_⟩
  have sf := StF.of w s1
  obtain ⟨s, x, t, F⟩ := sf.on
  show sp_Ldraw ([V.ref f.p, v] ++ []) H1 Q E0
  rw [List.append_nil]
  refine ⟨f.p, f.c, f.ns, s, x, t, m, by rw [r1.int], h1, h2, F, fun k H' s' r' t' hk e F' => ?_⟩
  have s2 := StF.draw (sf.wf w) e ⟨s', r', t', F'⟩
  exact q _ _ G1 H' (sf.trans s2) ⟨k, hk, rfl⟩ (.of_int (by omega))
theorem fv_op {R2' : D → D → D → Prop} (h : FvE f ta env Sa) (k : FvE f tb env Sb) (hr : ∀ a b, Sa a → Sb b → ∃ d, R2' a b d ∧ S d) : FvE f (tOp (rD2 R2') ta tb) env S := fun σ G H r w Q q =>
  h σ G H r w _ fun v a G1 H1 s1 ha r1 => k σ G1 H1 (r.mono s1.eg) (s1.wf w) _ fun u b G2 H2 s2 hb r2 => by
    obtain ⟨d, hd, hS⟩ := hr a b ha hb
    have w2 := s2.wf (s1.wf w)
    exact ⟨G2, a, b, d, hd, w2.in_, r1.mono s2.eg, r2, fun z G3 H3 s3 r3 => q z d G3 H3 ((s1.trans s2).trans (StF.of w2 s3)) hS r3⟩
theorem fv_cb {R : List D → D → Prop} {Ra : List D → Prop} (h : FvA f tr env Ra) (hr : ∀ ds, Ra ds → ∃ d, R ds d ∧ S d) : FvE f (tCB (rD R) tr) env S := fun σ G H r w Q q =>
  h σ G H r w _ fun vs ds G1 H1 s1 hds r1 => by
    obtain ⟨d, hd, hS⟩ := hr ds hds
    have w1 := s1.wf w
    exact ⟨G1, ds, d, hd, w1.in_, r1, fun z G3 H3 s3 r3 => q z d G3 H3 (s1.trans (StF.of w1 s3)) hS r3⟩
theorem fv_call {R : List D → D → Prop} {Ra : List D → Prop} (h : FvA f tr env Ra) (hr : ∀ ds, Ra ds → ∃ d, R ds d ∧ S d) : FvE f (tCall (spR R) [] E0 tr) env S := fun σ G H r w Q q =>
  h σ G H r w _ fun vs ds G1 H1 s1 hds r1 => by
    obtain ⟨d, hd, hS⟩ := hr ds hds
    have w1 := s1.wf w
    show spR R (vs ++ []) H1 Q E0
    rw [List.append_nil]
    exact ⟨G1, ds, d, hd, w1.in_, r1, fun z G3 H3 s3 r3 => q z d G3 H3 (s1.trans (StF.of w1 s3)) hS r3⟩
theorem fv_lst {Ra : List D → Prop} (h : FvA f tr env Ra) (hl : ∀ ds, Ra ds → ds.length ≤ 100000) : FvE f (tLst tr) env (fun d => ∃ ds, Ra ds ∧ d = .list ds) := fun σ G H r w Q q =>
  h σ G H r w _ fun vs ds G1 H1 s1 hds r1 => ⟨Evl.sz_of (by rw [r1.rp.length]; exact hl ds hds), fun p hp => by
    have w1 := s1.wf w
    have s2 := Stp.new (o := .lst vs) w1.in_ hp
    exact q _ _ _ _ (s1.trans (StF.of w1 s2)) ⟨ds, hds, rfl⟩ (.of_lst upd_same (r1.mono s2.eg) (hl ds hds))⟩
theorem ft_test (h : FvE f te env (fun d => ∃ b, d = .bool b)) : FvT f (tTest te) env (fun _ => True) := fun σ G H r w Q q => h σ G H r w _ fun v d G1 H1 s1 hd r1 => by
  obtain ⟨b, rfl⟩ := hd
  exact ⟨b, r1.bool, q b G1 H1 s1 trivial⟩
theorem fv_part {K : PySem.W.Frag} {α : Type} {f' : α → D} {P : List α → Prop} (h : FvE f ta env (fun d => ∃ s, P s ∧ d = .tuple (s.map f'))) {n : Nat} (k : EvE tb env (.int (n : Int))) :
    FvE f (tSl (rSlA K) ta tNoPart (tPart tb)) env (fun d => ∃ s, P s ∧ d = .tuple ((s.take n).map f')) := fun σ G H r w Q q =>
  h σ G H r w _ fun v d G1 H1 s1 hd r1 => by
    obtain ⟨s, hs, rfl⟩ := hd
    have w1 := s1.wf w
    refine k σ G1 H1 (r.rs.mono s1.eg) w1.in_ _ fun w2 G2 H2 s2 r2 => ?_
    obtain ⟨p, vs, rfl, h1, h2, h3⟩ := (r1.mono s2.eg).tuple
    have hl := h2.rp.length
    have s12 := s1.trans (StF.of w1 s2)
    have w3 := s12.wf w
    rw [List.length_map] at hl h3
    refine ⟨(n : Int), r2.int, p, vs, rfl, .inl (.inl (s2.in_ _ _ h1)), fun z => ?_, fun z l hl' => ?_⟩
    · obtain ⟨_, z2⟩ := z
      rw [HT.sIx_nat] at z2
      exact q _ (.tuple ((s.take n).map f')) G2 H2 s12 ⟨s, hs, rfl⟩ (by rw [List.take_of_length_le (by omega)]; exact r1.mono s2.eg)
    · have ec : cutV vs none (some (n : Int)) = vs.take n := by
        unfold cutV
        rw [HT.sIx_none, HT.sIx_nat, List.drop_zero, Nat.sub_zero]
        rcases Nat.le_total n vs.length with c | c
        · rw [Nat.min_eq_left c]
        · rw [Nat.min_eq_right c, List.take_of_length_le (Nat.le_refl _), List.take_of_length_le c]
      rw [ec]
      have s3 := Stp.new (o := .tup (vs.take n)) w3.in_ hl'
      refine q _ (.tuple ((s.take n).map f')) _ _ (s12.trans (StF.of w3 s3)) ⟨s, hs, rfl⟩ (.of_tup upd_same ?_ (by rw [List.length_map, List.length_take]; omega))
      rw [List.map_take]
      exact (h2.take n).mono s3.eg
end
/-- what a def with a feed promises -/
def spF (R : List D → (D → Prop) → Prop) : Sp := fun vs H Q _ => ∃ (f : Fe) (G : Hp) (ds : List D) (ws : List V) (S : D → Prop), vs = .ref f.p :: ws ∧ R ds S ∧ Wf f G H ∧ RqA G ws ds ∧ ∀ v d G2 H2, StF f G H G2 H2 → S d → Rq G2 v d → Q v H2
section
variable {f : Fe} {env : En} {tr : TA} {S : D → Prop} {ds : List D}
theorem fv_goF {R : List D → (D → Prop) → Prop} (h : EvA tr env ds) (hr : R ds S) : FvE f (tCall (spF R) [] E0 (tCons (tVar f.sl) tr)) env S := fun σ G H r w Q q => by
  refine ⟨.ref f.p, r.fd, h σ G H r.rs w.in_ _ fun vs G1 H1 s1 r1 => ?_⟩
  have sf := StF.of w s1
  show spF R ((V.ref f.p :: vs) ++ []) H1 Q E0
  rw [List.append_nil]
  exact ⟨f, G1, ds, vs, S, rfl, hr, sf.wf w, r1, fun v d G2 H2 s hd rv => q v d G2 H2 (sf.trans s) hd rv⟩
end
/-! ### statements -/
structure OwF (f : Fe) (G0 H0 G H : Hp) (l : Addr) (vs : List V) (ds : List D) : Prop where
  st : StF f G0 H0 G H
  new : H0 l = none
  hid : G l = none
  at_ : H l = some (.lst vs)
  rq : RqA G vs ds
section
variable {f : Fe} {G0 H0 G H G' H' : Hp} {l : Addr} {vs : List V} {ds : List D}
theorem Fe.on.ne (o : f.on H) {vs : List V} (h : H l = some (.lst vs)) : l ≠ f.p := fun e => by
  obtain ⟨s, r, t, F⟩ := o
  rw [e, F.at_] at h
  cases h
theorem OwF.step (o : OwF f G0 H0 G H l vs ds) (s : StF f G H G' H') : OwF f G0 H0 G' H' l vs ds :=
  ⟨o.st.trans s, o.new, s.hid l (by rw [o.at_]; simp) o.hid, s.ex _ _ (o.st.on.ne o.at_) o.at_, o.rq.mono s.eg⟩
theorem Fe.on.upd (h : f.on H) {o : HO} (h1 : l ≠ f.p) (h2 : l ≠ f.c) : f.on (upd H l o) := by
  obtain ⟨s, r, t, F⟩ := h
  exact ⟨s, r, t, by rw [upd_ne (Ne.symm h1)]; exact F.at_, by rw [upd_ne (Ne.symm h2)]; exact F.cells, F.len⟩
theorem OwF.start (w0 : Wf f G0 H0) (st : StF f G0 H0 G H) (h : H l = none) : OwF f G0 H0 G (upd H l (.lst [])) l [] [] := by
  have hn : H0 l = none := by
    cases q : H0 l with
    | none => rfl
    | some o => exact absurd h (st.keep (by rw [q]; simp))
  refine ⟨st.trans (StF.of (st.wf w0) (Stp.own st.in_ h)), hn, Evl.fresh_back st.in_ h, upd_same, .nil⟩
theorem OwF.write {ws : List V} {es : List D} (w0 : Wf f G0 H0) (o : OwF f G0 H0 G H l vs ds) (r : RqA G ws es) : OwF f G0 H0 G (upd H l (.lst ws)) l ws es := by
  have hp := o.st.on.ne o.at_
  have hc : l ≠ f.c := fun e => by
    obtain ⟨s, r, t, F⟩ := w0.on
    have := o.new
    rw [e, F.cells] at this
    cases this
  refine ⟨⟨fun a u n q => ?_, o.st.eg, fun a u q => ?_, o.st.hid, o.st.on.upd hp hc⟩, o.new, o.hid, upd_same, r⟩
  · have c : a ≠ l := fun e => by rw [e, o.new] at q; cases q
    rw [upd_ne c]
    exact o.st.ex a u n q
  · have c : a ≠ l := fun e => by rw [e, o.hid] at q; cases q
    rw [upd_ne c]
    exact o.st.in_ a u q
theorem OwF.freeze (w0 : Wf f G0 H0) (o : OwF f G0 H0 G H l vs ds) (hl : ds.length ≤ 100000) : ∃ G2, StF f G0 H0 G2 H ∧ Ex G G2 ∧ Rq G2 (.ref l) (.list ds) := by
  refine ⟨upd G l (.lst vs), ⟨o.st.ex, Evl.Ex.trans o.st.eg (Evl.Ex.new o.hid), fun a u q => ?_, fun a h1 h2 => ?_, o.st.on⟩, Evl.Ex.new o.hid, .of_lst upd_same (o.rq.mono (Evl.Ex.new o.hid)) hl⟩
  · by_cases c : a = l
    · subst c
      rw [upd_same] at q
      rw [o.at_]
      exact q
    · rw [upd_ne c] at q
      exact o.st.in_ a u q
  · have c : a ≠ l := fun z => h1 (z ▸ o.new)
    rw [upd_ne c]
    exact o.st.hid a h1 h2
end
def MuF (f : Fe) (G0 H0 G H : Hp) (σ : L2.St) : Mu → Prop
  | none => StF f G0 H0 G H
  | some (m, ds) => ∃ l vs, σ[m]? = some (some (.ref l)) ∧ OwF f G0 H0 G H l vs ds
structure MsF (f : Fe) (G0 H0 : Hp) (mu : Mu) (G H : Hp) (σ : L2.St) (env : En) : Prop where
  rs : Rf f G σ env
  mu : MuF f G0 H0 G H σ mu
theorem MuF.st {f : Fe} {G0 H0 G H : Hp} {σ : L2.St} : ∀ {mu : Mu}, MuF f G0 H0 G H σ mu → StF f G0 H0 G H
  | none, h => h
  | some (_, _), ⟨_, _, _, o⟩ => o.st
theorem MuF.step {f : Fe} {G0 H0 G H G' H' : Hp} {σ : L2.St} (s : StF f G H G' H') : ∀ {mu : Mu}, MuF f G0 H0 G H σ mu → MuF f G0 H0 G' H' σ mu
  | none, h => StF.trans h s
  | some (_, _), ⟨l, vs, h, o⟩ => ⟨l, vs, h, o.step s⟩
theorem MuF.at_ {f : Fe} {G0 H0 G H : Hp} {σ σ2 : L2.St} {js : List Nat} (h : ∀ i : Nat, i ∉ js → σ2[i]? = σ[i]?) : ∀ {mu : Mu}, Off js mu → MuF f G0 H0 G H σ mu → MuF f G0 H0 G H σ2 mu
  | none, _, q => q
  | some (m, _), hm, ⟨l, vs, k, o⟩ => ⟨l, vs, (h m hm).trans k, o⟩
def FbE (f : Fe) (t : TS) (env : En) (mu : Mu) (S : D → Prop) : Prop := ∀ σ G H G0 H0 (Dn : Ends), Wf f G0 H0 → MsF f G0 H0 mu G H σ env → (∀ v d G2 H2, StF f G0 H0 G2 H2 → S d → Rq G2 v d → Dn.rt v H2) → t Dn σ H
def FsE (f : Fe) (t : TS) (env : En) (mu : Mu) (K : En → Mu → Prop) : Prop := ∀ σ G H G0 H0 (Dn : Ends), Wf f G0 H0 → MsF f G0 H0 mu G H σ env → (∀ σ2 G2 H2 env2 mu2, K env2 mu2 → MsF f G0 H0 mu2 G2 H2 σ2 env2 → Ex G G2 → Dn.nx σ2 H2) → t Dn σ H
section
variable {f : Fe} {t u : TS} {env env2 : En} {mu mu2 : Mu} {te : TE} {tr : TA} {tt : TT} {g : TG} {wi : TI} {S : D → Prop} {K K2 : En → Mu → Prop} {ds : List D} {js : List Nat}
theorem MsF.wf {G0 H0 G H : Hp} {σ : L2.St} (m : MsF f G0 H0 mu G H σ env) (w : Wf f G0 H0) : Wf f G H := m.mu.st.wf w
theorem fb_seq (h : FsE f t env mu K) (k : ∀ env2 mu2, K env2 mu2 → FbE f u env2 mu2 S) : FbE f (tSeq t u) env mu S := fun σ G H G0 H0 Dn w m q => h σ G H G0 H0 _ w m fun σ2 G2 H2 env2 mu2 hk m2 _ => k env2 mu2 hk σ2 G2 H2 G0 H0 Dn w m2 q
theorem fs_seq (h : FsE f t env mu K) (k : ∀ env2 mu2, K env2 mu2 → FsE f u env2 mu2 K2) : FsE f (tSeq t u) env mu K2 := fun σ G H G0 H0 Dn w m q => h σ G H G0 H0 _ w m fun σ2 G2 H2 env2 mu2 hk m2 e2 => k env2 mu2 hk σ2 G2 H2 G0 H0 Dn w m2 fun σ3 G3 H3 env3 mu3 hk3 m3 e3 => q σ3 G3 H3 env3 mu3 hk3 m3 (Evl.Ex.trans e2 e3)
theorem fs_mono (h : FsE f t env mu K) (k : ∀ env2 mu2, K env2 mu2 → K2 env2 mu2) : FsE f t env mu K2 := fun σ G H G0 H0 Dn w m q => h σ G H G0 H0 Dn w m fun σ2 G2 H2 env2 mu2 hk m2 e2 => q σ2 G2 H2 env2 mu2 (k _ _ hk) m2 e2
theorem fb_ret (h : FvE f te env S) : FbE f (tRet te) env mu S := fun σ G H G0 H0 Dn w m q => h σ G H m.rs (m.wf w) _ fun v d G2 H2 s hd r => q v d G2 H2 (m.mu.st.trans s) hd r
theorem fb_mono {S2 : D → Prop} (h : FbE f t env mu S) (k : ∀ d, S d → S2 d) : FbE f t env mu S2 := fun σ G H G0 H0 Dn w m q => h σ G H G0 H0 Dn w m fun v d G2 H2 s hd r => q v d G2 H2 s (k d hd) r
theorem Rf.set {G : Hp} {σ : L2.St} {v : V} {d : D} {i : Nat} (h : Rf f G σ env) (r : Rq G v d) (hi : i ≠ f.sl) : Rf f G (σ.set i (some v)) (env.set i (some d)) := ⟨h.rs.set r, by rw [List.getElem?_set_ne hi]; exact h.fd⟩
theorem fs_next : FsE f tNext env mu (fun e m => e = env ∧ m = mu) := fun σ G H G0 H0 Dn w m q => q σ G H env mu ⟨rfl, rfl⟩ m (Evl.Ex.refl G)
theorem fs_set {i : Nat} (h : FvE f te env S) (ho : Off [i] mu) (hi : i ≠ f.sl) : FsE f (tAsg te (gName i)) env mu (fun e m => (∃ d, S d ∧ e = env.set i (some d)) ∧ m = mu) := fun σ G H G0 H0 Dn w m q => h σ G H m.rs (m.wf w) _ fun v d G2 H2 s hd r =>
  q _ G2 H2 _ _ ⟨⟨d, hd, rfl⟩, rfl⟩ ⟨(m.rs.mono s.eg).set r hi, (m.mu.step s).at_ (js := [i]) (fun j hj => List.getElem?_set_ne fun z => hj (List.mem_singleton.mpr z.symm)) ho⟩ s.eg
theorem fs_asg (h : FvE f te env S) (k : ∀ d, S d → GtE g d js env env2) (ho : Off js mu) (hi : f.sl ∉ js) : FsE f (tAsg te g) env mu (fun e m => e = env2 ∧ m = mu) := fun σ G H G0 H0 Dn w m q => h σ G H m.rs (m.wf w) _ fun v d G2 H2 s hd r =>
  k d hd v σ G2 H2 (m.rs.mono s.eg).rs s.in_ r _ fun σ2 r2 _ n2 => q σ2 G2 H2 _ _ ⟨rfl, rfl⟩ ⟨⟨r2, (n2 _ hi).trans m.rs.fd⟩, (m.mu.step s).at_ n2 ho⟩ s.eg
theorem fs_par {i j : Nat} {R : List D → Prop} (h : FvA f tr env R) (hR : ∀ ds, R ds → ∃ x y, ds = [x, y]) (ho : Off [i, j] mu) (hi : i ≠ f.sl) (hj : j ≠ f.sl) : FsE f (tPar i j tr) env mu (fun e m => (∃ x y, R [x, y] ∧ e = (env.set i (some x)).set j (some y)) ∧ m = mu) := fun σ G H G0 H0 Dn w m q => h σ G H m.rs (m.wf w) _ fun vs ds G2 H2 s hds r => by
  obtain ⟨x, y, rfl⟩ := hR ds hds
  obtain ⟨v, z, rfl, rv, rz⟩ := r.two
  refine ⟨v, z, rfl, q _ G2 H2 _ _ ⟨⟨x, y, hds, rfl⟩, rfl⟩ ⟨((m.rs.mono s.eg).set rv hi).set rz hj, (m.mu.step s).at_ (js := [i, j]) (fun k hk => ?_) ho⟩ s.eg⟩
  rw [List.getElem?_set_ne fun z => hk (by rw [← z]; simp), List.getElem?_set_ne fun z => hk (by rw [← z]; simp)]
theorem fs_par3 {i j l : Nat} {R : List D → Prop} (h : FvA f tr env R) (hR : ∀ ds, R ds → ∃ x y z, ds = [x, y, z]) (ho : Off [i, j, l] mu) (hi : i ≠ f.sl) (hj : j ≠ f.sl) (hl : l ≠ f.sl) : FsE f (tPar3 i j l tr) env mu (fun e m => (∃ x y z, R [x, y, z] ∧ e = ((env.set i (some x)).set j (some y)).set l (some z)) ∧ m = mu) := fun σ G H G0 H0 Dn w m q => h σ G H m.rs (m.wf w) _ fun vs ds G2 H2 s hds r => by
  obtain ⟨x, y, z, rfl⟩ := hR ds hds
  obtain ⟨v, v2, v3, rfl, r1, r2, r3⟩ := r.three
  refine ⟨v, v2, v3, rfl, q _ G2 H2 _ _ ⟨⟨x, y, z, hds, rfl⟩, rfl⟩ ⟨(((m.rs.mono s.eg).set r1 hi).set r2 hj).set r3 hl, (m.mu.step s).at_ (js := [i, j, l]) (fun k hk => ?_) ho⟩ s.eg⟩
  rw [List.getElem?_set_ne fun z => hk (by rw [← z]; simp), List.getElem?_set_ne fun z => hk (by rw [← z]; simp), List.getElem?_set_ne fun z => hk (by rw [← z]; simp)]
theorem fs_parOwn {i m : Nat} (h : FvE f te env S) (hm : m < env.length) (hi : i ≠ f.sl) (hj : m ≠ f.sl) : FsE f (tPar i m (tCons te (tCons (tLst tNil) tNil))) env none (fun e mm => ∃ x, S x ∧ e = (env.set i (some x)).set m none ∧ mm = some (m, [])) := fun σ G H G0 H0 Dn w mm q => h σ G H mm.rs (mm.wf w) _ fun v d G2 H2 s hd r => by
  refine ⟨Nat.zero_le _, fun p hp => ⟨v, .ref p, rfl, ?_⟩⟩
  refine q _ G2 _ _ _ ⟨d, hd, rfl, rfl⟩ ⟨⟨((mm.rs.mono s.eg).rs.set r).forget, ?_⟩, p, [], ?_, OwF.start w (mm.mu.step s) hp⟩ s.eg
  · rw [List.getElem?_set_ne hj, List.getElem?_set_ne hi]
    exact mm.rs.fd
  · rw [List.getElem?_set_self (by rw [List.length_set, mm.rs.rs.len]; exact hm)]
theorem fs_if {B : Bool → Prop} (h : FvT f tt env B) (h1 : B true → FsE f t env mu K) (h2 : B false → FsE f u env mu K) : FsE f (tIfS tt t u) env mu K := fun σ G H G0 H0 Dn w m q => h σ G H m.rs (m.wf w) _ fun b G1 H1 s hb => by
  have m1 : MsF f G0 H0 mu G1 H1 σ env := ⟨m.rs.mono s.eg, m.mu.step s⟩
  cases b with
  | true => exact h1 hb σ G1 H1 G0 H0 Dn w m1 fun σ2 G2 H2 e2 mu2 hk m2 x => q σ2 G2 H2 e2 mu2 hk m2 (Evl.Ex.trans s.eg x)
  | false => exact h2 hb σ G1 H1 G0 H0 Dn w m1 fun σ2 G2 H2 e2 mu2 hk m2 x => q σ2 G2 H2 e2 mu2 hk m2 (Evl.Ex.trans s.eg x)
theorem Rf.weak {G : Hp} {σ : L2.St} (h : Rf f G σ env) (w : Lw env2 env) : Rf f G σ env2 := ⟨h.rs.weak w.len fun _ _ q => w.at_ q, h.fd⟩
theorem fb_weak (h : FbE f t env2 mu S) (w : Lw env2 env) : FbE f t env mu S := fun σ G H G0 H0 Dn wf m q => h σ G H G0 H0 Dn wf ⟨m.rs.weak w, m.mu⟩ q
theorem fs_weak (h : FsE f t env2 mu K) (w : Lw env2 env) : FsE f t env mu K := fun σ G H G0 H0 Dn wf m q => h σ G H G0 H0 Dn wf ⟨m.rs.weak w, m.mu⟩ q
theorem MsF.freeze {m : Nat} {G0 H0 G H : Hp} {σ : L2.St} (w : Wf f G0 H0) (hm : m ≠ f.sl) (mm : MsF f G0 H0 (some (m, ds)) G H σ env) (hl : ds.length ≤ 100000) : ∃ G2, MsF f G0 H0 none G2 H σ (env.set m (some (.list ds))) ∧ Ex G G2 := by
  obtain ⟨l, vs, h1, o⟩ := mm.mu
  obtain ⟨G2, s, e, r⟩ := o.freeze w hl
  refine ⟨G2, ⟨?_, s⟩, e⟩
  have h2 := (mm.rs.mono e).set (i := m) r hm
  have h3 : σ.set m (some (.ref l)) = σ := by
    obtain ⟨hm, e1⟩ := List.getElem?_eq_some_iff.mp h1
    rw [← e1, List.set_getElem_self]
  rw [h3] at h2
  exact h2
theorem fb_freeze {m : Nat} (hm : m ≠ f.sl) (k : FbE f t (env.set m (some (.list ds))) none S) (hl : ds.length ≤ 100000) : FbE f t env (some (m, ds)) S := fun σ G H G0 H0 Dn w mm q => by
  obtain ⟨G2, m2, _⟩ := mm.freeze w hm hl
  exact k σ G2 H G0 H0 Dn w m2 q
theorem fs_app {m : Nat} {K' : PySem.W.Frag} (h : FvE f te env S) (hl : ds.length < 100000) : FsE f (tDrop (tBM K' "list" rAppend (tVar m) (tCons te tNil))) env (some (m, ds)) (fun e mm => ∃ x, S x ∧ e = env ∧ mm = some (m, ds ++ [x])) := fun σ G H G0 H0 Dn w mm q => by
  obtain ⟨l, vs, h1, o⟩ := mm.mu
  refine ⟨.ref l, h1, .inl ⟨rfl, vs, .inl (.inl o.at_)⟩, h σ G H mm.rs (mm.wf w) _ fun v d G1 H1 s hd r => ?_⟩
  have o1 := o.step s
  refine ⟨l, vs, v, rfl, rfl, o1.at_, ?_, q σ G1 _ _ _ ⟨d, hd, rfl, rfl⟩ ⟨mm.rs.mono s.eg, l, vs ++ [v], h1, o1.write w (o1.rq.append (.cons r .nil))⟩ s.eg⟩
  rw [o1.rq.rp.length]
  exact Evl.sz_lt hl
theorem WalkOk.mono {J : It} {G1 : Hp} {ds : List D} (W : WalkOk J G1 ds) : True := trivial
/-- a loop with a property that goes from turn to turn -/
theorem fs_for {α : Type} {xs : List α} {enc : α → D} {tb : TS} (Inv : Nat → Mu → Prop) (envW : En) {env4 : Nat → α → En} (hs : SrcE wi env (xs.map enc)) (hw : Lw envW env) (h0 : Inv 0 mu) (hj : f.sl ∉ js)
    (hb : ∀ (i : Nat) (x : α) (m : Mu), xs[i]? = some x → Inv i m → GtE g (enc x) js envW (env4 i x) ∧ Off js m ∧ FsE f tb (env4 i x) m (fun e5 m5 => Lw envW e5 ∧ Inv (i + 1) m5)) : FsE f (tFor wi g tb) env mu (fun e m => e = envW ∧ Inv xs.length m) := fun σ G H G0 H0 Dn w mm q =>
  hs σ G H mm.rs.rs (mm.wf w).in_ _ fun J G1 H1 s1 Wk => by
    have w1 := mm.wf w
    have s1' := StF.of w1 s1
    have m1 : MsF f G0 H0 mu G1 H1 σ envW := ⟨(mm.rs.mono s1.eg).weak hw, mm.mu.step s1'⟩
    refine ⟨fun i k σ' H' => k = xs.length - i ∧ i ≤ xs.length ∧ ∃ G' m, Inv i m ∧ MsF f G0 H0 m G' H' σ' envW ∧ Ex G1 G', ⟨xs.length, by simp, Nat.zero_le _, G1, mu, h0, m1, Evl.Ex.refl _⟩, ?_⟩
    rintro i k σ' H' ⟨rfl, hi, G', m, hI, m', e'⟩
    by_cases hlt : i < xs.length
    · refine .inr ⟨Wk.go i H' (Evl.Ex.trans e' m'.mu.st.in_) (by rw [List.length_map]; exact hlt), fun σ2 H2 => ∃ G' m, Inv (i + 1) m ∧ MsF f G0 H0 m G' H2 σ2 envW ∧ Ex G1 G', fun σ2 H2 o2 => ⟨xs.length - (i + 1), by omega, rfl, hlt, o2⟩, fun v H2 y => ?_⟩
      have hx : xs[i]? = some xs[i] := List.getElem?_eq_getElem hlt
      have hd : (xs.map enc)[i]? = some (enc xs[i]) := by rw [List.getElem?_map, hx] <;> rfl
      obtain ⟨G2, s2, rx⟩ := Wk.yld i _ G' H' v H2 e' m'.mu.st.in_ hd y
      have s2' := StF.of (m'.wf w) s2
      obtain ⟨b1, b2, b3⟩ := hb i _ m hx hI
      refine b1 v σ' G2 H2 (m'.rs.mono s2.eg).rs s2.in_ rx _ fun σ3 r3 _ n3 => ?_
      have m3 : MsF f G0 H0 m G2 H2 σ3 (env4 i xs[i]) := ⟨⟨r3, (n3 _ hj).trans m'.rs.fd⟩, (m'.mu.step s2').at_ n3 b2⟩
      exact b3 σ3 G2 H2 G0 H0 _ w m3 fun σ5 G5 H5 env5 mu5 ⟨k1, k2⟩ m5 e5 => ⟨G5, mu5, k2, ⟨m5.rs.weak k1, m5.mu⟩, Evl.Ex.trans e' (Evl.Ex.trans s2.eg e5)⟩
    · have ei : i = xs.length := by omega
      subst ei
      exact .inl ⟨Wk.stop _ H' (Evl.Ex.trans e' m'.mu.st.in_) (by rw [List.length_map]), q σ' G' H' _ _ ⟨rfl, hI⟩ m' (Evl.Ex.trans s1.eg e')⟩
end
end K16
/-! ## part Fc -/
set_option Elab.async false
set_option linter.all false
set_option maxRecDepth 100000
set_option maxHeartbeats 1000000
/-! comprehensions with a feed; defs with a feed -/
namespace K16
open PySem PySem.Spec PyProof.Rows L2
open Evl (Ex)
def FiE (f : Fe) (wi : TI) (env : En) (P : List D → Prop) : Prop := ∀ σ G H, Rf f G σ env → Wf f G H → ∀ R : It → Hp → Prop, (∀ J G1 H1 ds, StF f G H G1 H1 → P ds → WalkOk J G1 ds → R J H1) → wi σ H R
section
variable {f : Fe} {env : En} {wi : TI} {g : TG} {tt : TT} {te : TE} {tr : TA} {js vs : List Nat}
theorem fi_of {ds : List D} (h : SrcE wi env ds) : FiE f wi env (· = ds) := fun σ G H r w R q => h σ G H r.rs w.in_ R fun J G1 H1 s W => q J G1 H1 ds (StF.of w s) rfl W
theorem fi_mono {P P2 : List D → Prop} (h : FiE f wi env P) (k : ∀ ds, P ds → P2 ds) : FiE f wi env P2 := fun σ G H r w R q => h σ G H r w R fun J G1 H1 ds s hp W => q J G1 H1 ds s (k ds hp) W
theorem fi_rng {k : Nat} (hk : k ≤ 1000) (h : FvA f tr env (fun ds => ∃ n : Nat, 1 ≤ n ∧ n ≤ k ∧ ds = [.int (n : Int)])) : FiE f (iRng1 tr) env (fun ds => ∃ xs : List Nat, (xs ≠ [] ∧ xs.length ≤ k) ∧ ds = xs.map fun (k : Nat) => .int (k : Int)) := fun σ G H r w R q => h σ G H r w _ fun us ds G1 H1 s1 hds r1 => by
  obtain ⟨n, hn1, hn, rfl⟩ := hds
  obtain ⟨v, rfl, rv⟩ := r1.one
  obtain rfl := rv.int
  refine ⟨n, rfl, by omega, by omega, q _ G1 H1 ((List.range n).map fun (k : Nat) => .int (k : Int)) s1 ⟨List.range n, ⟨fun e => ?_, by rw [List.length_range]; exact hn⟩, rfl⟩ ⟨by rw [List.length_map, List.length_range]; omega, fun i H' e' hi => ?_, fun i d G' H' x H'' eg e' hd y => ?_, fun i H' e' hi => ?_⟩⟩
  · have := congrArg List.length e
    rw [List.length_range] at this
    have : n = 0 := this
    omega
  · rw [List.length_map, List.length_range] at hi
    show i < (n : Int).toNat
    omega
  · obtain ⟨rfl, rfl⟩ := y
    have hi : i < n := by
      have z := (List.getElem?_eq_some_iff.mp hd).1
      rw [List.length_map, List.length_range] at z
      exact z
    rw [List.getElem?_map, List.getElem?_range hi] at hd
    have ed : PyData.int (i : Int) = d := Option.some.inj hd
    subst ed
    have e0 : (0 : Int) + (i : Int) = (i : Int) := by omega
    rw [e0]
    exact ⟨G', Stp.refl e', .of_int (by omega)⟩
  · rw [List.length_map, List.length_range] at hi
    show (n : Int).toNat ≤ i
    omega
theorem Rf.wipe {G : Hp} {σ : L2.St} (h : Rf f G σ env) (hv : f.sl ∉ vs) : Rf f G (L2.wipe σ vs) (wipeE env vs) := ⟨h.rs.wipe vs, by
  have : ∀ (vs : List Nat) (σ : L2.St), f.sl ∉ vs → (L2.wipe σ vs)[f.sl]? = σ[f.sl]? := fun vs => by
    induction vs with
    | nil => intro σ _; rfl
    | cons v vs ih =>
      intro σ hn
      have h1 : v ≠ f.sl := fun e => hn (by rw [e]; exact List.mem_cons_self)
      have h2 : f.sl ∉ vs := fun e => hn (List.mem_cons_of_mem _ e)
      show ((L2.wipe σ vs).set v none)[f.sl]? = _
      rw [List.getElem?_set_ne h1, ih σ h2]
  rw [this vs σ hv]
  exact h.fd⟩
/-- what a comprehension makes: the taken items, each with its value -/
structure Made {α : Type} (B : α → Bool → Prop) (S : α → D → Prop) (xs : List α) (M : List (α × D)) : Prop where
  sub : (M.map (·.1)).Sublist xs
  ok : ∀ m ∈ M, B m.1 true ∧ S m.1 m.2
  all : (∀ x ∈ xs, ¬ B x false) → M.map (·.1) = xs
theorem fv_lc {α : Type} {enc : α → D} (P : List α → Prop) (B : α → Bool → Prop) (S : α → D → Prop) {env2 : α → En} (hs : FiE f wi env (fun ds => ∃ xs, P xs ∧ ds = xs.map enc))
    (hg : ∀ xs, P xs → ∀ x ∈ xs, GtE g (enc x) js (wipeE env vs) (env2 x)) (hj : ∀ j ∈ js, j ∈ vs) (hv : f.sl ∉ vs)
    (ht : ∀ xs, P xs → ∀ x ∈ xs, FvT f tt (env2 x) (B x)) (he : ∀ xs, P xs → ∀ x ∈ xs, B x true → FvE f te (env2 x) (S x)) : FvE f (tLc wi g tt te vs) env (fun d => ∃ xs M, P xs ∧ Made B S xs M ∧ d = .list (M.map (·.2))) := fun σ G H r w Q q =>
  hs σ G H r w _ fun J G1 H1 ds s1 hds W => fun Dl hD => by
    obtain ⟨xs, hP, rfl⟩ := hds
    have w1 := s1.wf w
    have hlen : xs.length ≤ 100000 := by have := W.len; rw [List.length_map] at this; exact this
    have r1 := r.mono s1.eg
    refine ⟨fun i m H' => m = xs.length - i ∧ i ≤ xs.length ∧ ∃ G' acc M, Made B S (xs.take i) M ∧ OwF f G1 H1 G' H' Dl acc (M.map (·.2)), ⟨xs.length, by simp, Nat.zero_le _, G1, [], [], ⟨by rw [List.take_zero]; exact List.Sublist.refl _, (fun m hm => by cases hm), fun _ => by rw [List.take_zero]; rfl⟩, OwF.start w1 (StF.refl w1) hD⟩, ?_⟩
    rintro i m H' ⟨rfl, hi, G', acc, M, hM, o⟩
    by_cases hlt : i < xs.length
    · refine .inr ⟨W.go i H' (Evl.Ex.trans o.st.eg o.st.in_) (by rw [List.length_map]; exact hlt), fun H2 => ∃ G' acc M, Made B S (xs.take (i + 1)) M ∧ OwF f G1 H1 G' H2 Dl acc (M.map (·.2)), fun H2 o2 => ⟨xs.length - (i + 1), by omega, rfl, hlt, o2⟩, fun x H2 y => ?_⟩
      have hx : xs[i]? = some xs[i] := List.getElem?_eq_getElem hlt
      have hm : xs[i] ∈ xs := List.getElem_mem hlt
      have hd : (xs.map enc)[i]? = some (enc xs[i]) := by rw [List.getElem?_map, hx] <;> rfl
      obtain ⟨G2, s2, rx⟩ := W.yld i _ G' H' x H2 o.st.eg o.st.in_ hd y
      have s2' := StF.of (o.st.wf w1) s2
      have o2 := o.step s2'
      have tk : xs.take (i + 1) = xs.take i ++ [xs[i]] := by rw [List.take_add_one, hx] <;> rfl
      have rw0 := (r1.mono (Evl.Ex.trans o.st.eg s2.eg)).wipe hv
      refine hg xs hP _ hm x _ G2 H2 rw0.rs s2.in_ rx _ fun σ2 r2 w2 n2 => ?_
      have hsl : f.sl ∉ js := fun h => hv (hj _ h)
      have r2' : Rf f G2 σ2 (env2 xs[i]) := ⟨r2, (n2 _ hsl).trans rw0.fd⟩
      refine ⟨(w2 vs hj).trans (wipe_wipe σ vs vs fun _ h => h), ht xs hP _ hm σ2 G2 H2 r2' (o2.st.wf w1) _ fun b G3 H3 s3 hb => ?_⟩
      have o3 := o2.step s3
      cases b with
      | false =>
        show ∃ G' acc M, _ ∧ OwF f G1 H1 G' H3 Dl acc _
        refine ⟨G3, acc, M, ⟨by rw [tk]; exact hM.sub.trans (List.sublist_append_left _ _), hM.ok, fun h => absurd hb (h _ (by rw [tk]; exact List.mem_append_right _ (List.mem_singleton.mpr rfl)))⟩, o3⟩
      | true =>
        show te σ2 H3 _
        refine he xs hP _ hm hb σ2 G3 H3 (r2'.mono s3.eg) (o3.st.wf w1) _ fun z d G4 H4 s4 hd4 r4 => ?_
        have o4 := o3.step s4
        have hM2 : Made B S (xs.take (i + 1)) (M ++ [(xs[i], d)]) := by
          refine ⟨by rw [tk, List.map_append]; exact hM.sub.append (List.Sublist.refl _), fun m hm' => ?_, fun h => ?_⟩
          · rcases List.mem_append.mp hm' with k | k
            · exact hM.ok m k
            · rw [List.mem_singleton.mp k]
              exact ⟨hb, hd4⟩
          · rw [tk, List.map_append, hM.all fun x hx => h x (by rw [tk]; exact List.mem_append_left _ hx)]
            rfl
        refine ⟨acc, o4.at_, ?_, G4, acc ++ [z], M ++ [(xs[i], d)], hM2, ?_⟩
        · rw [o4.rq.rp.length]
          have h1 := hM.sub.length_le
          rw [List.length_map, List.length_take] at h1
          rw [List.length_map]
          exact Evl.sz_lt (by omega)
        · have o5 := o4.write w1 (o4.rq.append (.cons r4 .nil))
          rw [List.map_append]
          exact o5
    · have ei : i = xs.length := by omega
      subst ei
      rw [List.take_length] at hM
      refine .inl ⟨W.stop _ H' (Evl.Ex.trans o.st.eg o.st.in_) (by rw [List.length_map]), ?_⟩
      have hl : (M.map (·.2)).length ≤ 100000 := by
        have h1 := hM.sub.length_le
        rw [List.length_map] at h1 ⊢
        omega
      obtain ⟨G2, h1, h2, h3⟩ := o.freeze w1 hl
      exact q _ _ G2 H' (s1.trans h1) ⟨xs, M, hP, hM, rfl⟩ h3
end
/-! ### defs with a feed -/
def startF (N : List Str) (ds : List D) : En := none :: (ds.map some ++ List.replicate (N.length - 1 - ds.length) none)
theorem rs_startF {f : Fe} {G : Hp} {N : List Str} {ws : List V} {ds : List D} (hN : 1 ≤ N.length) (h0 : f.sl = 0) (r : RqA G ws ds) : Rf f G (start N (.ref f.p :: ws)) (startF N ds) := by
  have hl := r.rp.length
  refine ⟨⟨?_, fun i d q => ?_⟩, by rw [h0]; rfl⟩
  · unfold L2.start startF
    rw [List.length_append, List.length_map, List.length_cons, List.length_cons, List.length_append, List.length_map, List.length_replicate, List.length_replicate, hl]
    omega
  · unfold startF at q
    cases i with
    | zero => cases q
    | succ i =>
      rw [List.getElem?_cons_succ] at q
      by_cases hi : i < ds.length
      · rw [List.getElem?_append_left (by simpa using hi), List.getElem?_map] at q
        obtain ⟨d', hd, e⟩ := Option.map_eq_some_iff.mp q
        have e' : d' = d := Option.some.inj e
        subst e'
        obtain ⟨v, hv, rv⟩ := r.at_ hd
        refine ⟨v, ?_, rv⟩
        unfold L2.start
        rw [List.map_cons, List.cons_append, List.getElem?_cons_succ, List.getElem?_append_left (by simpa [hl] using hi), List.getElem?_map, hv]
        rfl
      · rw [List.getElem?_append_right (by simpa using hi), List.getElem?_replicate] at q
        split at q <;> cases q
theorem run_fb {R : List D → (D → Prop) → Prop} {N : List Str} {t : TS} (hN : 1 ≤ N.length) (h : ∀ (f : Fe) ds S, f.sl = 0 → R ds S → FbE f t (startF N ds) none S) {vs : List V} {H : Hp} {Q : VK} {E : XK} (hs : spF R vs H Q E) : t { nx := fun _ H' => Q .non H', rt := Q } (start N vs) H := by
  obtain ⟨f, G, ds, ws, S, rfl, hR, w, ra, q⟩ := hs
  have w0 : Wf { f with sl := 0 } G H := ⟨w.in_, w.hid, w.on⟩
  exact h { f with sl := 0 } ds S rfl hR _ G H G H _ w0 ⟨rs_startF hN rfl ra, StF.refl w0⟩ fun v d G2 H2 s hd r => q v d G2 H2 ⟨s.ex, s.eg, s.in_, s.hid, s.on⟩ hd r
theorem spF_len {R : List D → (D → Prop) → Prop} {n : Nat} (h : ∀ ds S, R ds S → ds.length + 1 = n) {vs : List V} {H : Hp} {Q : VK} {E : XK} (hs : spF R vs H Q E) : vs.length = n := by
  obtain ⟨f, G, ds, ws, S, rfl, hR, w, ra, q⟩ := hs
  rw [List.length_cons, ra.rp.length]
  exact h ds S hR
section
variable {P : Program} {w : World} {K : PySem.W.Frag} {mg : Str → Option Value} {base : Heap}
theorem ok_feed {x : Str} {N ps : List Str} {k : Nat} {R : List D → (D → Prop) → Prop} (T : Tx K mg) (d : He.DefD) (i j : Nat) (hd : fn[i]? = some d) (hat : d.at_ = (x, none)) (hg : fa[j]? = some (.glo x)) (h0 : d.dfl = []) (h1 : d.kwd = []) (S : FnScope N ps d.scope) (hN : 1 ≤ N.length)
    (hb : ∀ (kV doc pm : Value) (an : Option Addr) (cdv ct : Value) (us : List Value), us.length = ps.length → bindArgs (PySem.W.fnOf d.name d.qual d.params d.body d.scope .none kV doc pm an cdv ct) ⟨us, []⟩ = pure (ps.zip us))
    (len : ∀ ds S, R ds S → ds.length + 1 = ps.length)
    (body : ∀ (cdv : Value) (A : Around) (outer : List Env) (s : Shared) (H : Hp) (E : XK), Room k (A.deeper (envOfC d.qual d.scope s.heap.objs.size (He.ga K x) cdv)) →
      ∃ t, PSs (cxOf CX0 P w K mg base N d.qual d.scope (He.ga K x) cdv A outer s H E).nox d.body t ∧ ∀ (f : Fe) ds S, f.sl = 0 → R ds S → FbE f t (startF N ds) none S) : Ok P w K mg base (k + 1) x ps [] (spF R) :=
  ok_any T d i j hd hat hg h0 h1 S hb (fun vs H Q E h => spF_len len h) fun cdv A outer s H vs Q E hr hs => by
    obtain ⟨t, h1, h2⟩ := body cdv A outer s H E hr
    exact ⟨t, PSs.nox h1, run_fb hN h2 hs⟩
theorem ok_feedG {x : Str} {N ps : List Str} {k : Nat} {R : List D → (D → Prop) → Prop} (T : Tx K mg) (d : He.DefD) (i j : Nat) (hd : fn[i]? = some d) (hat : d.at_ = (x, none)) (hg : fa[j]? = some (.glo x)) (h0 : d.dfl = []) (h1 : d.kwd = []) (S : FnScope N ps d.scope) (hN : 1 ≤ N.length)
    (hb : ∀ (kV doc pm : Value) (an : Option Addr) (cdv ct : Value) (us : List Value), us.length = ps.length → bindArgs (PySem.W.fnOf d.name d.qual d.params d.body d.scope .none kV doc pm an cdv ct) ⟨us, []⟩ = pure (ps.zip us))
    (len : ∀ ds S, R ds S → ds.length + 1 = ps.length)
    (body : ∀ (cdv : Value) (A : Around) (outer : List Env) (s : Shared) (H : Hp), A.guards = some [] → Room k (A.deeper (envOfC d.qual d.scope s.heap.objs.size (He.ga K x) cdv)) →
      ∃ t, PSs (cxOf CX0 P w K mg base N d.qual d.scope (He.ga K x) cdv A outer s H E0).nox d.body t ∧ ∀ (f : Fe) ds S, f.sl = 0 → R ds S → FbE f t (startF N ds) none S) : OkG P w K mg base (k + 1) x ps (spF R) :=
  okG_any T d i j hd hat hg h0 h1 S hb (fun vs H Q E h => spF_len len h) fun cdv A outer s H vs Q hgd hr hs => by
    obtain ⟨t, h1, h2⟩ := body cdv A outer s H hgd hr
    exact ⟨t, h1, run_fb hN h2 hs⟩
end
end K16
/-! ## part P13 -/
set_option Elab.async false
set_option linter.all false
set_option maxRecDepth 100000
set_option maxHeartbeats 1000000
namespace K16
open PySem PySem.Spec PyProof.Rows L2
open Evl (Ex)
open StX (tStar pa_star)
section
variable {P : Program} {w : World} {K : PySem.W.Frag} {mg : Str → Option Value} {base : Heap}
def R_Lpick (ds : List D) (S : D → Prop) : Prop := ∃ (xs : List D) (q : D), ds = [q] ∧ (q = .list xs ∨ q = .tuple xs) ∧ 1 ≤ xs.length ∧ xs.length ≤ 1000 ∧ S = fun d => d ∈ xs
theorem ok_Lpick (T : Tx K mg) (C_Ldraw : Ok P w K mg base 1 "_law_draw" ["_law_feed_here", "_law_many"] [] sp_Ldraw) : Ok P w K mg base 2 "_law_pick" ["_law_feed_here", "_law_some_here"] [] (spF R_Lpick) := by
  refine ok_feed T d_Lpick 38 38 rfl rfl rfl rfl rfl sc_Lpick (by decide) (fun _ _ _ _ _ _ us hl => match us, hl with | [_, _], _ => rfl) ?_ ?_
  · rintro ds S ⟨xs, q, rfl, hq, h1, h2, rfl⟩; rfl
  intro cdv A outer s H E hr
  have nd := sc_Lpick.nd
  refine ⟨_, (pss_one (ps_ret (pe_ix ix' (pv 1) (pe_go C_Ldraw hr (by decide) rfl (pa_cons (pv 0) (pa_cons (pe_callB call_len' rfl (T.free 62) boot_len (pa_cons (pv 1) pa_nil)) pa_nil))) (fun _ _ => rfl)))), ?_⟩
  rintro ⟨sl, fp, fc, fns⟩ ds S h0 ⟨xs, q, rfl, hq, h1, h2, rfl⟩
  obtain rfl : sl = 0 := h0
  refine fb_ret (fv_op (fv_of (ev_get (d := q) rfl)) (fv_draw (m := xs.length) h1 h2 (ev_cb (ea_cons (ev_get (d := q) rfl) ea_nil) (.inl ⟨xs, hq.imp (fun e => by rw [e]) (fun e => by rw [e]), rfl⟩))) ?_)
  rintro a b rfl ⟨k, hk, rfl⟩
  exact ⟨xs[k], ⟨xs, k, hq, rfl, List.getElem?_eq_getElem hk⟩, List.getElem_mem hk⟩
def R_Lsome (ds : List D) (S : D → Prop) : Prop := ∃ (n : Sx) (l : Int), ds = [lS n, .int l] ∧ (l = 0 ∨ l = 1) ∧ n.length ≤ 8 ∧ (l = 1 → n ≠ []) ∧ S = fun d => ∃ s : Sx, s.Sublist n ∧ (l = 1 → s ≠ []) ∧ d = tS s
theorem made_map {α : Type} {h : α → D} {B : α → Bool → Prop} {xs : List α} {M : List (α × D)} (m : Made B (fun x d => d = h x) xs M) : M.map (·.2) = (M.map (·.1)).map h := by
  rw [List.map_map]
  exact List.map_congr_left fun p hp => (m.ok p hp).2
theorem ok_Lsome (T : Tx K mg) (C_Lpick : Ok P w K mg base 2 "_law_pick" ["_law_feed_here", "_law_some_here"] [] (spF R_Lpick)) (C_Ldraw : Ok P w K mg base 1 "_law_draw" ["_law_feed_here", "_law_many"] [] sp_Ldraw) : Ok P w K mg base 3 "_law_some" ["_law_feed_here", "_law_names_here", "_law_least_here"] [] (spF R_Lsome) := by
  refine ok_feed T d_Lsome 43 43 rfl rfl rfl rfl rfl sc_Lsome (by decide) (fun _ _ _ _ _ _ us hl => match us, hl with | [_, _, _], _ => rfl) ?_ ?_
  · rintro ds S ⟨n, l, rfl, hl, hn, hne, rfl⟩; rfl
  intro cdv A outer s H E hr
  have nd := sc_Lsome.nd
  refine ⟨_, (pss_cons (ps_setLc (i := 3) (own := [("_law_x", 4)]) (g := (gName 4)) (wi := (iList K (tVar 1))) (tt := (tTest (tOp (rD2 REq) (tCall sp_Ldraw [] E0 (tCons (tVar 0) (tCons (tC (.int 2)) tNil))) (tC (.int 0))))) (te := (tVar 4)) rfl nd rfl rfl (sw_true rfl rfl rfl (by decide +kernel)) (pi_list (pv 1)) (blkOk_by (N := N_Lsome) (sc := defScope s_Lsome) (by decide +kernel)) (fun _ _ _ _ _ => (pg_name (i := 4) nd rfl (by first | exact Or.inl rfl | exact Or.inr rfl))) (fun _ _ _ _ _ => (pts_one (pt_cmpR (op_eq' (hu64 hr)) (pe_go C_Ldraw hr (by decide) rfl (pa_cons (pv 0) (pa_cons pe_int pa_nil))) pe_int (nomark _)))) (fun _ _ _ _ _ => (pv 4))) (pss_cons (ps_if (PW.pt (pw_and (pt_cmpR (op_eq' (hu64 hr)) (pv 2) pe_int (nomark _)) (pw_and1 (pt_cmpR (op_eq' (hu64 hr)) (pv 3) (pe_lst pa_nil) (nomark _))))) (pss_one (ps_set (i := 3) nd rfl (by first | exact Or.inl rfl | exact Or.inr rfl) (pe_lst (pa_cons (pe_go C_Lpick hr (by decide) rfl (pa_cons (pv 0) (pa_cons (pv 1) pa_nil))) pa_nil)))) pss_nil) (pss_one (ps_ret (pe_callTy call_tuple' rfl (T.free 65) boot_tuple (pa_cons (pv 3) pa_nil)))))), ?_⟩
  rintro ⟨sl, fp, fc, fns⟩ ds S h0 ⟨n, l, rfl, hl, hn, hne, rfl⟩
  obtain rfl : sl = 0 := h0
  refine fb_seq (fs_set (S := fun d => ∃ s : Sx, s.Sublist n ∧ d = lS s) ?_ trivial (show (3 : Nat) ≠ 0 by decide)) ?_
  · refine fv_mono (fv_lc (α := Nm) (enc := tN) (js := [4]) (fun xs => xs = n) (fun _ _ => True) (fun x d => d = tN x) (env2 := fun x => [none, some (lS n), some (.int l), none, some (tN x)]) (fi_mono (fi_of (src_list (ev_get rfl))) fun ds h => ⟨n, rfl, h⟩) (fun xs _ x _ => gt_name) (by decide) (show (0 : Nat) ∉ [4] by decide) (fun xs _ x _ => ft_test ?_) (fun xs _ x _ _ => fv_of (ev_get rfl))) ?_
    · refine fv_op (fv_draw (m := 2) (by decide) (by decide) (ev_int (by decide))) (fv_of (ev_int (by decide))) ?_
      rintro a b ⟨k, hk, rfl⟩ rfl
      exact ⟨_, eq_int _ _, _, rfl⟩
    · rintro d ⟨xs, M, rfl, hM, rfl⟩
      exact ⟨M.map (·.1), hM.sub, by rw [made_map hM]; rfl⟩
  rintro env2 mu2 ⟨⟨d, ⟨s, hs, rfl⟩, rfl⟩, rfl⟩
  have fin : ∀ s : Sx, s.Sublist n → (l = 1 → s ≠ []) → FbE ⟨0, fp, fc, fns⟩ (tRet (tCB (rD RTup) (tCons (tVar 3) tNil))) [none, some (lS n), some (.int l), some (lS s), none] none (fun d => ∃ s : Sx, s.Sublist n ∧ (l = 1 → s ≠ []) ∧ d = tS s) := fun s hs h1 =>
    fb_ret (fv_mono (fv_of (ev_cb (ea_cons (ev_get rfl) ea_nil) (tup_lst (s.map tN)))) fun d e => ⟨s, hs, h1, e⟩)
  refine fb_seq (K := fun e m => m = none ∧ ∃ s : Sx, s.Sublist n ∧ (l = 1 → s ≠ []) ∧ e = [none, some (lS n), some (.int l), some (lS s), none]) (fs_if (ft_of (b := decide (l = 1) && decide (s = [])) ?_) (fun h => ?_) (fun h => ?_)) ?_
  · exact et_and (et_test (ev_op (ev_get rfl) (ev_int (by decide)) (eq_int _ _))) (fun _ => et_test (ev_op (ev_get rfl) (ev_lst ea_nil (by decide)) (eqnil_N s)))
  · have h1 : l = 1 ∧ s = [] := by simpa using h.symm
    refine fs_mono (fs_set (fv_lst (Ra := fun ds => ∃ x ∈ n, ds = [tN x]) (fa_mono (fa_cons (fv_goF (S := fun d => d ∈ n.map tN) (ea_cons (ev_get rfl) ea_nil) ⟨n.map tN, _, rfl, .inl rfl, by rw [List.length_map]; exact List.length_pos_iff.mpr (hne h1.1), by rw [List.length_map]; omega, rfl⟩) fa_nil) ?_) ?_) trivial (show (3 : Nat) ≠ 0 by decide)) ?_
    · rintro ds ⟨d, es, hd, rfl, rfl⟩
      obtain ⟨x, hx, rfl⟩ := List.mem_map.mp hd
      exact ⟨x, hx, rfl⟩
    · rintro ds ⟨x, hx, rfl⟩
      show 1 ≤ 100000
      decide
    · rintro e m ⟨⟨d, ⟨ds, ⟨x, hx, rfl⟩, rfl⟩, rfl⟩, rfl⟩
      exact ⟨rfl, [x], List.singleton_sublist.mpr hx, fun _ => by simp, rfl⟩
  · refine fs_mono fs_next ?_
    rintro e m ⟨rfl, rfl⟩
    refine ⟨rfl, s, hs, fun e1 e2 => ?_, rfl⟩
    rw [e1, e2] at h
    simp at h
  · rintro e m ⟨rfl, s, hs, h1, rfl⟩
    exact fin s hs h1
end
end K16
/-! ## part P14 -/
set_option Elab.async false
set_option linter.all false
set_option maxRecDepth 100000
set_option maxHeartbeats 1000000
namespace K16
open PySem PySem.Spec PyProof.Rows L2
open Evl (Ex)
open StX (tStar pa_star)
section
variable {P : Program} {w : World} {K : PySem.W.Frag} {mg : Str → Option Value} {base : Heap}
theorem OwF.other {f : Fe} {G0 H0 G H : Hp} {l m : Addr} {ws : List V} {ds : List D} {o : HO} (w0 : Wf f G0 H0) (b : OwF f G0 H0 G H m ws ds) (hm : m ≠ l) (st : StF f G0 H0 G (upd H l o)) : OwF f G0 H0 G (upd H l o) m ws ds :=
  ⟨st, b.new, b.hid, by rw [upd_ne hm]; exact b.at_, b.rq⟩
abbrev vN (s : Sx) : List V := s.map fun i => V.str (txt i)
theorem rqN {G : Hp} : ∀ s : Sx, RqA G (vN s) (s.map tN)
  | [] => .nil
  | x :: s => .cons (.of_str (by have := (txt_ok x).2; omega)) (rqN s)
def allN : Sx := [0, 3, 4, 5, 6, 1, 2, 7]
theorem perm_erase : ∀ (L : Sx) (k : Nat) (h : k < L.length), (L[k] :: L.eraseIdx k).Perm L
  | x :: L, 0, _ => .refl _
  | x :: L, k + 1, h => by
    have ih := perm_erase L k (by simpa using h)
    rw [List.getElem_cons_succ, List.eraseIdx_cons_succ]
    exact (List.Perm.swap _ _ _).trans (ih.cons x)
theorem vN_snoc (R : Sx) (x : Nm) : vN (R ++ [x]) = vN R ++ [V.str (txt x)] := by
  show List.map _ (R ++ [x]) = _
  rw [List.map_append]
  rfl
theorem vN_erase : ∀ (L : Sx) (k : Nat), (vN L).eraseIdx k = vN (L.eraseIdx k)
  | [], k => rfl
  | x :: L, 0 => rfl
  | x :: L, k + 1 => by
    rw [List.eraseIdx_cons_succ]
    show V.str (txt x) :: (vN L).eraseIdx k = V.str (txt x) :: vN (L.eraseIdx k)
    rw [vN_erase L k]
/-- two lists of one's own, of names -/
structure TwoL (f : Fe) (G0 H0 G1 G H : Hp) (σ : L2.St) (la lb : Addr) (L R : Sx) (i : Nat) : Prop where
  eg : Ex G1 G
  s0 : σ[0]? = some (some (.ref f.p))
  s2 : σ[2]? = some (some (.ref la))
  s3 : σ[3]? = some (some (.ref lb))
  oa : OwF f G0 H0 G H la (vN L) (L.map tN)
  ob : OwF f G0 H0 G H lb (vN R) (R.map tN)
  l1 : L.length + i = 8
  l2 : R.length = i
  nd : (L ++ R).Nodup
theorem pop_nodup {L R : Sx} {k : Nat} (hk : k < L.length) (h : (L ++ R).Nodup) : (L.eraseIdx k ++ (R ++ [L[k]])).Nodup := by
  have p : (L.eraseIdx k ++ (R ++ [L[k]])).Perm (L ++ R) := by
    have h1 : (L[k] :: L.eraseIdx k).Perm L := perm_erase L k hk
    have h2 : (L.eraseIdx k ++ (R ++ [L[k]])).Perm ((L[k] :: L.eraseIdx k) ++ R) := by
      rw [← List.append_assoc]
      exact (List.perm_append_singleton _ _).trans (.refl _)
    exact h2.trans (h1.append_right R)
  exact p.nodup_iff.mpr h
theorem seqIx {k n : Nat} (h : k < n) : seqIndex? (k : Int) n = some k := by
  unfold seqIndex?
  simp
  omega
def R_Lnames (ds : List D) (S : D → Prop) : Prop := ∃ mo : Nat, ds = [.int (mo : Int)] ∧ 1 ≤ mo ∧ mo ≤ 5 ∧ S = fun d => ∃ s : Sx, RisN s ∧ 1 ≤ s.length ∧ s.length ≤ mo ∧ d = lS s
theorem ok_Lnames (T : Tx K mg) (C_Lpick : Ok P w K mg base 2 "_law_pick" ["_law_feed_here", "_law_some_here"] [] (spF R_Lpick)) (C_Ldraw : Ok P w K mg base 1 "_law_draw" ["_law_feed_here", "_law_many"] [] sp_Ldraw) : Ok P w K mg base 3 "_law_names" ["_law_feed_here", "_law_most"] [] (spF R_Lnames) := by
  refine ok_feed T d_Lnames 44 44 rfl rfl rfl rfl rfl sc_Lnames (by decide) (fun _ _ _ _ _ _ us hl => match us, hl with | [_, _], _ => rfl) ?_ ?_
  · rintro ds S ⟨mo, rfl, h1, h5, rfl⟩; rfl
  intro cdv A outer s H E hr
  have nd := sc_Lnames.nd
  refine ⟨_, (pss_cons (ps_par (i := 2) (j := 3) rfl nd rfl rfl (by decide) rfl rfl (pa_cons (pe_lst (pa_cons pe_str (pa_cons pe_str (pa_cons pe_str (pa_cons pe_str (pa_cons pe_str (pa_cons pe_str (pa_cons pe_str (pa_cons pe_str pa_nil))))))))) (pa_cons (pe_lst pa_nil) pa_nil)) (by with_unfolding_all rfl)) (pss_cons (ps_for PassesOwn.never rfl (pi_range1 rfl (T.free 70) (pa_cons (pe_callB (call_min2' rfl) rfl (T.free 72) boot_min (pa_cons (pv 1) (pa_cons (pe_go C_Lpick hr (by decide) rfl (pa_cons (pv 0) (pa_cons (pe_lst (pa_cons pe_int (pa_cons pe_int (pa_cons pe_int (pa_cons pe_int (pa_cons pe_int (pa_cons pe_int (pa_cons pe_int (pa_cons pe_int (pa_cons pe_int pa_nil)))))))))) pa_nil))) pa_nil))) pa_nil)) (pg_name (i := 4) nd rfl (by first | exact Or.inl rfl | exact Or.inr rfl)) (pss_one (ps_expr (pe_bm PySem.F.plainAttrs_list PySem.F.slot_list_append PySem.F.type_list_append mt_append (pv 3) (pa_cons (pe_bm PySem.F.plainAttrs_list PySem.F.slot_list_pop PySem.F.type_list_pop mt_popAt (pv 2) (pa_cons (pe_go C_Ldraw hr (by decide) rfl (pa_cons (pv 0) (pa_cons (pe_callB call_len' rfl (T.free 62) boot_len (pa_cons (pv 2) pa_nil)) pa_nil))) pa_nil)) pa_nil))))) (pss_one (ps_ret (pe_callB call_sorted' rfl (T.free 68) boot_sorted (pa_cons (pv 3) pa_nil)))))), ?_⟩
  rintro ⟨sl, fp, fc, fns⟩ ds S h0 ⟨mo, rfl, h1, h5, rfl⟩
  obtain rfl : sl = 0 := h0
  intro σ G H G0 H0 Dn w m q
  obtain ⟨rs, st⟩ := m
  have st : StF _ G0 H0 G H := st
  refine ⟨by show 8 ≤ sizeLine; decide, fun la hla => ⟨by show 0 ≤ sizeLine; decide, fun lb hlb => ⟨_, _, rfl, ?_⟩⟩⟩
  have oa := (OwF.start w st hla).write w (rqN allN)
  rw [upd_upd] at oa
  have hab : la ≠ lb := fun e => by
    rw [← e] at hlb
    rw [upd_same] at hlb
    cases hlb
  have ob := OwF.start w oa.st hlb
  have oa2 := OwF.other w oa hab ob.st
  have rf : Rf ⟨0, fp, fc, fns⟩ G ((σ.set 2 (some (.ref la))).set 3 (some (.ref lb))) [none, some (.int (mo : Int)), none, none, none] := ⟨(rs.rs.forget (j := 2)).forget (j := 3), by
    rw [List.getElem?_set_ne (show (3 : Nat) ≠ 0 by decide), List.getElem?_set_ne (show (2 : Nat) ≠ 0 by decide)]
    exact rs.fd⟩
  have hl5 : σ.length = 5 := rs.rs.len
  dsimp only
  unfold tSeq tFor
  refine fi_rng (f := ⟨0, fp, fc, fns⟩) (k := mo) (by omega) ?_ _ G _ rf (ob.st.wf w) _ fun J G1 H3 ds s1 hds Wk => ?_
  · refine fa_mono (fa_cons (S := fun d => ∃ n : Nat, 1 ≤ n ∧ n ≤ mo ∧ d = .int (n : Int)) (fv_cb (fa_cons (S := fun d => d = .int (mo : Int)) (fv_of (ev_get rfl)) (fa_cons (fv_goF (S := fun d => d ∈ ([1, 2, 2, 3, 3, 3, 4, 4, 5] : List Nat).map fun (n : Nat) => PyData.int (n : Int)) (ea_cons (d := .list (([1, 2, 2, 3, 3, 3, 4, 4, 5] : List Nat).map fun (n : Nat) => PyData.int (n : Int))) ?_ ea_nil) ⟨_, _, rfl, .inl rfl, by decide, by decide, rfl⟩) fa_nil)) ?_) fa_nil) ?_
    · exact ev_lst (ea_cons (ev_int (by decide)) (ea_cons (ev_int (by decide)) (ea_cons (ev_int (by decide)) (ea_cons (ev_int (by decide)) (ea_cons (ev_int (by decide)) (ea_cons (ev_int (by decide)) (ea_cons (ev_int (by decide)) (ea_cons (ev_int (by decide)) (ea_cons (ev_int (by decide)) ea_nil))))))))) (by show 9 ≤ 100000; decide)
    · rintro ds ⟨a, es, rfl, ⟨b, es2, hb, rfl, rfl⟩, rfl⟩
      obtain ⟨n, hn, rfl⟩ := List.mem_map.mp hb
      have hn1 : 1 ≤ n ∧ n ≤ 5 := (show ∀ n ∈ ([1, 2, 2, 3, 3, 3, 4, 4, 5] : List Nat), 1 ≤ n ∧ n ≤ 5 by decide) n hn
      refine ⟨.int (if (n : Int) < (mo : Int) then (n : Int) else (mo : Int)), ⟨_, _, rfl, rfl⟩, ?_⟩
      split
      · exact ⟨n, hn1.1, by omega, rfl⟩
      · exact ⟨mo, h1, Nat.le_refl _, rfl⟩
    · rintro ds ⟨d, es, ⟨n, h1, h2, rfl⟩, rfl, rfl⟩
      exact ⟨n, h1, h2, rfl⟩
  obtain ⟨xs, ⟨hne, hlen⟩, rfl⟩ := hds
  have T0 : TwoL ⟨0, fp, fc, fns⟩ G0 H0 G1 G1 H3 ((σ.set 2 (some (.ref la))).set 3 (some (.ref lb))) la lb allN [] 0 := ⟨Evl.Ex.refl _, rf.fd, by
      rw [List.getElem?_set_ne (by decide), List.getElem?_set_self (by rw [hl5]; decide)], by rw [List.getElem?_set_self (by rw [List.length_set, hl5]; decide)], oa2.step s1, ob.step s1, rfl, rfl, by decide⟩
  refine ⟨fun i k σ' H' => k = xs.length - i ∧ i ≤ xs.length ∧ ∃ G' L R, TwoL ⟨0, fp, fc, fns⟩ G0 H0 G1 G' H' σ' la lb L R i, ⟨xs.length, by simp, Nat.zero_le _, G1, allN, [], T0⟩, ?_⟩
  rintro i k σ' H' ⟨rfl, hi, G', L, R, T⟩
  by_cases hlt : i < xs.length
  · refine .inr ⟨Wk.go i H' (Evl.Ex.trans T.eg T.oa.st.in_) (by rw [List.length_map]; exact hlt), fun σ2 H2 => ∃ G' L R, TwoL ⟨0, fp, fc, fns⟩ G0 H0 G1 G' H2 σ2 la lb L R (i + 1), fun σ2 H2 o2 => ⟨xs.length - (i + 1), by omega, rfl, hlt, o2⟩, fun v H2 y => ?_⟩
    have hd : (xs.map fun (k : Nat) => PyData.int (k : Int))[i]? = some (PyData.int ((xs[i] : Nat) : Int)) := by rw [List.getElem?_map, List.getElem?_eq_getElem hlt] <;> rfl
    obtain ⟨G2, s2, rx⟩ := Wk.yld i _ G' H' v H2 T.eg T.oa.st.in_ hd y
    have s2' := StF.of (T.oa.st.wf w) s2
    have oa := T.oa.step s2'
    have ob := T.ob.step s2'
    have t0 : (σ'.set 4 (some v))[0]? = some (some (.ref fp)) := by rw [List.getElem?_set_ne (by decide)]; exact T.s0
    have t2 : (σ'.set 4 (some v))[2]? = some (some (.ref la)) := by rw [List.getElem?_set_ne (by decide)]; exact T.s2
    have t3 : (σ'.set 4 (some v))[3]? = some (some (.ref lb)) := by rw [List.getElem?_set_ne (by decide)]; exact T.s3
    refine ⟨.ref lb, t3, .inl ⟨rfl, vN R, .inl (.inl ob.at_)⟩, .ref la, t2, .inl ⟨rfl, vN L, .inl (.inl oa.at_)⟩, .ref fp, t0, .ref la, t2, ?_⟩
    have ll := T.l1
    have lr := T.l2
    obtain ⟨Gf, sf, ef, rqf⟩ := oa.freeze w (by rw [List.length_map]; omega)
    refine ⟨Gf, [.list (L.map tN)], .int ((L.map tN).length : Int), len_lst _, sf.in_, .cons rqf .nil, fun z G3 H3 s3 r3 => ?_⟩
    have s3' : StF ⟨0, fp, fc, fns⟩ G2 H2 G2 H3 := StF.draw (oa.st.wf w) (fun a o _ h => s3.ex a o h) (oa.st.on.ex s3.ex)
    have oa3 := oa.step s3'
    have ob3 := ob.step s3'
    obtain ⟨fs, fr, ft, F⟩ := oa3.st.on
    dsimp only [tNil]
    rw [List.append_nil, r3.int, List.length_map]
    refine ⟨fp, fc, fns, fs, fr, ft, L.length, rfl, by omega, by omega, F, fun k H4 s' r' t' hk e F' => ?_⟩
    have s4 : StF ⟨0, fp, fc, fns⟩ G2 H3 G2 H4 := StF.draw (oa3.st.wf w) e ⟨s', r', t', F'⟩
    have oa4 := oa3.step s4
    have ob4 := ob3.step s4
    refine ⟨la, vN L, (k : Int), k, V.str (txt L[k]), rfl, rfl, oa4.at_, by omega, by omega, by rw [List.length_map]; exact seqIx hk, by rw [List.getElem?_map, List.getElem?_eq_getElem hk]; rfl, ?_⟩
    rw [vN_erase]
    have oa5 := oa4.write w (rqN (G := G2) (L.eraseIdx k))
    have ob5 := OwF.other w ob4 (Ne.symm hab) oa5.st
    refine ⟨lb, vN R, V.str (txt L[k]), rfl, rfl, ob5.at_, by rw [List.length_map, lr]; exact Evl.sz_lt (by omega), ?_⟩
    have ob6 := ob5.write w (rqN (G := G2) (R ++ [L[k]]))
    have oa6 := OwF.other w oa5 hab ob6.st
    rw [show vN R ++ [V.str (txt L[k])] = vN (R ++ [L[k]]) from (vN_snoc R L[k]).symm]
    refine ⟨G2, L.eraseIdx k, R ++ [L[k]], Evl.Ex.trans T.eg s2.eg, t0, t2, t3, oa6, ob6, ?_, ?_, pop_nodup hk T.nd⟩
    · rw [List.length_eraseIdx_of_lt hk]
      omega
    · rw [List.length_append, lr]
      rfl
  · have ei : i = xs.length := by omega
    subst ei
    refine .inl ⟨Wk.stop _ H' (Evl.Ex.trans T.eg T.oa.st.in_) (by rw [List.length_map]), ?_⟩
    have lr := T.l2
    have hpos := List.length_pos_iff.mpr hne
    obtain ⟨Gf, sf, ef, rqf⟩ := T.ob.freeze w (by rw [List.length_map]; omega)
    refine ⟨.ref lb, T.s3, Gf, [lS R], lS (srtN R), srt_names R (by omega), sf.in_, .cons rqf .nil, fun z G3 H3 s3 r3 => ?_⟩
    refine q z _ G3 H3 (sf.trans (StF.of (sf.wf w) s3)) ⟨srtN R, srt_ris ordN (List.nodup_append.mp T.nd).2.1, ?_, ?_, rfl⟩ r3
    · rw [(srt_perm R).length_eq]
      omega
    · rw [(srt_perm R).length_eq]
      omega
end
end K16
/-! ## part Fd -/
set_option Elab.async false
set_option linter.all false
set_option maxRecDepth 100000
set_option maxHeartbeats 1000000
/-! pairs that are built and taken apart, with a feed -/
namespace K16
open PySem PySem.Spec PyProof.Rows L2
open Evl (Ex)
section
variable {f : Fe} {env : En} {mu : Mu} {te : TE} {tr : TA} {g : TG} {S : D → Prop} {js : List Nat} {K : PySem.W.Frag}
theorem fv_tup {Ra : List D → Prop} (h : FvA f tr env Ra) (hl : ∀ ds, Ra ds → ds.length ≤ 100000) : FvE f (tTup tr) env (fun d => ∃ ds, Ra ds ∧ d = .tuple ds) := fun σ G H r w Q q =>
  h σ G H r w _ fun vs ds G1 H1 s1 hds r1 => ⟨Evl.sz_of (by rw [r1.rp.length]; exact hl ds hds), fun p hp => by
    have w1 := s1.wf w
    have s2 := Stp.new (o := .tup vs) w1.in_ hp
    exact q _ _ _ _ (s1.trans (StF.of w1 s2)) ⟨ds, hds, rfl⟩ (.of_tup upd_same (r1.mono s2.eg) (hl ds hds))⟩
theorem fs_asg2 {env2 : D → En} (h : FvE f te env S) (k : ∀ d, S d → GtE g d js env (env2 d)) (ho : Off js mu) (hi : f.sl ∉ js) : FsE f (tAsg te g) env mu (fun e m => (∃ d, S d ∧ e = env2 d) ∧ m = mu) := fun σ G H G0 H0 Dn w m q => h σ G H m.rs (m.wf w) _ fun v d G2 H2 s hd r =>
  k d hd v σ G2 H2 (m.rs.mono s.eg).rs s.in_ r _ fun σ2 r2 _ n2 => q σ2 G2 H2 _ _ ⟨⟨d, hd, rfl⟩, rfl⟩ ⟨⟨r2, (n2 _ hi).trans m.rs.fd⟩, (m.mu.step s).at_ n2 ho⟩ s.eg
/-- a, m = e, [] by way of a tuple: m a list of one's own -/
theorem fs_asgOwn {i m : Nat} (h : FvE f te env S) (hm : m < env.length) (hi : i ≠ f.sl) (hj : m ≠ f.sl) : FsE f (tAsg (tTup (tCons te (tCons (tLst tNil) tNil))) (gTup K 2 (gCons (gName i) (gCons (gName m) gNil)))) env none (fun e mm => ∃ x, S x ∧ e = (env.set i (some x)).set m none ∧ mm = some (m, [])) := fun σ G H G0 H0 Dn w mm q => h σ G H mm.rs (mm.wf w) _ fun v d G2 H2 s hd r => by
  refine ⟨Nat.zero_le _, fun p hp => ⟨by show 2 ≤ sizeLine; decide, fun t ht => ?_⟩⟩
  have o1 := OwF.start w (mm.mu.step s) hp
  have w1 := o1.st.wf w
  have o2 := o1.step (StF.of w1 (Stp.own (o := .tup [v, .ref p]) w1.in_ ht))
  refine ⟨t, [v, .ref p], rfl, .inl (.inl upd_same), rfl, v, [.ref p], rfl, .ref p, [], rfl, rfl, ?_⟩
  refine q _ G2 _ _ _ ⟨d, hd, rfl, rfl⟩ ⟨⟨((mm.rs.mono s.eg).rs.set r).forget, ?_⟩, p, [], ?_, o2⟩ s.eg
  · rw [List.getElem?_set_ne hj, List.getElem?_set_ne hi]
    exact mm.rs.fd
  · rw [List.getElem?_set_self (by rw [List.length_set, mm.rs.rs.len]; exact hm)]
end
end K16
/-! ## part P15 -/
set_option Elab.async false
set_option linter.all false
set_option maxRecDepth 100000
set_option maxHeartbeats 1000000
namespace K16
open PySem PySem.Spec PyProof.Rows L2
open Evl (Ex)
open StX (tStar pa_star)
section
variable {P : Program} {w : World} {K : PySem.W.Frag} {mg : Str → Option Value} {base : Heap}
/-- a triple of a trust of the houses n -/
structure TriOk (n : Sx) (t : Tri) : Prop where
  lne : t.lots ≠ []
  lris : RisS t.lots
  lset : ∀ s ∈ t.lots, s ≠ [] ∧ SetOf n s
  fne : t.fears ≠ []
  fris : RisS t.fears
  fset : ∀ s ∈ t.fears, SetOf n s ∧ t.h ∉ s
theorem vt_of {T : Tru} {n : Sx} (hn : RisN n) (h1 : 1 ≤ n.length) (h5 : n.length ≤ 5) (hh : T.map Tri.h = n) (ht : ∀ t ∈ T, TriOk n t) : VT T := by
  have e : housesF T = n := hh
  have hl : T.length = n.length := by rw [← hh, List.length_map]
  refine ⟨fun e => ?_, by omega, by rw [e]; exact hn, fun t h => (ht t h).lne, fun t h => (ht t h).lris, fun t h => by rw [e]; exact (ht t h).lset, fun t h => (ht t h).fne, fun t h => (ht t h).fris, fun t h => by rw [e]; exact (ht t h).fset⟩
  rw [e] at hl
  have : n.length = 0 := hl.symm
  omega
theorem canS_ne {l : List Sx} (h : l ≠ []) : canS l ≠ [] := fun e => by
  obtain ⟨x, hx⟩ := List.exists_mem_of_ne_nil _ h
  have : x ∈ canS l := canon_mem.mpr hx
  rw [e] at this
  cases this
def LotsOk (n : Sx) (L : List Sx) : Prop := L ≠ [] ∧ ∀ s ∈ L, s.Sublist n ∧ s ≠ []
def FearsOk (n : Sx) (x : Nm) (F : List Sx) : Prop := F ≠ [] ∧ ∀ s ∈ F, s.Sublist (n.filter fun y => !decide (y = x))
theorem tri_ok {n : Sx} (hn : RisN n) {x : Nm} {L F : List Sx} (hL : LotsOk n L) (hF : FearsOk n x F) : TriOk n ⟨x, canS L, canS F⟩ where
  lne := canS_ne hL.1
  lris := canon_ris ordS _
  lset := fun s hs => by
    have := hL.2 s (canon_mem.mp hs)
    exact ⟨this.2, setOf_sub hn this.1⟩
  fne := canS_ne hF.1
  fris := canon_ris ordS _
  fset := fun s hs => by
    have := hF.2 s (canon_mem.mp hs)
    refine ⟨setOf_sub hn (this.trans List.filter_sublist), fun hx => ?_⟩
    have := (List.mem_filter.mp (this.subset hx)).2
    simp at this
theorem sized_ne {n : Sx} {k : Nat} (h : k ≤ n.length) : ((subsF n).filter fun s => decide (s.length = k)) ≠ [] := fun e => by
  have : n.take k ∈ (subsF n).filter fun s => decide (s.length = k) := List.mem_filter.mpr ⟨mem_subsF.mpr (List.take_sublist _ _), decide_eq_true (by rw [List.length_take]; omega)⟩
  rw [e] at this
  cases this
theorem take_ne {α : Type} {l : List α} {k : Nat} (h : l ≠ []) (hk : 1 ≤ k) : l.take k ≠ [] := fun e => by
  rcases List.take_eq_nil_iff.mp e with h1 | h1
  · omega
  · exact h h1
theorem lots_sized {n : Sx} {k : Nat} (h1 : 1 ≤ k) (h : k ≤ n.length) : LotsOk n (((subsF n).filter fun s => decide (s.length = k)).take 4) := ⟨take_ne (sized_ne h) (by decide), fun s hs => by
  obtain ⟨h2, h3⟩ := List.mem_filter.mp (List.mem_of_mem_take hs)
  refine ⟨mem_subsF.mp h2, fun e => ?_⟩
  have := of_decide_eq_true h3
  rw [e] at this
  have : 0 = k := this
  omega⟩
theorem fears_sized {n : Sx} {x : Nm} {k : Nat} (h : k ≤ (n.filter fun y => !decide (y = x)).length) : FearsOk n x (((subsF (n.filter fun y => !decide (y = x))).filter fun s => decide (s.length = k)).take 3) := ⟨take_ne (sized_ne h) (by decide), fun s hs => mem_subsF.mp (List.mem_filter.mp (List.mem_of_mem_take hs)).1⟩
theorem made_sets {α : Type} {B : α → Bool → Prop} {Ps : Sx → Prop} {xs : List α} {M : List (α × D)} (m : Made B (fun _ d => ∃ s : Sx, Ps s ∧ d = tS s) xs M) : ∃ L : List Sx, (∀ s ∈ L, Ps s) ∧ M.map (·.2) = L.map tS := by
  have : ∀ l : List (α × D), (∀ p ∈ l, ∃ s : Sx, Ps s ∧ p.2 = tS s) → ∃ L : List Sx, (∀ s ∈ L, Ps s) ∧ l.map (·.2) = L.map tS := fun l => by
    induction l with
    | nil => intro _; exact ⟨[], (fun s hs => by cases hs), rfl⟩
    | cons p l ih =>
      intro h
      obtain ⟨s, hs, e⟩ := h p List.mem_cons_self
      obtain ⟨L, hL, e2⟩ := ih fun q hq => h q (List.mem_cons_of_mem _ hq)
      refine ⟨s :: L, fun t ht => ?_, by rw [List.map_cons, List.map_cons, e, e2]⟩
      rcases List.mem_cons.mp ht with z | z
      · rw [z]; exact hs
      · exact hL t z
  exact this M fun p hp => (m.ok p hp).2
theorem add_int (i j : Int) (h : (i + j).natAbs ≤ 1000000000) : RAdd (.int i) (.int j) (.int (i + j)) := .inl ⟨i, j, rfl, rfl, h, rfl⟩
def R_Ltrust (ds : List D) (S : D → Prop) : Prop := ∃ mo : Nat, ds = [.int (mo : Int)] ∧ 1 ≤ mo ∧ mo ≤ 5 ∧ S = fun d => ∃ T : Tru, VT T ∧ d = tT T
theorem ok_Ltrust (T : Tx K mg) (C_Lsized : Ok P w K mg base 2 "_law_sized" ["_law_names_here", "_law_size"] [] (spR R_Lsized)) (C_Lsome : Ok P w K mg base 3 "_law_some" ["_law_feed_here", "_law_names_here", "_law_least_here"] [] (spF R_Lsome)) (C_Ldraw : Ok P w K mg base 1 "_law_draw" ["_law_feed_here", "_law_many"] [] sp_Ldraw) (C_Lpick : Ok P w K mg base 2 "_law_pick" ["_law_feed_here", "_law_some_here"] [] (spF R_Lpick)) (C_Lnames : Ok P w K mg base 3 "_law_names" ["_law_feed_here", "_law_most"] [] (spF R_Lnames)) : Ok P w K mg base 4 "_law_trust" ["_law_feed_here", "_law_most"] [] (spF R_Ltrust) := by
  refine ok_feed T d_Ltrust 46 46 rfl rfl rfl rfl rfl sc_Ltrust (by decide) (fun _ _ _ _ _ _ us hl => match us, hl with | [_, _], _ => rfl) ?_ ?_
  · rintro ds S ⟨mo, rfl, m1, m5, rfl⟩; rfl
  intro cdv A outer s H E hr
  have nd := sc_Ltrust.nd
  refine ⟨_, (pss_cons (ps_asg (pe_tup (pa_cons (pe_go C_Lnames hr (by decide) rfl (pa_cons (pv 0) (pa_cons (pv 1) pa_nil))) (pa_cons (pe_lst pa_nil) pa_nil))) (pg_tup (by rfl) (pgs_cons (pg_name (i := 2) nd rfl (by first | exact Or.inl rfl | exact Or.inr rfl)) (pgs_cons (pg_name (i := 3) nd rfl (by first | exact Or.inl rfl | exact Or.inr rfl)) pgs_nil)))) (pss_cons (ps_par3 (i := 4) (j := 5) (l := 6) rfl nd rfl rfl rfl (by decide) (by decide) (by decide) rfl rfl rfl (pa_cons (pe_op op_add' pe_int (pe_go C_Ldraw hr (by decide) rfl (pa_cons (pv 0) (pa_cons (pe_callB call_len' rfl (T.free 62) boot_len (pa_cons (pv 2) pa_nil)) pa_nil)))) (pa_cons (pe_go C_Ldraw hr (by decide) rfl (pa_cons (pv 0) (pa_cons pe_int pa_nil))) (pa_cons (pe_cmpR (op_eq' (hu64 hr)) (pe_go C_Ldraw hr (by decide) rfl (pa_cons (pv 0) (pa_cons pe_int pa_nil))) pe_int (nomark _)) pa_nil))) (by with_unfolding_all rfl)) (pss_cons (ps_for PassesOwn.never rfl (pi_list (pv 2)) (pg_name (i := 7) nd rfl (by first | exact Or.inl rfl | exact Or.inr rfl)) (pss_cons (ps_set (i := 8) nd rfl (by first | exact Or.inl rfl | exact Or.inr rfl) (pe_lc (own := [("_law_y", 9)]) (g := (gName 9)) (wi := (iList K (tVar 2))) (tt := (tTest (tOp (rD2 RNe) (tVar 9) (tVar 7)))) (te := (tVar 9)) rfl nd (pi_list (pv 2)) (blkOk_by (N := N_Ltrust) (sc := defScope s_Ltrust) (by decide +kernel)) (fun _ _ _ _ _ => (pg_name (i := 9) nd rfl (by first | exact Or.inl rfl | exact Or.inr rfl))) (fun _ _ _ _ _ => (pts_one (pt_cmpR (op_ne' (hu64 hr)) (pv 9) (pv 7) (nomark _)))) (fun _ _ _ _ _ => (pv 9)))) (pss_cons (ps_setLc (i := 10) (own := [("_law_lap", 11)]) (g := (gName 11)) (wi := (iRng1 (tCons (tOp (rD2 RAdd) (tC (.int 1)) (tCall sp_Ldraw [] E0 (tCons (tVar 0) (tCons (tC (.int 3)) tNil)))) tNil))) (tt := tYes) (te := (tCall (spF R_Lsome) [] E0 (tCons (tVar 0) (tCons (tVar 2) (tCons (tC (.int 1)) tNil))))) rfl nd rfl rfl (sw_true rfl rfl rfl (by decide +kernel)) (pi_range1 rfl (T.free 70) (pa_cons (pe_op op_add' pe_int (pe_go C_Ldraw hr (by decide) rfl (pa_cons (pv 0) (pa_cons pe_int pa_nil)))) pa_nil)) (blkOk_by (N := N_Ltrust) (sc := defScope s_Ltrust) (by decide +kernel)) (fun _ _ _ _ _ => (pg_name (i := 11) nd rfl (by first | exact Or.inl rfl | exact Or.inr rfl))) (fun _ _ _ _ _ => pts_nil) (fun _ _ _ _ _ => (pe_go C_Lsome hr (by decide) rfl (pa_cons (pv 0) (pa_cons (pv 2) (pa_cons pe_int pa_nil)))))) (pss_cons (ps_set (i := 12) nd rfl (by first | exact Or.inl rfl | exact Or.inr rfl) (pe_go C_Lpick hr (by decide) rfl (pa_cons (pv 0) (pa_cons (pe_lst (pa_cons pe_int (pa_cons pe_int pa_nil))) pa_nil)))) (pss_cons (ps_setLc (i := 13) (own := [("_law_lap", 11)]) (g := (gName 11)) (wi := (iRng1 (tCons (tOp (rD2 RAdd) (tC (.int 1)) (tCall sp_Ldraw [] E0 (tCons (tVar 0) (tCons (tC (.int 2)) tNil)))) tNil))) (tt := tYes) (te := (tSl (rSlA K) (tCall (spF R_Lsome) [] E0 (tCons (tVar 0) (tCons (tVar 8) (tCons (tC (.int 0)) tNil)))) tNoPart (tPart (tVar 12)))) rfl nd rfl rfl (sw_true rfl rfl rfl (by decide +kernel)) (pi_range1 rfl (T.free 70) (pa_cons (pe_op op_add' pe_int (pe_go C_Ldraw hr (by decide) rfl (pa_cons (pv 0) (pa_cons pe_int pa_nil)))) pa_nil)) (blkOk_by (N := N_Ltrust) (sc := defScope s_Ltrust) (by decide +kernel)) (fun _ _ _ _ _ => (pg_name (i := 11) nd rfl (by first | exact Or.inl rfl | exact Or.inr rfl))) (fun _ _ _ _ _ => pts_nil) (fun _ _ _ _ _ => (pe_slice sl_tupA (pe_go C_Lsome hr (by decide) rfl (pa_cons (pv 0) (pa_cons (pv 8) (pa_cons pe_int pa_nil)))) po_none (po_some (pv 12))))) (pss_cons (ps_if (pt_val (pv 6)) (pss_one (ps_par (i := 10) (j := 13) rfl nd rfl rfl (by decide) rfl rfl (pa_cons (pe_slice sl_list (pe_go C_Lsized hr (by decide) rfl (pa_cons (pv 2) (pa_cons (pv 4) pa_nil))) po_none (po_some pe_int)) (pa_cons (pe_slice sl_list (pe_go C_Lsized hr (by decide) rfl (pa_cons (pv 8) (pa_cons (pe_callB (call_min2' rfl) rfl (T.free 72) boot_min (pa_cons (pv 5) (pa_cons (pe_callB call_len' rfl (T.free 62) boot_len (pa_cons (pv 8) pa_nil)) pa_nil))) pa_nil))) po_none (po_some pe_int)) pa_nil)) (by with_unfolding_all rfl))) pss_nil) (pss_one (ps_expr (pe_bm PySem.F.plainAttrs_list PySem.F.slot_list_append PySem.F.type_list_append mt_append (pv 3) (pa_cons (pe_tup (pa_cons (pv 7) (pa_cons (pe_callTy call_tuple' rfl (T.free 65) boot_tuple (pa_cons (pe_sortedSet hr rfl rfl (T.free 68) rfl (T.free 69) (pv 10)) pa_nil)) (pa_cons (pe_callTy call_tuple' rfl (T.free 65) boot_tuple (pa_cons (pe_sortedSet hr rfl rfl (T.free 68) rfl (T.free 69) (pv 13)) pa_nil)) pa_nil)))) pa_nil)))))))))) (pss_one (ps_ret (pe_callTy call_tuple' rfl (T.free 65) boot_tuple (pa_cons (pv 3) pa_nil))))))), ?_⟩
  rintro ⟨sl, fp, fc, fns⟩ ds S h0 ⟨mo, rfl, m1, m5, rfl⟩
  obtain rfl : sl = 0 := h0
  refine fb_seq (fs_asgOwn (i := 2) (m := 3) (fv_goF (S := fun d => ∃ s : Sx, RisN s ∧ 1 ≤ s.length ∧ s.length ≤ mo ∧ d = lS s) (ea_cons (ev_get rfl) ea_nil) ⟨mo, rfl, m1, m5, rfl⟩) (by show 3 < 14; decide) (show (2 : Nat) ≠ 0 by decide) (show (3 : Nat) ≠ 0 by decide)) ?_
  rintro _ _ ⟨_, ⟨n, hn, n1, n2, rfl⟩, rfl, rfl⟩
  have n5 : n.length ≤ 5 := by omega
  refine fb_seq (K := fun e m => (∃ (sz ly : Nat) (ev : Bool), 1 ≤ sz ∧ sz ≤ n.length ∧ ly ≤ 1 ∧ e = [none, some (.int (mo : Int)), some (lS n), none, some (.int (sz : Int)), some (.int (ly : Int)), some (.bool ev), none, none, none, none, none, none, none]) ∧ m = some (3, [])) (fs_mono (fs_par3 (i := 4) (j := 5) (l := 6) (R := fun ds => ∃ (sz ly : Nat) (ev : Bool), 1 ≤ sz ∧ sz ≤ n.length ∧ ly ≤ 1 ∧ ds = [.int (sz : Int), .int (ly : Int), .bool ev]) ?_ ?_ (by show 3 ∉ [4, 5, 6]; decide) (show (4 : Nat) ≠ 0 by decide) (show (5 : Nat) ≠ 0 by decide) (show (6 : Nat) ≠ 0 by decide)) ?_) ?_
  · refine fa_mono (fa_cons (fv_op (S := fun d => ∃ k : Nat, k < n.length ∧ d = .int (1 + (k : Int))) (fv_of (ev_int (by decide))) (fv_draw (m := n.length) n1 (by omega) (ev_is (ev_cb (ea_cons (ev_get rfl) ea_nil) (len_lst (n.map tN))) (by rw [List.length_map]))) ?_) (fa_cons (fv_draw (m := 2) (by decide) (by decide) (ev_int (by decide))) (fa_cons (fv_op (S := fun d => ∃ b : Bool, d = .bool b) (fv_draw (m := 4) (by decide) (by decide) (ev_int (by decide))) (fv_of (ev_int (by decide))) ?_) fa_nil))) ?_
    · rintro a b rfl ⟨k, hk, rfl⟩
      exact ⟨_, add_int _ _ (by omega), k, hk, rfl⟩
    · rintro a b ⟨k, hk, rfl⟩ rfl
      exact ⟨_, eq_int _ _, _, rfl⟩
    · rintro ds ⟨_, _, ⟨k, hk, rfl⟩, ⟨_, _, ⟨k2, hk2, rfl⟩, ⟨_, _, ⟨b, rfl⟩, rfl, rfl⟩, rfl⟩, rfl⟩
      exact ⟨1 + k, k2, b, by omega, by omega, by omega, by rw [Int.natCast_add]; rfl⟩
  · rintro ds ⟨sz, ly, ev, _, _, _, rfl⟩
    exact ⟨_, _, _, rfl⟩
  · rintro e m ⟨⟨x, y, z, ⟨sz, ly, ev, h1, h2, h3, e3⟩, rfl⟩, rfl⟩
    injection e3 with e3 e4
    injection e4 with e4 e5
    injection e5 with e5 e6
    subst e3 e4 e5
    exact ⟨⟨sz, ly, ev, h1, h2, h3, rfl⟩, rfl⟩
  rintro e m ⟨⟨sz, ly, ev, z1, z2, z3, rfl⟩, rfl⟩
  refine fb_seq (K := fun e m => e = [none, some (.int (mo : Int)), some (lS n), none, some (.int (sz : Int)), some (.int (ly : Int)), some (.bool ev), none, none, none, none, none, none, none] ∧ ∃ Ts : Tru, m = some (3, Ts.map tTri) ∧ Ts.map Tri.h = n ∧ ∀ t ∈ Ts, TriOk n t) (fs_mono (fs_for (xs := n) (enc := tN) (js := [7]) (fun i m => ∃ Ts : Tru, m = some (3, Ts.map tTri) ∧ Ts.map Tri.h = n.take i ∧ ∀ t ∈ Ts, TriOk n t) ([none, some (.int (mo : Int)), some (lS n), none, some (.int (sz : Int)), some (.int (ly : Int)), some (.bool ev), none, none, none, none, none, none, none]) (env4 := fun i x => [none, some (.int (mo : Int)), some (lS n), none, some (.int (sz : Int)), some (.int (ly : Int)), some (.bool ev), some (tN x), none, none, none, none, none, none]) (src_list (ev_get rfl)) (.n (.s (.s (.n (.s (.s (.s (.n (.n (.n (.n (.n (.n (.n .nil)))))))))))))) ⟨[], rfl, rfl, fun t ht => (by cases ht)⟩ (show (0 : Nat) ∉ [7] by decide) ?_) ?_) ?_
  · rintro i x m hx ⟨Ts, rfl, hh, hok⟩
    refine ⟨gt_name, by show 3 ∉ [7]; decide, ?_⟩
    -- others
    refine fs_seq (K := fun e m => e = [none, some (.int (mo : Int)), some (lS n), none, some (.int (sz : Int)), some (.int (ly : Int)), some (.bool ev), some (tN x), some (lS (n.filter fun y => !decide (y = x))), none, none, none, none, none] ∧ m = some (3, Ts.map tTri)) (fs_mono (fs_set (i := 8) (S := fun d => d = lS (n.filter fun y => !decide (y = x))) (fv_of ?_) (by show 3 ∉ [8]; decide) (show (8 : Nat) ≠ 0 by decide)) ?_) ?_
    · apply ev_is
      case h => repeat' (first | decide | apply ev_and | apply ev_or | apply et_and | apply et_or | (with_reducible intro x hx) | (with_reducible intro hp) | exact ev_get rfl | exact ev_bl | exact ev_non | exact ev_int (by decide) | exact ev_str (by decide) | exact ea_nil | apply ea_cons | apply ev_op | apply ev_cb | apply ev_call | apply ev_tup | apply ev_lst | apply et_test | apply et_B | exact et_yes | apply et_not | apply ev_lc0 | apply ev_lc | apply src_tup | apply src_list | exact gt_name | apply gt_tup | apply gts_cons | exact gts_nil | exact in_tS _ _ | exact in_lS _ _ | exact nin_tS _ _ | exact in_tSS _ _ | exact eq_tN _ _ | exact ne_tN _ _ | exact eq_tS _ _ | exact ne_tS _ _ | exact eq_int _ _ | exact lt_tN _ _ | exact le_tN _ _ | exact lt_tS _ _ | exact all_map _ _ | exact any_map _ _ | exact tup_lst _ | exact len_lst _ | exact len_tup _ | exact ix_h | exact ix_l | exact ix_f | exact ix_p0 | exact ix_p1 | exact isn_none | exact le_int _ _ | exact gt_int _ _ | apply src_zipT | apply ev_slFromT | exact ev_n1 | exact ev_n3 | exact ev_n4 | apply ev_isiStr | apply ev_isiTup | apply src_str | decide | exact rfl)
      rfl
    · rintro e m ⟨⟨_, rfl, rfl⟩, rfl⟩
      exact ⟨rfl, rfl⟩
    rintro _ _ ⟨rfl, rfl⟩
    have nO : (n.filter fun y => !decide (y = x)).length ≤ 5 := Nat.le_trans (List.length_filter_le _ _) n5
    -- lots
    refine fs_seq (K := fun e m => (∃ L, LotsOk n L ∧ e = [none, some (.int (mo : Int)), some (lS n), none, some (.int (sz : Int)), some (.int (ly : Int)), some (.bool ev), some (tN x), some (lS (n.filter fun y => !decide (y = x))), none, some (lSS L), none, none, none]) ∧ m = some (3, Ts.map tTri)) (fs_mono (fs_set (i := 10) (S := fun d => ∃ L, LotsOk n L ∧ d = lSS L) ?_ (by show 3 ∉ [10]; decide) (show (10 : Nat) ≠ 0 by decide)) ?_) ?_
    · refine fv_mono (fv_lc (α := Nat) (enc := fun k => .int (k : Int)) (js := [11]) (fun xs => xs ≠ [] ∧ xs.length ≤ 3) (fun _ b => b = true) (fun _ d => ∃ s : Sx, (s.Sublist n ∧ s ≠ []) ∧ d = tS s) (env2 := fun k => [none, some (.int (mo : Int)), some (lS n), none, some (.int (sz : Int)), some (.int (ly : Int)), some (.bool ev), some (tN x), some (lS (n.filter fun y => !decide (y = x))), none, none, some (.int (k : Int)), none, none]) (fi_rng (k := 3) (by decide) (fa_mono (fa_cons (fv_op (S := fun d => ∃ k : Nat, k < 3 ∧ d = .int (1 + (k : Int))) (fv_of (ev_int (by decide))) (fv_draw (m := 3) (by decide) (by decide) (ev_int (by decide))) ?_) fa_nil) ?_)) (fun xs _ k _ => gt_name) (by decide) (show (0 : Nat) ∉ [11] by decide) (fun xs _ k _ => ft_of et_yes) (fun xs _ k _ _ => fv_mono (fv_goF (S := fun d => ∃ s : Sx, s.Sublist n ∧ ((1 : Int) = 1 → s ≠ []) ∧ d = tS s) (ea_cons (ev_get rfl) (ea_cons (ev_int (by decide)) ea_nil)) ⟨n, 1, rfl, .inr rfl, by omega, (fun _ e => by rw [e] at n1; cases n1), rfl⟩) ?_)) ?_
      · rintro a b rfl ⟨k, hk, rfl⟩
        exact ⟨_, add_int _ _ (by omega), k, hk, rfl⟩
      · rintro ds ⟨_, _, ⟨k, hk, rfl⟩, rfl, rfl⟩
        exact ⟨1 + k, by omega, by omega, by rw [Int.natCast_add]; rfl⟩
      · rintro d ⟨s, h1, h2, rfl⟩
        exact ⟨s, ⟨h1, h2 rfl⟩, rfl⟩
      · rintro d ⟨xs, M, ⟨hx1, hx2⟩, hM, rfl⟩
        obtain ⟨L, hL, e⟩ := made_sets hM
        refine ⟨L, ⟨fun e0 => hx1 ?_, hL⟩, by rw [e]; rfl⟩
        have h1 := hM.all fun x _ h => by cases h
        have h2 := congrArg List.length e
        rw [e0, List.length_map] at h2
        have h3 := congrArg List.length h1
        rw [List.length_map] at h3
        exact List.length_eq_zero_iff.mp (by rw [← h3, h2]; rfl)
    · rintro e m ⟨⟨_, ⟨L, hL, rfl⟩, rfl⟩, rfl⟩
      exact ⟨⟨L, hL, rfl⟩, rfl⟩
    rintro _ _ ⟨⟨L, hL, rfl⟩, rfl⟩
    -- far
    refine fs_seq (K := fun e m => (∃ far : Nat, e = [none, some (.int (mo : Int)), some (lS n), none, some (.int (sz : Int)), some (.int (ly : Int)), some (.bool ev), some (tN x), some (lS (n.filter fun y => !decide (y = x))), none, some (lSS L), none, some (.int (far : Int)), none]) ∧ m = some (3, Ts.map tTri)) (fs_mono (fs_set (i := 12) (S := fun d => ∃ far : Nat, d = .int (far : Int)) (fv_mono (fv_goF (S := fun d => d ∈ ([2, 4] : List Nat).map fun (k : Nat) => PyData.int (k : Int)) (ea_cons (d := .list (([2, 4] : List Nat).map fun (k : Nat) => PyData.int (k : Int))) (ev_lst (ea_cons (ev_int (by decide)) (ea_cons (ev_int (by decide)) ea_nil)) (by show 2 ≤ 100000; decide)) ea_nil) ⟨_, _, rfl, .inl rfl, by decide, by decide, rfl⟩) ?_) (by show 3 ∉ [12]; decide) (show (12 : Nat) ≠ 0 by decide)) ?_) ?_
    · intro d hd
      obtain ⟨k, _, rfl⟩ := List.mem_map.mp hd
      exact ⟨k, rfl⟩
    · rintro e m ⟨⟨_, ⟨far, rfl⟩, rfl⟩, rfl⟩
      exact ⟨⟨far, rfl⟩, rfl⟩
    rintro _ _ ⟨⟨far, rfl⟩, rfl⟩
    -- fears
    refine fs_seq (K := fun e m => (∃ F, FearsOk n x F ∧ e = [none, some (.int (mo : Int)), some (lS n), none, some (.int (sz : Int)), some (.int (ly : Int)), some (.bool ev), some (tN x), some (lS (n.filter fun y => !decide (y = x))), none, some (lSS L), none, some (.int (far : Int)), some (lSS F)]) ∧ m = some (3, Ts.map tTri)) (fs_mono (fs_set (i := 13) (S := fun d => ∃ F, FearsOk n x F ∧ d = lSS F) ?_ (by show 3 ∉ [13]; decide) (show (13 : Nat) ≠ 0 by decide)) ?_) ?_
    · refine fv_mono (fv_lc (α := Nat) (enc := fun k => .int (k : Int)) (js := [11]) (fun xs => xs ≠ [] ∧ xs.length ≤ 2) (fun _ b => b = true) (fun _ d => ∃ s : Sx, s.Sublist (n.filter fun y => !decide (y = x)) ∧ d = tS s) (env2 := fun k => [none, some (.int (mo : Int)), some (lS n), none, some (.int (sz : Int)), some (.int (ly : Int)), some (.bool ev), some (tN x), some (lS (n.filter fun y => !decide (y = x))), none, some (lSS L), some (.int (k : Int)), some (.int (far : Int)), none]) (fi_rng (k := 2) (by decide) (fa_mono (fa_cons (fv_op (S := fun d => ∃ k : Nat, k < 2 ∧ d = .int (1 + (k : Int))) (fv_of (ev_int (by decide))) (fv_draw (m := 2) (by decide) (by decide) (ev_int (by decide))) ?_) fa_nil) ?_)) (fun xs _ k _ => gt_name) (by decide) (show (0 : Nat) ∉ [11] by decide) (fun xs _ k _ => ft_of et_yes) (fun xs _ k _ _ => fv_mono (fv_part (f' := tN) (P := fun s : Sx => s.Sublist (n.filter fun y => !decide (y = x))) (n := far) (fv_mono (fv_goF (S := fun d => ∃ s : Sx, s.Sublist (n.filter fun y => !decide (y = x)) ∧ ((0 : Int) = 1 → s ≠ []) ∧ d = tS s) (ea_cons (ev_get rfl) (ea_cons (ev_int (by decide)) ea_nil)) ⟨(n.filter fun y => !decide (y = x)), 0, rfl, .inl rfl, by omega, (fun h => by cases h), rfl⟩) ?_) (ev_get rfl)) ?_)) ?_
      · rintro a b rfl ⟨k, hk, rfl⟩
        exact ⟨_, add_int _ _ (by omega), k, hk, rfl⟩
      · rintro ds ⟨_, _, ⟨k, hk, rfl⟩, rfl, rfl⟩
        exact ⟨1 + k, by omega, by omega, by rw [Int.natCast_add]; rfl⟩
      · rintro d ⟨s, h1, _, rfl⟩
        exact ⟨s, h1, rfl⟩
      · rintro d ⟨s, h1, rfl⟩
        exact ⟨s.take far, (List.take_sublist _ _).trans h1, rfl⟩
      · rintro d ⟨xs, M, ⟨hx1, hx2⟩, hM, rfl⟩
        obtain ⟨F, hF, e⟩ := made_sets hM
        refine ⟨F, ⟨fun e0 => hx1 ?_, hF⟩, by rw [e]; rfl⟩
        have h1 := hM.all fun x _ h => by cases h
        have h2 := congrArg List.length e
        rw [e0, List.length_map] at h2
        have h3 := congrArg List.length h1
        rw [List.length_map] at h3
        exact List.length_eq_zero_iff.mp (by rw [← h3, h2]; rfl)
    · rintro e m ⟨⟨_, ⟨F, hF, rfl⟩, rfl⟩, rfl⟩
      exact ⟨⟨F, hF, rfl⟩, rfl⟩
    rintro _ _ ⟨⟨F, hF, rfl⟩, rfl⟩
    -- even
    refine fs_seq (K := fun e m => (∃ L F, LotsOk n L ∧ FearsOk n x F ∧ Lw ([none, some (.int (mo : Int)), some (lS n), none, some (.int (sz : Int)), some (.int (ly : Int)), some (.bool ev), some (tN x), some (lS (n.filter fun y => !decide (y = x))), none, some (lSS L), none, none, some (lSS F)]) e) ∧ m = some (3, Ts.map tTri)) (fs_if (B := fun b => True) (ft_mono (ft_of (et_B (ev_get rfl))) fun _ _ => trivial) (fun _ => ?_) (fun _ => ?_)) ?_
    · refine fs_mono (fs_par (i := 10) (j := 13) (R := fun ds => ∃ L F, LotsOk n L ∧ FearsOk n x F ∧ ds = [lSS L, lSS F]) (fa_mono (fa_of (ds := [lSS (((subsF n).filter fun s => decide (s.length = sz)).take 4), lSS (((subsF (n.filter fun y => !decide (y = x))).filter fun s => decide (s.length = min ly (n.filter fun y => !decide (y = x)).length)).take 3)]) (ea_cons ?_ (ea_cons ?_ ea_nil))) ?_) ?_ (by show 3 ∉ [10, 13]; decide) (show (10 : Nat) ≠ 0 by decide) (show (13 : Nat) ≠ 0 by decide)) ?_
      · exact ev_slToLT (ev_call (ea_cons (ev_get rfl) (ea_cons (ev_get rfl) ea_nil)) ⟨n, sz, rfl, n5, rfl⟩) ev_n4
      · refine ev_slToLT (ev_call (ea_cons (ev_get rfl) (ea_cons (d := .int ((min ly (n.filter fun y => !decide (y = x)).length : Nat) : Int)) ?_ ea_nil)) ⟨_, _, rfl, nO, rfl⟩) ev_n3
        refine ev_is (ev_cb (ea_cons (ev_get rfl) (ea_cons (ev_cb (ea_cons (ev_get rfl) ea_nil) (len_lst ((n.filter fun y => !decide (y = x)).map tN))) ea_nil)) ⟨_, _, rfl, rfl⟩) ?_
        rw [List.length_map]
        split
        · rw [Nat.min_eq_right (by omega)]
        · rw [Nat.min_eq_left (by omega)]
      · rintro ds rfl
        exact ⟨_, _, lots_sized z1 z2, fears_sized (Nat.min_le_right _ _), rfl⟩
      · rintro ds ⟨L, F, _, _, rfl⟩
        exact ⟨_, _, rfl⟩
      · rintro e m ⟨⟨y, z, ⟨L, F, h1, h2, e3⟩, rfl⟩, rfl⟩
        injection e3 with e3 e4
        injection e4 with e4 e5
        subst e3 e4
        exact ⟨⟨L, F, h1, h2, (.n (.s (.s (.n (.s (.s (.s (.s (.s (.n (.s (.n (.n (.s .nil))))))))))))))⟩, rfl⟩
    · refine fs_mono fs_next ?_
      rintro e m ⟨rfl, rfl⟩
      exact ⟨⟨L, F, hL, hF, (.n (.s (.s (.n (.s (.s (.s (.s (.s (.n (.s (.n (.n (.s .nil))))))))))))))⟩, rfl⟩
    rintro e m ⟨⟨L, F, hL, hF, hw⟩, rfl⟩
    have tok := tri_ok hn hL hF
    have hU : (subs n).length < 64 := by have := few_subs n5; omega
    have tl : Ts.length ≤ 5 := by
      have := congrArg List.length hh
      rw [List.length_map, List.length_take] at this
      omega
    refine fs_weak (fs_mono (fs_app (S := fun d => d = tTri ⟨x, canS L, canS F⟩) (fv_of ?_) (by rw [List.length_map]; omega)) ?_) hw
    · refine ev_tup (ea_cons (d := tN x) (ev_get rfl) (ea_cons (d := tSS (canS L)) (ev_cb (ea_cons (ev_srtSet (ss := L) (.inl (ev_get rfl)) (subs n) hU fun s hs => mem_subs.mpr (hL.2 s hs).1) ea_nil) (tup_lst _)) (ea_cons (d := tSS (canS F)) (ev_cb (ea_cons (ev_srtSet (ss := F) (.inl (ev_get rfl)) (subs n) hU fun s hs => mem_subs.mpr ((hF.2 s hs).trans List.filter_sublist)) ea_nil) (tup_lst _)) ea_nil))) (by show 3 ≤ 100000; decide)
    · rintro e m ⟨_, rfl, rfl, rfl⟩
      refine ⟨(.n (.s (.s (.n (.s (.s (.s (.n (.n (.n (.n (.n (.n (.n .nil)))))))))))))), Ts ++ [⟨x, canS L, canS F⟩], by rw [List.map_append]; rfl, ?_, fun t ht => ?_⟩
      · rw [List.map_append, hh, List.take_succ, hx]
        rfl
      · rcases List.mem_append.mp ht with h | h
        · exact hok t h
        · rw [List.mem_singleton.mp h]; exact tok
  · rintro e m ⟨rfl, Ts, rfl, hh, hok⟩
    rw [List.take_length] at hh
    exact ⟨rfl, Ts, rfl, hh, hok⟩
  · rintro e m ⟨rfl, Ts, rfl, hh, hok⟩
    have tl : Ts.length ≤ 5 := by
      have := congrArg List.length hh
      rw [List.length_map] at this
      omega
    refine fb_freeze (show (3 : Nat) ≠ 0 by decide) (fb_ret (fv_mono (fv_of (ev_cb (ea_cons (ev_get rfl) ea_nil) (tup_lst (Ts.map tTri)))) fun d e => ⟨Ts, vt_of hn n1 n5 hh hok, e⟩)) (by rw [List.length_map]; omega)
end
end K16
/-! ## part P16 -/
set_option Elab.async false
set_option linter.all false
set_option maxRecDepth 100000
set_option maxHeartbeats 1000000
namespace K16
open PySem PySem.Spec PyProof.Rows L2
open Evl (Ex)
open StX (tStar pa_star)
section
variable {P : Program} {w : World} {K : PySem.W.Frag} {mg : Str → Option Value} {base : Heap}
theorem fb_of {f : Fe} {t : TS} {env : En} {d : D} (h : BlE t env none d) : FbE f t env none (· = d) := fun σ G H G0 H0 Dn w m q =>
  h σ G H G H Dn ⟨m.rs.rs, Stp.refl (m.wf w).in_⟩ fun v G2 H2 s r => q v d G2 H2 (m.mu.st.trans (StF.of (m.wf w) s)) rfl r
def fiveN : Sx := [0, 3, 4, 5, 6]
def fiveF : List (List Sx) := [[[4, 5, 6]], [[4, 5, 6]], [[0, 3, 5]], [[]], [[0, 3, 4, 5]]]
theorem ev_n5 {env : En} : EvE (tC (.int 5)) env (.int ((5 : Nat) : Int)) := ev_nat (n := 5) (by decide)
theorem ixl_at {α : Type} {f : α → D} {l : List α} {k : Nat} {x : α} (h : l[k]? = some x) : RIx (.list (l.map f)) (.int (k : Int)) (f x) := ⟨_, k, .inl rfl, rfl, by rw [List.getElem?_map, h]; rfl⟩
def R_Lfive (ds : List D) (d : D) : Prop := ds = [] ∧ d = tT fiveT
theorem ok_Lfive (T : Tx K mg) : Ok P w K mg base 1 "_law_five" [] [] (spR R_Lfive) := by
  refine ok_pure T d_Lfive 56 56 rfl rfl rfl rfl rfl sc_Lfive (fun _ _ _ _ _ _ us hl => match us, hl with | [], _ => rfl) ?_ ?_
  · rintro ds d ⟨rfl, rfl⟩; rfl
  intro cdv A outer s H E hr
  have nd := sc_Lfive.nd
  refine ⟨_, (pss_cons (ps_set (i := 0) nd rfl (by first | exact Or.inl rfl | exact Or.inr rfl) (pe_tup (pa_cons pe_str (pa_cons pe_str (pa_cons pe_str (pa_cons pe_str (pa_cons pe_str pa_nil))))))) (pss_cons (ps_set (i := 1) nd rfl (by first | exact Or.inl rfl | exact Or.inr rfl) (pe_lst (pa_cons (pe_tup (pa_cons (pe_tup (pa_cons pe_str (pa_cons pe_str (pa_cons pe_str pa_nil)))) pa_nil)) (pa_cons (pe_tup (pa_cons (pe_tup (pa_cons pe_str (pa_cons pe_str (pa_cons pe_str pa_nil)))) pa_nil)) (pa_cons (pe_tup (pa_cons (pe_tup (pa_cons pe_str (pa_cons pe_str (pa_cons pe_str pa_nil)))) pa_nil)) (pa_cons (pe_tup (pa_cons (pe_tup pa_nil) pa_nil)) (pa_cons (pe_tup (pa_cons (pe_tup (pa_cons pe_str (pa_cons pe_str (pa_cons pe_str (pa_cons pe_str pa_nil))))) pa_nil)) pa_nil))))))) (pss_one (ps_ret (pe_callTy call_tuple' rfl (T.free 65) boot_tuple (pa_cons (pe_lc (own := [("_law_k", 2)]) (g := (gName 2)) (wi := (iRng1 (tCons (tC (.int 5)) tNil))) (tt := tYes) (te := (tTup (tCons (tOp (rD2 RIx) (tVar 0) (tVar 2)) (tCons (tTup (tCons (tVar 0) tNil)) (tCons (tOp (rD2 RIx) (tVar 1) (tVar 2)) tNil))))) rfl nd (pi_range1 rfl (T.free 70) (pa_cons pe_int pa_nil)) (blkOk_by (N := N_Lfive) (sc := defScope s_Lfive) (by decide +kernel)) (fun _ _ _ _ _ => (pg_name (i := 2) nd rfl (by first | exact Or.inl rfl | exact Or.inr rfl))) (fun _ _ _ _ _ => pts_nil) (fun _ _ _ _ _ => (pe_tup (pa_cons (pe_ix ix' (pv 0) (pv 2) (fun _ _ => rfl)) (pa_cons (pe_tup (pa_cons (pv 0) pa_nil)) (pa_cons (pe_ix ix' (pv 1) (pv 2) (fun _ _ => rfl)) pa_nil)))))) pa_nil)))))), ?_⟩
  rintro ds d ⟨rfl, rfl⟩
  refine bl_seq (sm_set (x := tS fiveN) ?_ trivial) (bl_seq (sm_set (x := .list (fiveF.map tSS)) ?_ trivial) ?_)
  · apply ev_is
    case h => repeat' (first | (show _ ≤ 100000; decide) | apply ev_and | apply ev_or | apply et_and | apply et_or | (with_reducible intro x hx) | (with_reducible intro hp) | exact ev_get rfl | exact ev_bl | exact ev_non | exact ev_int (by decide) | exact ev_str (by decide) | exact ea_nil | apply ea_cons | apply ev_op | apply ev_cb | apply ev_call | apply ev_tup | apply ev_lst | apply et_test | apply et_B | exact et_yes | apply et_not | apply ev_lc0 | apply ev_lc | apply src_tup | apply src_list | exact gt_name | apply gt_tup | apply gts_cons | exact gts_nil | exact in_tS _ _ | exact in_lS _ _ | exact nin_tS _ _ | exact in_tSS _ _ | exact eq_tN _ _ | exact ne_tN _ _ | exact eq_tS _ _ | exact ne_tS _ _ | exact eq_int _ _ | exact lt_tN _ _ | exact le_tN _ _ | exact lt_tS _ _ | exact all_map _ _ | exact any_map _ _ | exact tup_lst _ | exact len_lst _ | exact len_tup _ | exact ix_h | exact ix_l | exact ix_f | exact ix_p0 | exact ix_p1 | exact isn_none | exact le_int _ _ | exact gt_int _ _ | apply src_zipT | apply ev_slFromT | exact ev_n1 | exact ev_n3 | exact ev_n4 | apply ev_isiStr | apply ev_isiTup | apply src_str | exact rfl)
    rfl
  · apply ev_is
    case h => repeat' (first | (show _ ≤ 100000; decide) | apply ev_and | apply ev_or | apply et_and | apply et_or | (with_reducible intro x hx) | (with_reducible intro hp) | exact ev_get rfl | exact ev_bl | exact ev_non | exact ev_int (by decide) | exact ev_str (by decide) | exact ea_nil | apply ea_cons | apply ev_op | apply ev_cb | apply ev_call | apply ev_tup | apply ev_lst | apply et_test | apply et_B | exact et_yes | apply et_not | apply ev_lc0 | apply ev_lc | apply src_tup | apply src_list | exact gt_name | apply gt_tup | apply gts_cons | exact gts_nil | exact in_tS _ _ | exact in_lS _ _ | exact nin_tS _ _ | exact in_tSS _ _ | exact eq_tN _ _ | exact ne_tN _ _ | exact eq_tS _ _ | exact ne_tS _ _ | exact eq_int _ _ | exact lt_tN _ _ | exact le_tN _ _ | exact lt_tS _ _ | exact all_map _ _ | exact any_map _ _ | exact tup_lst _ | exact len_lst _ | exact len_tup _ | exact ix_h | exact ix_l | exact ix_f | exact ix_p0 | exact ix_p1 | exact isn_none | exact le_int _ _ | exact gt_int _ _ | apply src_zipT | apply ev_slFromT | exact ev_n1 | exact ev_n3 | exact ev_n4 | apply ev_isiStr | apply ev_isiTup | apply src_str | exact rfl)
    rfl
  refine bl_ret ?_
  apply ev_is
  case h =>
    refine ev_cb (ea_cons (d := .list ((List.range 5).map fun k => tTri ⟨fiveN.getD k 0, [fiveN], fiveF.getD k []⟩)) ?_ ea_nil) (tup_lst _)
    refine ev_lc0 (xs := List.range 5) (enc := fun (k : Nat) => .int (k : Int)) (fun k => tTri ⟨fiveN.getD k 0, [fiveN], fiveF.getD k []⟩) (src_rng (n := 5) (ea_cons ev_n5 ea_nil) (by decide)) (fun k hk => gt_name) (by decide) (fun k hk => ?_)
    have hk5 := List.mem_range.mp hk
    have e1 : fiveN[k]? = some (fiveN.getD k 0) := (show ∀ k : Fin 5, fiveN[k.val]? = some (fiveN.getD k.val 0) by decide) ⟨k, hk5⟩
    have e2 : fiveF[k]? = some (fiveF.getD k []) := (show ∀ k : Fin 5, fiveF[k.val]? = some (fiveF.getD k.val []) by decide) ⟨k, hk5⟩
    exact ev_tup (ea_cons (ev_op (ev_get rfl) (ev_get rfl) (ix_at e1)) (ea_cons (d := tSS [fiveN]) (ev_tup (ea_cons (ev_get rfl) ea_nil) (by show 1 ≤ 100000; decide)) (ea_cons (ev_op (ev_get rfl) (ev_get rfl) (ixl_at e2)) ea_nil))) (by show 3 ≤ 100000; decide)
  rfl
/-- the trust with the k-th house's fears cut -/
def cutT (T : Tru) (k : Nat) (t : Tri) : Tru := (T.take k ++ [⟨t.h, t.lots, t.fears.take 1⟩]) ++ T.drop (k + 1)
theorem cut_split {T : Tru} {k : Nat} {t : Tri} (h : T[k]? = some t) : T = (T.take k ++ [t]) ++ T.drop (k + 1) := by
  have hk : k < T.length := (List.getElem?_eq_some_iff.mp h).1
  have e : T[k] = t := (List.getElem?_eq_some_iff.mp h).2
  conv => lhs; rw [← List.take_append_drop k T, List.drop_eq_getElem_cons hk, e]
  simp
theorem cut_mem {T : Tru} {k : Nat} {t u : Tri} (h : T[k]? = some t) (hu : u ∈ cutT T k t) : (u ∈ T) ∨ u = ⟨t.h, t.lots, t.fears.take 1⟩ := by
  unfold cutT at hu
  rcases List.mem_append.mp hu with hu | hu
  · rcases List.mem_append.mp hu with hu | hu
    · exact .inl (List.mem_of_mem_take hu)
    · exact .inr (List.mem_singleton.mp hu)
  · exact .inl (List.mem_of_mem_drop hu)
theorem cut_h {T : Tru} {k : Nat} {t : Tri} (h : T[k]? = some t) : housesF (cutT T k t) = housesF T := by
  unfold housesF
  conv => rhs; rw [cut_split h]
  unfold cutT
  simp only [List.map_append, List.map_cons, List.map_nil]
theorem cut_vt {T : Tru} (V : VT T) {k : Nat} {t : Tri} (h : T[k]? = some t) : VT (cutT T k t) := by
  have eh := cut_h h
  have ht : t ∈ T := List.mem_of_getElem? h
  have hl : (cutT T k t).length = T.length := by
    have := congrArg List.length eh
    unfold housesF at this
    rw [List.length_map, List.length_map] at this
    exact this
  refine ⟨fun e => ?_, by rw [hl]; exact V.len, by rw [eh]; exact V.ris, fun u hu => ?_, fun u hu => ?_, fun u hu => ?_, fun u hu => ?_, fun u hu => ?_, fun u hu => ?_⟩
  · rw [e] at hl
    exact V.ne (List.length_eq_zero_iff.mp hl.symm)
  · rcases cut_mem h hu with c | c
    · exact V.lne u c
    · subst c; exact V.lne t ht
  · rcases cut_mem h hu with c | c
    · exact V.lris u c
    · subst c; exact V.lris t ht
  · rw [eh]
    rcases cut_mem h hu with c | c
    · exact V.lset u c
    · subst c; exact V.lset t ht
  · rcases cut_mem h hu with c | c
    · exact V.fne u c
    · subst c; exact take_ne (V.fne t ht) (by decide)
  · rcases cut_mem h hu with c | c
    · exact V.fris u c
    · subst c; exact List.Pairwise.sublist (List.take_sublist _ _) (V.fris t ht)
  · rw [eh]
    rcases cut_mem h hu with c | c
    · exact V.fset u c
    · subst c; exact fun s hs => V.fset t ht s (List.mem_of_mem_take hs)
theorem cut_fewer {T : Tru} {k : Nat} {t : Tri} (h : T[k]? = some t) : Fewer T (cutT T k t) := ⟨cut_h h, fun u hu => by
  rcases cut_mem h hu with c | c
  · exact ⟨u, c, rfl, rfl, fun f hf => hf⟩
  · subst c
    exact ⟨t, List.mem_of_getElem? h, rfl, rfl, fun f hf => List.mem_of_mem_take hf⟩⟩
theorem add_T (a b : Tru) (h : a.length + b.length ≤ 1000) : RAdd (tT a) (tT b) (tT (a ++ b)) := .inr (.inl ⟨a.map tTri, b.map tTri, rfl, rfl, by rw [List.length_map, List.length_map]; omega, by unfold tT; rw [List.map_append]⟩)
def two (env : En) (i j : Nat) : D → En
  | .tuple [a, b] => (env.set i (some a)).set j (some b)
  | _ => env
theorem pick_h {T : Tru} {d : D} (h : d ∈ T.map tTri) : ∃ t ∈ T, d = tTri t := by
  obtain ⟨t, ht, e⟩ := List.mem_map.mp h
  exact ⟨t, ht, e.symm⟩
def R_Lis_growing_right (ds : List D) (S : D → Prop) : Prop := ∃ T : Tru, ds = [tT T] ∧ VT T ∧ S = fun d => d = .bool true
theorem ok_Lis_growing_right (T : Tx K mg) (C_least_lots : Ok P w K mg base 8 "least_lots" ["trust", "house"] [] (spR R_least_lots)) (C_meets_needs : Ok P w K mg base 8 "meets_needs" ["trust", "house", "lot"] [] (spR R_meets_needs)) (C_Lpick : Ok P w K mg base 2 "_law_pick" ["_law_feed_here", "_law_some_here"] [] (spF R_Lpick)) (C_Ldraw : Ok P w K mg base 1 "_law_draw" ["_law_feed_here", "_law_many"] [] sp_Ldraw) : Ok P w K mg base 9 "_law_is_growing_right" ["_law_feed_here", "_law_band"] [] (spF R_Lis_growing_right) := by
  refine ok_feed T d_Lis_growing_right 59 59 rfl rfl rfl rfl rfl sc_Lis_growing_right (by decide) (fun _ _ _ _ _ _ us hl => match us, hl with | [_, _], _ => rfl) ?_ ?_
  · rintro ds S ⟨T, rfl, V, rfl⟩; rfl
  intro cdv A outer s H E hr
  have nd := sc_Lis_growing_right.nd
  refine ⟨_, (pss_cons (ps_asg (pe_tup (pa_cons (pe_go C_Ldraw hr (by decide) rfl (pa_cons (pv 0) (pa_cons (pe_callB call_len' rfl (T.free 62) boot_len (pa_cons (pv 1) pa_nil)) pa_nil))) (pa_cons (pe_ix ix' (pe_go C_Lpick hr (by decide) rfl (pa_cons (pv 0) (pa_cons (pv 1) pa_nil))) pe_int (fun _ _ => rfl)) pa_nil))) (pg_tup (by rfl) (pgs_cons (pg_name (i := 2) nd rfl (by first | exact Or.inl rfl | exact Or.inr rfl)) (pgs_cons (pg_name (i := 3) nd rfl (by first | exact Or.inl rfl | exact Or.inr rfl)) pgs_nil)))) (pss_cons (ps_asg (pe_ix ix' (pv 1) (pv 2) (fun _ _ => rfl)) (pg_tup (by rfl) (pgs_cons (pg_name (i := 4) nd rfl (by first | exact Or.inl rfl | exact Or.inr rfl)) (pgs_cons (pg_name (i := 5) nd rfl (by first | exact Or.inl rfl | exact Or.inr rfl)) (pgs_cons (pg_name (i := 6) nd rfl (by first | exact Or.inl rfl | exact Or.inr rfl)) pgs_nil))))) (pss_cons (ps_set (i := 7) nd rfl (by first | exact Or.inl rfl | exact Or.inr rfl) (pe_op op_add' (pe_op op_add' (pe_slice sl_tupA (pv 1) po_none (po_some (pv 2))) (pe_tup (pa_cons (pe_tup (pa_cons (pv 4) (pa_cons (pv 5) (pa_cons (pe_slice sl_tupA (pv 6) po_none (po_some pe_int)) pa_nil)))) pa_nil))) (pe_slice sl_tupA (pv 1) (po_some (pe_op op_add' (pv 2) pe_int)) po_none))) (pss_one (ps_ret (pe_cmpR (op_eq' (hu64 hr)) (pe_lc (own := [("_law_some_here", 8)]) (g := (gName 8)) (wi := (iTup K (tCall (spR R_least_lots) [] E0 (tCons (tVar 1) (tCons (tVar 3) tNil))))) (tt := (tNot (tB (tCall (spR R_meets_needs) [] E0 (tCons (tVar 7) (tCons (tVar 3) (tCons (tVar 8) tNil))))))) (te := (tVar 8)) rfl nd (pi_tup (pe_go C_least_lots hr (by decide) rfl (pa_cons (pv 1) (pa_cons (pv 3) pa_nil)))) (blkOk_by (N := N_Lis_growing_right) (sc := defScope s_Lis_growing_right) (by decide +kernel)) (fun _ _ _ _ _ => (pg_name (i := 8) nd rfl (by first | exact Or.inl rfl | exact Or.inr rfl))) (fun _ _ _ _ _ => (pts_one (pt_not (pt_val (pe_go C_meets_needs hr (by decide) rfl (pa_cons (pv 7) (pa_cons (pv 3) (pa_cons (pv 8) pa_nil)))))))) (fun _ _ _ _ _ => (pv 8))) (pe_lst pa_nil) (nomark _))))))), ?_⟩
  rintro ⟨sl, fp, fc, fns⟩ ds S h0 ⟨T, rfl, V, rfl⟩
  obtain rfl : sl = 0 := h0
  have l1 : 1 ≤ T.length := List.length_pos_iff.mpr V.ne
  have l5 := V.len
  refine fb_seq (K := fun e m => (∃ (k : Nat) (a : Nm), k < T.length ∧ a ∈ housesF T ∧ e = [none, some (tT T), some (.int (k : Int)), some (tN a), none, none, none, none, none]) ∧ m = none) (fs_mono (fs_asg2 (js := [2, 3]) (S := fun d => ∃ (k : Nat) (a : Nm), k < T.length ∧ a ∈ housesF T ∧ d = .tuple [.int (k : Int), tN a]) (env2 := two [none, some (tT T), none, none, none, none, none, none, none] 2 3) (fv_mono (fv_tup (Ra := fun ds => ∃ (k : Nat) (a : Nm), k < T.length ∧ a ∈ housesF T ∧ ds = [.int (k : Int), tN a]) (fa_mono (fa_cons (fv_draw (m := T.length) l1 (by omega) (ev_is (ev_cb (ea_cons (ev_get rfl) ea_nil) (len_tup (T.map tTri))) (by rw [List.length_map]))) (fa_cons (fv_op (S := fun d => ∃ a ∈ housesF T, d = tN a) (fv_goF (S := fun d => d ∈ T.map tTri) (ea_cons (d := tT T) (ev_get rfl) ea_nil) ⟨T.map tTri, _, rfl, .inr rfl, by rw [List.length_map]; exact l1, by rw [List.length_map]; omega, rfl⟩) (fv_of (ev_int (by decide))) ?_) fa_nil)) ?_) ?_) ?_) ?_ trivial (show (0 : Nat) ∉ [2, 3] by decide)) ?_) ?_
  · rintro x y hx rfl
    obtain ⟨t, ht, rfl⟩ := pick_h hx
    exact ⟨_, ix_h, t.h, List.mem_map.mpr ⟨t, ht, rfl⟩, rfl⟩
  · rintro ds ⟨_, _, ⟨k, hk, rfl⟩, ⟨_, _, ⟨a, ha, rfl⟩, rfl, rfl⟩, rfl⟩
    exact ⟨k, a, hk, ha, rfl⟩
  · rintro ds ⟨k, a, hk, ha, rfl⟩
    show 2 ≤ 100000
    decide
  · rintro d ⟨ds, ⟨k, a, hk, ha, rfl⟩, rfl⟩
    exact ⟨k, a, hk, ha, rfl⟩
  · rintro d ⟨k, a, hk, ha, rfl⟩
    exact gt_tup (gts_cons gt_name (gts_cons gt_name gts_nil)) rfl
  · rintro e m ⟨⟨d, ⟨k, a, hk, ha, rfl⟩, rfl⟩, rfl⟩
    exact ⟨⟨k, a, hk, ha, rfl⟩, rfl⟩
  rintro e m ⟨⟨k, a, hk, ha, rfl⟩, rfl⟩
  have hT : T[k]? = some T[k] := List.getElem?_eq_getElem hk
  generalize T[k] = t at hT
  have V2 := cut_vt V hT
  have ha2 : a ∈ housesF (cutT T k t) := by rw [cut_h hT]; exact ha
  obtain ⟨cr1, cr2⟩ := (V.needsOk a).cross
  refine fb_of ?_
  refine bl_seq (sm_asg (js := [4, 5, 6]) (x := tTri t) (ev_op (ev_get rfl) (ev_get rfl) (ix_at hT)) (gt_tup (gts_cons gt_name (gts_cons gt_name (gts_cons gt_name gts_nil))) rfl) trivial) ?_
  refine bl_seq (sm_set (i := 7) (x := tT (cutT T k t)) ?_ trivial) ?_
  · refine ev_op (a := tT (T.take k ++ [⟨t.h, t.lots, t.fears.take 1⟩])) (b := tT (T.drop (k + 1))) ?_ ?_ (add_T _ _ (by rw [List.length_append, List.length_take, List.length_drop]; show _ + 1 + _ ≤ _; omega))
    · refine ev_op (a := tT (T.take k)) (b := tT [⟨t.h, t.lots, t.fears.take 1⟩]) ?_ ?_ (add_T _ _ (by rw [List.length_take]; show _ + 1 ≤ _; omega))
      · exact ev_slToT (ev_get rfl) (ev_get rfl)
      · exact ev_tup (ea_cons (ev_tup (ea_cons (ev_get rfl) (ea_cons (ev_get rfl) (ea_cons (ev_slToT (f := tS) (s := t.fears) (n := 1) (ev_get rfl) ev_n1) ea_nil))) (by show 3 ≤ 100000; decide)) ea_nil) (by show 1 ≤ 100000; decide)
    · refine ev_slFromT (n := k + 1) (ev_get rfl) ?_
      exact ev_is (ev_op (ev_get rfl) (ev_int (by decide)) (add_int _ _ (by omega))) rfl
  refine bl_ret ?_
  apply ev_is
  case h =>
    refine ev_op (a := .list (((crossF (needsF T a)).filter fun s => !(missF (needsF (cutT T k t) a) s).isNone).map tS)) ?_ (ev_lst ea_nil (by decide)) (eqnil_S _)
    refine ev_lc (xs := crossF (needsF T a)) (enc := tS) (fun s => !(missF (needsF (cutT T k t) a) s).isNone) (fun s => tS s) (src_tup (ev_call (ea_cons (ev_get rfl) (ea_cons (ev_get rfl) ea_nil)) ⟨T, a, rfl, V, ha, rfl⟩)) (fun s hs => gt_name) (by decide) (fun s hs => ?_) (fun s hs _ => ev_get rfl)
    exact et_not (et_B (ev_call (ea_cons (ev_get rfl) (ea_cons (ev_get rfl) (ea_cons (ev_get rfl) ea_nil))) ⟨cutT T k t, a, s, rfl, V2, ha2, by rw [cut_h hT]; exact cr1 s hs, rfl⟩))
  refine congrArg PyData.bool (decide_eq_true (List.filter_eq_nil_iff.mpr fun s hs => ?_))
  have hh := ((V.needsOk a).cross_least s).mp hs
  have := miss_none.mpr ((cut_fewer hT).hit V V2 ha hh.2.1)
  rw [this]
  decide
end
end K16
/-! ## part P17 -/
set_option Elab.async false
set_option linter.all false
set_option maxRecDepth 100000
set_option maxHeartbeats 1000000
namespace K16
open PySem PySem.Spec PyProof.Rows L2
open Evl (Ex)
open StX (tStar pa_star)
section
variable {P : Program} {w : World} {K : PySem.W.Frag} {mg : Str → Option Value} {base : Heap}
theorem add_L {a b : List D} (h : a.length + b.length ≤ 100000) : RAdd (.list a) (.list b) (.list (a ++ b)) := .inr (.inr ⟨_, _, rfl, rfl, h, rfl⟩)
def R_Lis_by_name_right (ds : List D) (S : D → Prop) : Prop := ∃ T : Tru, ds = [tT T] ∧ VT T ∧ S = fun d => d = .bool true
theorem ok_Lis_by_name_right (T : Tx K mg) (C_Lsame : OkG P w K mg base 1 "_law_same" ["_law_told", "_law_due"] (spR R_Lsame)) (CR_first_missed : OkR P w K mg base 8 "first_missed" ["trust", "house", "lot"] (spR R_first_missed)) (CR_meets_needs : OkR P w K mg base 8 "meets_needs" ["trust", "house", "lot"] (spR R_meets_needs)) (C_Lless : Ok P w K mg base 1 "_law_less" ["_law_some_here", "_law_late"] [] (spR R_Lless)) (C_Lneeds : Ok P w K mg base 4 "_law_needs" ["_law_band", "_law_x"] [] (spR R_Lneeds)) (C_Lsome : Ok P w K mg base 3 "_law_some" ["_law_feed_here", "_law_names_here", "_law_least_here"] [] (spF R_Lsome)) (C_Lpick : Ok P w K mg base 2 "_law_pick" ["_law_feed_here", "_law_some_here"] [] (spF R_Lpick)) : OkG P w K mg base 9 "_law_is_by_name_right" ["_law_feed_here", "_law_band"] (spF R_Lis_by_name_right) := by
  refine ok_feedG T d_Lis_by_name_right 58 58 rfl rfl rfl rfl rfl sc_Lis_by_name_right (by decide) (fun _ _ _ _ _ _ us hl => match us, hl with | [_, _], _ => rfl) ?_ ?_
  · rintro ds S ⟨T, rfl, V, rfl⟩; rfl
  intro cdv A outer s H hgd hr
  have nd := sc_Lis_by_name_right.nd
  refine ⟨_, (pss_cons (ps_setLc (i := 2) (own := [("_law_triple_here", 3)]) (g := (gName 3)) (wi := (iTup K (tVar 1))) (tt := tYes) (te := (tOp (rD2 RIx) (tVar 3) (tC (.int 0)))) rfl nd rfl rfl (sw_true rfl rfl rfl (by decide +kernel)) (pi_tup (pv 1)) (blkOk_by (N := N_Lis_by_name_right) (sc := defScope s_Lis_by_name_right) (by decide +kernel)) (fun _ _ _ _ _ => (pg_name (i := 3) nd rfl (by first | exact Or.inl rfl | exact Or.inr rfl))) (fun _ _ _ _ _ => pts_nil) (fun _ _ _ _ _ => (pe_ix ix' (pv 3) pe_int (fun _ _ => rfl)))) (pss_cons (ps_asg (pe_tup (pa_cons (pe_go C_Lpick hr (by decide) rfl (pa_cons (pv 0) (pa_cons (pv 2) pa_nil))) (pa_cons (pe_go C_Lsome hr (by decide) rfl (pa_cons (pv 0) (pa_cons (pv 2) (pa_cons pe_int pa_nil)))) pa_nil))) (pg_tup (by rfl) (pgs_cons (pg_name (i := 4) nd rfl (by first | exact Or.inl rfl | exact Or.inr rfl)) (pgs_cons (pg_name (i := 5) nd rfl (by first | exact Or.inl rfl | exact Or.inr rfl)) pgs_nil)))) (pss_cons (ps_set (i := 6) nd rfl (by first | exact Or.inl rfl | exact Or.inr rfl) (pe_go C_Lneeds hr (by decide) rfl (pa_cons (pv 1) (pa_cons (pv 4) pa_nil)))) (pss_cons (ps_setLc (i := 7) (own := [("_law_need", 8)]) (g := (gName 8)) (wi := (iTup K (tVar 6))) (tt := (tTest (tOp (rD2 REq) (tCall (spR R_Lless) [] E0 (tCons (tVar 8) (tCons (tVar 5) tNil))) (tVar 8)))) (te := (tVar 8)) rfl nd rfl rfl (sw_true rfl rfl rfl (by decide +kernel)) (pi_tup (pv 6)) (blkOk_by (N := N_Lis_by_name_right) (sc := defScope s_Lis_by_name_right) (by decide +kernel)) (fun _ _ _ _ _ => (pg_name (i := 8) nd rfl (by first | exact Or.inl rfl | exact Or.inr rfl))) (fun _ _ _ _ _ => (pts_one (pt_cmpR (op_eq' (hu64 hr)) (pe_go C_Lless hr (by decide) rfl (pa_cons (pv 8) (pa_cons (pv 5) pa_nil))) (pv 8) (nomark _)))) (fun _ _ _ _ _ => (pv 8))) (pss_cons (ps_set (i := 9) nd rfl (by first | exact Or.inl rfl | exact Or.inr rfl) (pe_lst (pa_cons (pe_goR CR_meets_needs hr (by decide) rfl (pk_cons (pv 5) (pk_cons (pv 4) (pk_cons (pv 1) pk_nil)))) pa_nil))) (pss_cons (ps_set (i := 9) nd rfl (by first | exact Or.inl rfl | exact Or.inr rfl) (pe_op op_add' (pv 9) (pe_lst (pa_cons (pe_goR CR_first_missed hr (by decide) rfl (pk_cons (pv 5) (pk_cons (pv 4) (pk_cons (pv 1) pk_nil)))) pa_nil)))) (pss_one (ps_ret (pe_goG C_Lsame hr (by decide) hgd rfl (pa_cons (pv 9) (pa_cons (pe_lst (pa_cons (pe_cmpR (op_eq' (hu64 hr)) (pv 7) (pe_lst pa_nil) (nomark _)) (pa_cons (pe_ifExp (pt_cmpR (op_ne' (hu64 hr)) (pv 7) (pe_lst pa_nil) (nomark _)) (pe_ix ix' (pv 7) pe_int (fun _ _ => rfl)) pe_non) pa_nil))) pa_nil))))))))))), ?_⟩
  rintro ⟨sl, fp, fc, fns⟩ ds S h0 ⟨T, rfl, V, rfl⟩
  obtain rfl : sl = 0 := h0
  have l1 : 1 ≤ (housesF T).length := by
    unfold housesF
    rw [List.length_map]
    exact List.length_pos_iff.mpr V.ne
  have l5 := V.hlen
  refine fb_seq (K := fun e m => e = [none, some (tT T), some (lS (housesF T)), none, none, none, none, none, none, none] ∧ m = none) (fs_mono (fs_set (i := 2) (S := fun d => d = lS (housesF T)) (fv_of ?_) trivial (show (2 : Nat) ≠ 0 by decide)) ?_) ?_
  · apply ev_is
    case h => repeat' (first | decide | apply ev_and | apply ev_or | apply et_and | apply et_or | (with_reducible intro x hx) | (with_reducible intro hp) | exact ev_get rfl | exact ev_bl | exact ev_non | exact ev_int (by decide) | exact ev_str (by decide) | exact ea_nil | apply ea_cons | apply ev_op | apply ev_cb | apply ev_call | apply ev_tup | apply ev_lst | apply et_test | apply et_B | exact et_yes | apply et_not | apply ev_lc0 | apply ev_lc | apply src_tup | apply src_list | exact gt_name | apply gt_tup | apply gts_cons | exact gts_nil | exact in_tS _ _ | exact in_lS _ _ | exact nin_tS _ _ | exact in_tSS _ _ | exact eq_tN _ _ | exact ne_tN _ _ | exact eq_tS _ _ | exact ne_tS _ _ | exact eq_int _ _ | exact lt_tN _ _ | exact le_tN _ _ | exact lt_tS _ _ | exact all_map _ _ | exact any_map _ _ | exact tup_lst _ | exact len_lst _ | exact len_tup _ | exact ix_h | exact ix_l | exact ix_f | exact ix_p0 | exact ix_p1 | exact isn_none | exact le_int _ _ | exact gt_int _ _ | apply src_zipT | apply ev_slFromT | exact ev_n1 | exact ev_n3 | exact ev_n4 | apply ev_isiStr | apply ev_isiTup | apply src_str | decide | exact rfl)
    unfold lS housesF
    rw [List.map_map]
    rfl
  · rintro e m ⟨⟨_, rfl, rfl⟩, rfl⟩
    exact ⟨rfl, rfl⟩
  rintro _ _ ⟨rfl, rfl⟩
  refine fb_seq (K := fun e m => (∃ (a : Nm) (s : Sx), a ∈ housesF T ∧ s.Sublist (housesF T) ∧ e = [none, some (tT T), some (lS (housesF T)), none, some (tN a), some (tS s), none, none, none, none]) ∧ m = none) (fs_mono (fs_asg2 (js := [4, 5]) (S := fun d => ∃ (a : Nm) (s : Sx), a ∈ housesF T ∧ s.Sublist (housesF T) ∧ d = .tuple [tN a, tS s]) (env2 := two [none, some (tT T), some (lS (housesF T)), none, none, none, none, none, none, none] 4 5) (fv_mono (fv_tup (Ra := fun ds => ∃ (a : Nm) (s : Sx), a ∈ housesF T ∧ s.Sublist (housesF T) ∧ ds = [tN a, tS s]) (fa_mono (fa_cons (fv_goF (S := fun d => d ∈ (housesF T).map tN) (ea_cons (ev_get rfl) ea_nil) ⟨_, _, rfl, .inl rfl, by rw [List.length_map]; exact l1, by rw [List.length_map]; omega, rfl⟩) (fa_cons (fv_goF (S := fun d => ∃ s : Sx, s.Sublist (housesF T) ∧ ((0 : Int) = 1 → s ≠ []) ∧ d = tS s) (ea_cons (ev_get rfl) (ea_cons (ev_int (by decide)) ea_nil)) ⟨housesF T, 0, rfl, .inl rfl, by omega, (fun h => by cases h), rfl⟩) fa_nil)) ?_) ?_) ?_) ?_ trivial (show (0 : Nat) ∉ [4, 5] by decide)) ?_) ?_
  · rintro ds ⟨_, _, hd, ⟨_, _, ⟨s, hs, _, rfl⟩, rfl, rfl⟩, rfl⟩
    obtain ⟨a, ha, rfl⟩ := List.mem_map.mp hd
    exact ⟨a, s, ha, hs, rfl⟩
  · rintro ds ⟨a, s, ha, hs, rfl⟩
    show 2 ≤ 100000
    decide
  · rintro d ⟨ds, ⟨a, s, ha, hs, rfl⟩, rfl⟩
    exact ⟨a, s, ha, hs, rfl⟩
  · rintro d ⟨a, s, ha, hs, rfl⟩
    exact gt_tup (gts_cons gt_name (gts_cons gt_name gts_nil)) rfl
  · rintro e m ⟨⟨d, ⟨a, s, ha, hs, rfl⟩, rfl⟩, rfl⟩
    exact ⟨⟨a, s, ha, hs, rfl⟩, rfl⟩
  rintro e m ⟨⟨a, s, ha, hs, rfl⟩, rfl⟩
  have hset := setOf_sub V.ris hs
  refine fb_of ?_
  refine bl_seq (sm_set (i := 6) (x := tSS (needsF T a)) ?_ trivial) ?_
  · apply ev_is
    case h => exact ev_call (ea_cons (ev_get rfl) (ea_cons (ev_get rfl) ea_nil)) ⟨T, a, rfl, V, ha, rfl⟩
    rw [V.needs_same ha]
  refine bl_seq (sm_set (i := 7) (x := lSS ((needsF T a).filter fun m => decide (lessF m s = m))) ?_ trivial) ?_
  · apply ev_is
    case h => repeat' (first | exact ⟨_, _, rfl, rfl⟩ | decide | apply ev_and | apply ev_or | apply et_and | apply et_or | (with_reducible intro x hx) | (with_reducible intro hp) | exact ev_get rfl | exact ev_bl | exact ev_non | exact ev_int (by decide) | exact ev_str (by decide) | exact ea_nil | apply ea_cons | apply ev_op | apply ev_cb | apply ev_call | apply ev_tup | apply ev_lst | apply et_test | apply et_B | exact et_yes | apply et_not | apply ev_lc0 | apply ev_lc | apply src_tup | apply src_list | exact gt_name | apply gt_tup | apply gts_cons | exact gts_nil | exact in_tS _ _ | exact in_lS _ _ | exact nin_tS _ _ | exact in_tSS _ _ | exact eq_tN _ _ | exact ne_tN _ _ | exact eq_tS _ _ | exact ne_tS _ _ | exact eq_int _ _ | exact lt_tN _ _ | exact le_tN _ _ | exact lt_tS _ _ | exact all_map _ _ | exact any_map _ _ | exact tup_lst _ | exact len_lst _ | exact len_tup _ | exact ix_h | exact ix_l | exact ix_f | exact ix_p0 | exact ix_p1 | exact isn_none | exact le_int _ _ | exact gt_int _ _ | apply src_zipT | apply ev_slFromT | exact ev_n1 | exact ev_n3 | exact ev_n4 | apply ev_isiStr | apply ev_isiTup | apply src_str | decide | exact rfl)
    rfl
  refine bl_seq (sm_set (i := 9) (x := .list [.bool (missF (needsF T a) s).isNone]) (ev_lst (ea_cons (ev_goR (ea_cons (ev_get rfl) (ea_cons (ev_get rfl) (ea_cons (ev_get rfl) ea_nil))) ⟨T, a, s, rfl, V, ha, hset, rfl⟩) ea_nil) (by show 1 ≤ 100000; decide)) trivial) ?_
  refine bl_seq (sm_set (i := 9) (x := .list [.bool (missF (needsF T a) s).isNone, optS (missF (needsF T a) s)]) (ev_op (ev_get rfl) (ev_lst (ea_cons (ev_goR (ea_cons (ev_get rfl) (ea_cons (ev_get rfl) (ea_cons (ev_get rfl) ea_nil))) ⟨T, a, s, rfl, V, ha, hset, rfl⟩) ea_nil) (by show 1 ≤ 100000; decide)) (add_L (by show 1 + 1 ≤ 100000; decide))) trivial) ?_
  have r2 : Repable (.list [.bool (missF (needsF T a) s).isNone, optS (missF (needsF T a) s)]) := rep_two ((sh_bool _).mono (by decide)) ((sh_opt fun m hm => Nat.le_trans (set_len V.ris (V.needs m (missF_mem hm))) V.hlen).mono (by decide)) (flat_bool _) (flat_opt _)
  refine bl_ret (ev_call (ea_cons (ev_get rfl) (ea_cons (d := .list [.bool (missF (needsF T a) s).isNone, optS (missF (needsF T a) s)]) ?_ ea_nil)) ⟨_, _, rfl, r2, rfl, rfl⟩)
  rcases miss_cases (needsF T a) s with ⟨e1, e2⟩ | ⟨m, e1, e2, e3⟩
  · rw [e1, e2]
    refine ev_lst (ea_cons (ev_op (ev_get rfl) (ev_lst ea_nil (by decide)) (eqnil_S [])) (ea_cons ?_ ea_nil)) (by show 2 ≤ 100000; decide)
    exact ev_if (x := false) (et_is (et_test (ev_op (ev_get rfl) (ev_lst ea_nil (by decide)) (nenil_S []))) rfl) (fun h => absurd h (by decide)) (fun _ => ev_non)
  · rw [e2]
    refine ev_lst (ea_cons (ev_is (ev_op (ev_get rfl) (ev_lst ea_nil (by decide)) (eqnil_S _)) ?_) (ea_cons ?_ ea_nil)) (by show 2 ≤ 100000; decide)
    · rw [decide_eq_false e1]
      rfl
    · refine ev_if (x := true) (et_is (et_test (ev_op (ev_get rfl) (ev_lst ea_nil (by decide)) (nenil_S _))) ?_) (fun _ => ev_op (ev_get rfl) (ev_int (by decide)) (ix_first e3)) (fun h => absurd h (by decide))
      rw [decide_eq_false e1]
      rfl
end
end K16
/-! ## part G -/
set_option Elab.async false
set_option linter.all false
set_option maxRecDepth 100000
set_option maxHeartbeats 1000000
/-! the law's call from outside, for a promise that leans on the guards (the caller's are none) -/
namespace K16
open PySem PySem.Spec PyProof.Rows L2 PySem.W PySem.Calls
section
variable {P : Program} {w : World} {K : PySem.W.Frag} {mg mb : Str → Option Value} {k : Nat} {a : Addr} {x y : Str} {sp : Sp} {s1 : Shared} {vs : List Value} {ns : List Int}
/-- the same, from any abstract heap that tracks the script at most -/
theorem callG_at (KX : K.In s1.heap) (hns : s1.heap.Ns mainGlobals mg) (hb : s1.heap.Ns builtinsNs mb) (hbb : ∀ x : Str, x ≠ "__name__" → mb x = bootBuiltins x) (hlim : s1.heap.NoLimit) (hg : s1.gens = #[])
    (ha : s1.heap.get? a = some { cls := .type "list", data := .seq vs.toArray }) (hr : Room k callerA)
    (F : ∀ base : Heap, K.In base → base.Ns mainGlobals mg → OkG P w K mg base k x [y] sp)
    (H : Hp) (hO : Only H) (hok : HOk P w H s1.heap) (hA : ∀ b, H b ≠ none → b = a) (hK : H a ≠ none → K.lookup a = none) (hsp : sp [.ref a] H (fun v _ => v = .bl true) E0) :
    codeAny (model P w) callerA (.call (.ref (He.ga K x)) ⟨[.ref a], []⟩) (fun r s' => r = .ok (.ret (.bool true)) ∧ OldK s1.heap s'.heap ∧ s'.os = s1.os ∧ AllBare s'.gens) s1 := by
  have free : ∀ {b : Addr}, b ≠ a → H b = none := fun {b} hb => Classical.byContradiction fun z => hb (hA b z)
  have dictFree : ∀ {b : Addr} {m : Str → Option Value}, s1.heap.Ns b m → b ≠ a := fun {b m} hN e => by
    obtain ⟨o, es, ep, h1, h2, _⟩ := hN
    rw [e, ha] at h1
    cases h1
    cases h2
  have ns' : ∀ {b : Addr} {m : Str → Option Value}, s1.heap.Ns b m → (hidT s1.heap H).Ns b m := fun {b m} hN => by
    have hf := free (dictFree hN)
    obtain ⟨o, es, ep, h1, h2, h3⟩ := hN
    exact ⟨o, es, ep, hidT_get h1 hf, h2, h3⟩
  have kin : K.In (hidT s1.heap H) := fun b o e => hidT_get (KX b o e) (Classical.byContradiction fun z => by
    have eb := hA b z
    rw [eb] at z e
    rw [hK z] at e
    cases e)
  obtain ⟨mc, l1, l2⟩ := hlim
  have M : Mod K mg (hidT s1.heap H) := ⟨kin, ns' hns, ⟨mb, ns' hb, hbb⟩, mc, ns' l1, l2⟩
  have none0 : ∀ b : Addr, b ∉ ([] : List Addr) := fun b z => by cases z
  have e0 : Env0 P w K mg (hidT s1.heap H) callerA [] s1 H := { frames := rfl, mod := M, bs := fun b o e => of_hidT e, bsz := Nat.le_of_eq (hidT_size _ _), funs := trivial, frf := fun b z => absurd z (none0 b), hok := hok, bare := .of_eq hg }
  obtain ⟨fd, FG, bd, _, _⟩ := F _ kin (ns' hns)
  have bd' : BindsTo s1 fd ⟨[.ref a], []⟩ [(y, .ref a)] := bd s1 [.ref a] KX rfl
  refine codeAny_mono (FG.run callerA [] s1 H ⟨[.ref a], []⟩ [.ref a] [.ref a] _ hr rfl e0 bd' (.cons rfl .nil) hsp) fun r s' h => ?_
  match r, h with
  | .error e, h => exact False.elim h
  | .ok .next, h => exact False.elim h
  | .ok .brk, h => exact False.elim h
  | .ok .cont, h => exact False.elim h
  | .ok (.ret u), h =>
    obtain ⟨v, H', os, bare, un, hok', ru, hv⟩ := h
    have hv' : v = .bl true := hv
    subst hv'
    obtain rfl : u = Value.bool true := ru
    refine ⟨rfl, OldK.of_keep fun b o e => ?_, os, bare⟩
    rcases hO b with hb | ⟨ob, xs, hb⟩
    · exact un.keep b o e hb (none0 b) (none0 b)
    · have g1 := (hok b _ hb).1
      have g2 := (hok' b _ (un.frzs b ob _ hb)).1
      rw [e] at g1
      cases g1
      exact g2
theorem callG (KX : K.In s1.heap) (hns : s1.heap.Ns mainGlobals mg) (hb : s1.heap.Ns builtinsNs mb) (hbb : ∀ x : Str, x ≠ "__name__" → mb x = bootBuiltins x) (hlim : s1.heap.NoLimit) (hg : s1.gens = #[])
    (ha : s1.heap.get? a = some { cls := .type "list", data := .seq vs.toArray }) (hi : IntsAre vs ns) (hl : ns.length ≤ sizeLine) (hr : Room k callerA)
    (F : ∀ base : Heap, K.In base → base.Ns mainGlobals mg → OkG P w K mg base k x [y] sp)
    (hsp : ∀ H : Hp, Only H → SqL K H a (ns.map V.int) → sp [.ref a] H (fun v _ => v = .bl true) E0) :
    codeAny (model P w) callerA (.call (.ref (He.ga K x)) ⟨[.ref a], []⟩) (fun r s' => r = .ok (.ret (.bool true)) ∧ OldK s1.heap s'.heap ∧ s'.os = s1.os ∧ AllBare s'.gens) s1 := by
  have rv := vals_ints hi
  have hl' : (ns.map V.int).length ≤ sizeLine := by rw [List.length_map]; exact hl
  rcases Classical.em (K.lookup a = none) with hk | hk
  · have here : (fun b => if b = a then some (HO.frz { cls := .type "list", data := .seq vs.toArray } (.lst (ns.map V.int))) else none) a = some (HO.frz { cls := .type "list", data := .seq vs.toArray } (.lst (ns.map V.int))) := if_pos rfl
    refine callG_at KX hns hb hbb hlim hg ha hr F _ (fun b => ?_) (fun b u z => ?_) (fun b z => Classical.byContradiction fun hne => z (if_neg hne)) (fun _ => hk) (hsp (fun b => if b = a then some (.frz { cls := .type "list", data := .seq vs.toArray } (.lst (ns.map V.int))) else none) (fun b => ?_) (.inl (.inr ⟨_, here⟩)))
    · by_cases e : b = a
      · exact .inr ⟨_, _, if_pos e⟩
      · exact .inl (if_neg e)
    · by_cases e : b = a
      · have z' := (if_pos e).symm.trans z
        cases z'
        rw [e]
        exact ⟨ha, hl', vs, _, rv, ha⟩
      · have z' := (if_neg e).symm.trans z
        cases z'
    · by_cases e : b = a
      · exact .inr ⟨_, _, if_pos e⟩
      · exact .inl (if_neg e)
  · cases q : K.lookup a with
    | none => exact absurd q hk
    | some o =>
      have e := KX a o q
      rw [ha] at e
      cases e
      refine callG_at KX hns hb hbb hlim hg ha hr F (fun _ => none) (fun _ => .inl rfl) (fun b u z => (by cases z)) (fun b z => absurd rfl z) (fun z => absurd rfl z) (hsp _ (fun _ => .inl rfl) (.inr ⟨_, vs.toArray, _, q, rfl, rfl, rfl, by rw [List.size_toArray, hi.length]; exact hl, by simpa using rv⟩))
end
theorem walkG {l : PySem.W.OpenLaw} {n k : Nat} {q : Program} {loose : List Str} {XP : (Str → Option Value) → Heap → Prop} {YP : World → Heap → Prop} {d : DefRec} {y : Str}
    (hn : l.most = some n) (hn2 : n ≤ sizeLine) (hdf : d.params.defaults = []) (hr : Room k callerA)
    (F : ∀ (w : World) (mg : Str → Option Value) (fa : Addr) (h : Heap), YP w h → h.Ns mainGlobals mg → mg d.name = some (.ref fa) →
      ∃ (K : PySem.W.Frag) (x : Str) (sp : Sp), fa = He.ga K x ∧ K.In h ∧
        (∀ (H : Hp) (a : Addr) (ns : List Int), ns.length ≤ n → Only H → SqL K H a (ns.map V.int) → sp [.ref a] H (fun v _ => v = .bl true) E0) ∧
        ∀ base : Heap, K.In base → base.Ns mainGlobals mg → OkG l.prog w K mg base k x [y] sp) :
    PySem.W.WalkO q loose XP YP l.row.toRowW d [] (fun f vs => PySem.call f vs) := by
  refine Att.attach_call hn hdf fun w s0 s1 mg mb fa o pm cd doc a vs ns G Y ho hd hcd hmg hobj hints hlen hg => ?_
  obtain ⟨K, x, sp, rfl, KX, hsp, hF⟩ := F w mg fa _ Y G.T.g hmg
  exact callG KX G.T.g G.T.b G.T.builtins G.T.nolimit hg hobj hints (Nat.le_trans hlen hn2) hr hF fun H hO hS => hsp H a ns hlen hO hS
end K16
/-! ## part P18 -/
set_option Elab.async false
set_option linter.all false
set_option maxRecDepth 100000
set_option maxHeartbeats 1000000
namespace K16
open PySem PySem.Spec PyProof.Rows L2
open Evl (Ex)
open StX (tStar pa_star)
section
variable {P : Program} {w : World} {K : PySem.W.Frag} {mg : Str → Option Value} {base : Heap}
def sp_Lfeed (K : PySem.W.Frag) : Sp := fun vs H Q _ => ∃ (a : Addr) (ns : List Int), vs = [.ref a] ∧ SqL K H a (ns.map V.int) ∧ ns.length ≤ 63 ∧
  ∀ (p c : Addr) (ms : List Int) (s r t : Int) (H' : Hp), FdAt H' p c ms s r t → Q (.ref p) H'
def rInt1 : List V → Hp → VK → Prop := fun xs H Q => (∃ i, xs = [.int i] ∧ Q (.int i) H) ∨ ∃ k, xs = [.bl k] ∧ Q (.int (if k then 1 else 0)) H
theorem cut61 (vs : List V) : cutV vs none (some (61 : Int)) = vs.take 61 := by
  unfold cutV
  rw [HT.sIx_none, show (61 : Int) = ((61 : Nat) : Int) from rfl, HT.sIx_nat, List.drop_zero, Nat.sub_zero]
  rcases Nat.le_total 61 vs.length with c | c
  · rw [Nat.min_eq_left c]
  · rw [Nat.min_eq_right c, List.take_of_length_le (Nat.le_refl _), List.take_of_length_le c]
theorem ok_Lfeed (T : Tx K mg) : Ok P w K mg base 1 "_law_feed" ["_law_script"] [] (sp_Lfeed K) := by
  refine ok_any T d_Lfeed 36 36 rfl rfl rfl rfl rfl sc_Lfeed (fun _ _ _ _ _ _ us hl => match us, hl with | [_], _ => rfl) ?_ ?_
  · rintro vs H Q E ⟨a, ns, rfl, _⟩; rfl
  intro cdv A outer s H vs Q E hr hs
  have nd := sc_Lfeed.nd
  refine ⟨_, PSs.nox (pss_one (ps_ret (pe_disp (pps_cons pe_str (pe_lc (own := [("_law_cell", 1)]) (g := (gName 1)) (wi := (iList K (tSl (rSlL K) (tVar 0) tNoPart (tPart (tC (.int 61)))))) (tt := tYes) (te := (tCB rInt1 (tCons (tVar 1) tNil))) rfl nd (pi_list (pe_slice sl_list (pv 0) po_none (po_some pe_int))) (blkOk_by (N := N_Lfeed) (sc := defScope s_Lfeed) (by decide +kernel)) (fun _ _ _ _ _ => (pg_name (i := 1) nd rfl (by first | exact Or.inl rfl | exact Or.inr rfl))) (fun _ _ _ _ _ => pts_nil) (fun _ _ _ _ _ => (pe_callTy (r := rInt1) call_int1 rfl (T.free 74) boot_int (pa_cons (pv 1) pa_nil)))) (pps_cons pe_str pe_int (pps_cons pe_str pe_int (pps_cons pe_str pe_int pps_nil)))) (by rfl) (by rfl) (by simp) (by decide)))), ?_⟩
  obtain ⟨a, ns, rfl, hS, hl, q⟩ := hs
  intro p hp
  have e1 : Ex H (upd H p (.dK [])) := Evl.Ex.new hp
  refine ⟨.ref a, rfl, 61, rfl, a, ns.map V.int, rfl, Evl.ex_l e1 hS, fun b hb => ?_⟩
  rw [cut61, ← List.map_take]
  have hl61 : (ns.take 61).length ≤ 61 := by rw [List.length_take]; omega
  generalize ns.take 61 = ms at hl61
  have hbp : b ≠ p := fun e => by
    rw [e, upd_same] at hb
    cases hb
  refine ⟨b, rfl, ⟨_, SqL.of upd_same⟩, fun D hD => ?_⟩
  have hDb : D ≠ b := fun e => by
    rw [e, upd_same] at hD
    cases hD
  have hDp : D ≠ p := fun e => by
    rw [e, upd_ne (Ne.symm hbp), upd_same] at hD
    cases hD
  refine lc_list (xs := ms.map V.int) (fun i H' => H' = upd (upd (upd H p (.dK [])) b (.lst (ms.map V.int))) D (.lst ((ms.take i).map V.int))) ?_ ?_ ?_ ?_
  · rw [List.take_zero]
    rfl
  · rintro i H' _ rfl
    exact SqL.of (by rw [upd_ne (Ne.symm hDb), upd_same])
  · rintro i x H' hx rfl
    rw [List.getElem?_map] at hx
    obtain ⟨n, hn, rfl⟩ := Option.map_eq_some_iff.mp hx
    refine ⟨?_, ?_⟩
    · rfl
    · refine ⟨_, rfl, .inl ⟨n, rfl, _, upd_same, ?_, ?_⟩⟩
      · rw [List.length_map, List.length_take]
        exact Evl.sz_lt (by omega)
      · rw [upd_upd, List.take_succ, hn, List.map_append]
        rfl
  · rintro H' rfl
    rw [List.length_map, List.take_length]
    refine ⟨?_, [(.inr "cells", .ref D), (.inr "spot", .int 0), (.inr "rest", .int 0), (.inr "turn", .int 0)], rfl, by show 4 ≤ 15; decide, ?_⟩
    · rw [upd_ne (Ne.symm hDp), upd_ne (Ne.symm hbp), upd_same]
    · exact q p D ms 0 0 0 _ ⟨upd_same, by rw [upd_ne hDp, upd_same], hl61⟩
end
end K16
/-! ## part Fl -/
set_option Elab.async false
set_option linter.all false
set_option maxRecDepth 100000
set_option maxHeartbeats 1000000
namespace K16
open PySem PySem.Spec PyProof.Rows L2
open Evl (Ex)
section
variable {f : Fe} {env : En} {mu : Mu} {te tl : TE} {tr : TA} {tt uu : TT} {g : TG} {wi : TI} {S : D → Prop} {js : List Nat} {K : PySem.W.Frag}
theorem fi_list {P : List D → Prop} (h : FvE f tl env (fun d => ∃ ds, P ds ∧ d = .list ds)) : FiE f (iList K tl) env P := fun σ G H r w R q => h σ G H r w _ fun v d G1 H1 s1 hd r1 => by
  obtain ⟨ds, hP, rfl⟩ := hd
  obtain ⟨a, vs, rfl, h1, h2, h3⟩ := r1.list
  have hl := h2.rp.length
  have sq : ∀ H', Ex G1 H' → SqL K H' a vs := fun H' e' => .inl (.inl (e' _ _ h1))
  refine ⟨a, rfl, ⟨vs, sq H1 s1.in_⟩, q _ G1 H1 ds s1 hP ⟨h3, fun i H' e' hi => ?_, fun i d G' H' x H'' eg e' hd y => ?_, fun i H' e' hi => ⟨vs, sq H' e', by omega⟩⟩⟩
  · exact ⟨vs, vs[i]'(by omega), sq H' e', List.getElem?_eq_getElem (by omega)⟩
  · obtain ⟨rfl, f⟩ := y
    obtain ⟨w, hw, rw'⟩ := h2.at_ hd
    have ew : x = w := Option.some.inj ((f vs (sq _ (Evl.Ex.trans eg e'))).symm.trans hw)
    subst ew
    exact ⟨G', Stp.refl e', rw'.mono eg⟩
theorem ft_B {B : Bool → Prop} (h : FvE f te env (fun d => ∃ b, B b ∧ d = .bool b)) : FvT f (tB te) env B := fun σ G H r w Q q => h σ G H r w _ fun v d G1 H1 s1 hd r1 => by
  obtain ⟨b, hb, rfl⟩ := hd
  exact ⟨b, r1.bool, q b G1 H1 s1 hb⟩
theorem ft_not {B B2 : Bool → Prop} (h : FvT f tt env B) (k : ∀ b, B b → B2 (!b)) : FvT f (tNot tt) env B2 := fun σ G H r w Q q => h σ G H r w _ fun b G1 H1 s1 hb => q (!b) G1 H1 s1 (k b hb)
theorem ft_orF (h : FvT f tt env (· = false)) (k : FvT f uu env (· = false)) : FvT f (tOr tt uu) env (· = false) := fun σ G H r w Q q => h σ G H r w _ fun b G1 H1 s1 hb => by
  subst hb
  exact k σ G1 H1 (r.mono s1.eg) (s1.wf w) _ fun b G2 H2 s2 hb2 => q b G2 H2 (s1.trans s2) hb2
/-- a loop over items of which a property is known; nothing of one's own grows -/
theorem fs_forF {α : Type} {enc : α → D} {tb : TS} (Px : List α → Prop) (Pe : α → Prop) (hPe : ∀ xs, Px xs → ∀ x ∈ xs, Pe x) (envW : En) {env4 : α → En} (hs : FiE f wi env (fun ds => ∃ xs, Px xs ∧ ds = xs.map enc)) (hw : Lw envW env) (hj : f.sl ∉ js)
    (hb : ∀ x : α, Pe x → GtE g (enc x) js envW (env4 x) ∧ FsE f tb (env4 x) none (fun e5 m5 => Lw envW e5 ∧ m5 = none)) : FsE f (tFor wi g tb) env none (fun e m => e = envW ∧ m = none) := fun σ G H G0 H0 Dn w mm q =>
  hs σ G H mm.rs (mm.wf w) _ fun J G1 H1 ds s1 hds Wk => by
    obtain ⟨xs, hP, rfl⟩ := hds
    have m1 : MsF f G0 H0 none G1 H1 σ envW := ⟨(mm.rs.mono s1.eg).weak hw, mm.mu.step s1⟩
    refine ⟨fun i k σ' H' => k = xs.length - i ∧ i ≤ xs.length ∧ ∃ G', MsF f G0 H0 none G' H' σ' envW ∧ Ex G1 G', ⟨xs.length, by simp, Nat.zero_le _, G1, m1, Evl.Ex.refl _⟩, ?_⟩
    rintro i k σ' H' ⟨rfl, hi, G', m', e'⟩
    by_cases hlt : i < xs.length
    · refine .inr ⟨Wk.go i H' (Evl.Ex.trans e' m'.mu.st.in_) (by rw [List.length_map]; exact hlt), fun σ2 H2 => ∃ G', MsF f G0 H0 none G' H2 σ2 envW ∧ Ex G1 G', fun σ2 H2 o2 => ⟨xs.length - (i + 1), by omega, rfl, hlt, o2⟩, fun v H2 y => ?_⟩
      have hd : (xs.map enc)[i]? = some (enc xs[i]) := by rw [List.getElem?_map, List.getElem?_eq_getElem hlt] <;> rfl
      obtain ⟨G2, s2, rx⟩ := Wk.yld i _ G' H' v H2 e' m'.mu.st.in_ hd y
      have s2' := StF.of (m'.wf w) s2
      obtain ⟨b1, b3⟩ := hb xs[i] (hPe xs hP _ (List.getElem_mem hlt))
      refine b1 v σ' G2 H2 (m'.rs.mono s2.eg).rs s2.in_ rx _ fun σ3 r3 _ n3 => ?_
      have m3 : MsF f G0 H0 none G2 H2 σ3 (env4 xs[i]) := ⟨⟨r3, (n3 _ hj).trans m'.rs.fd⟩, m'.mu.step s2'⟩
      exact b3 σ3 G2 H2 G0 H0 _ w m3 fun σ5 G5 H5 env5 mu5 ⟨k1, k2⟩ m5 e5 => by
        subst k2
        exact ⟨G5, ⟨m5.rs.weak k1, m5.mu⟩, Evl.Ex.trans e' (Evl.Ex.trans s2.eg e5)⟩
    · have ei : i = xs.length := by omega
      subst ei
      exact .inl ⟨Wk.stop _ H' (Evl.Ex.trans e' m'.mu.st.in_) (by rw [List.length_map]), q σ' G' H' _ _ ⟨rfl, rfl⟩ m' (Evl.Ex.trans s1.eg e')⟩
end
/-! ### the written trusts -/
def setB (n s : Sx) : Bool := decide (s.Pairwise fun a b => ltN a b = true) && s.all fun x => decide (x ∈ n)
def vtB (T : Tru) : Bool := decide (T ≠ []) && decide (T.length ≤ 5) && decide ((housesF T).Pairwise fun a b => ltN a b = true) &&
  T.all fun t => (decide (t.lots ≠ []) && decide (t.lots.Pairwise fun a b => ltS a b = true) && t.lots.all fun s => decide (s ≠ []) && setB (housesF T) s) &&
    (decide (t.fears ≠ []) && decide (t.fears.Pairwise fun a b => ltS a b = true) && t.fears.all fun s => setB (housesF T) s && !decide (t.h ∈ s))
theorem setB_ok {n s : Sx} (h : setB n s = true) : SetOf n s := by
  unfold setB at h
  rw [Bool.and_eq_true, decide_eq_true_eq, List.all_eq_true] at h
  exact ⟨h.1, fun x hx => of_decide_eq_true (h.2 x hx)⟩
theorem vtB_ok {T : Tru} (h : vtB T = true) : VT T := by
  unfold vtB at h
  simp only [Bool.and_eq_true, decide_eq_true_eq, List.all_eq_true, Bool.not_eq_true', decide_eq_false_iff_not] at h
  obtain ⟨⟨⟨h1, h2⟩, h3⟩, h4⟩ := h
  exact ⟨h1, h2, h3, fun t ht => (h4 t ht).1.1.1, fun t ht => (h4 t ht).1.1.2, fun t ht s hs => ⟨((h4 t ht).1.2 s hs).1, setB_ok ((h4 t ht).1.2 s hs).2⟩, fun t ht => (h4 t ht).2.1.1, fun t ht => (h4 t ht).2.1.2, fun t ht s hs => ⟨setB_ok ((h4 t ht).2.2 s hs).1, ((h4 t ht).2.2 s hs).2⟩⟩
theorem vt_three (b : Bool) : VT (threeT b) := vtB_ok (by cases b <;> decide +kernel)
theorem vt_four : VT fourT := vtB_ok (by decide +kernel)
theorem vt_lone : VT loneT := vtB_ok (by decide +kernel)
theorem vt_lamed : VT lamedT := vtB_ok (by decide +kernel)
theorem vt_five : VT fiveT := vtB_ok (by decide +kernel)
/-! ### the five houses' needs -/
theorem can_is {l m : List Sx} (h : (decide (m.Pairwise fun a b => ltS a b = true) && (m.all fun x => decide (x ∈ l)) && l.all fun x => decide (x ∈ m)) = true) : canS l = m := by
  rw [Bool.and_eq_true, Bool.and_eq_true, decide_eq_true_eq, List.all_eq_true, List.all_eq_true] at h
  exact (canon_one ordS h.1.1 fun x => ⟨fun hx => of_decide_eq_true (h.1.2 x hx), fun hx => of_decide_eq_true (h.2 x hx)⟩).symm
end K16
/-! ## part P19 -/
set_option Elab.async false
set_option linter.all false
set_option maxRecDepth 100000
set_option maxHeartbeats 1000000
namespace K16
open PySem PySem.Spec PyProof.Rows L2
open Evl (Ex)
open StX (tStar pa_star)
section
variable {P : Program} {w : World} {K : PySem.W.Frag} {mg : Str → Option Value} {base : Heap}
theorem great_is {l m : List Sx} {g : List Sx} (h : canS l = m) (e : (m.filter fun one => !(m.any fun late => !decide (late = one) && withinF one late)) = g) : greatestF l = g := by
  unfold greatestF
  rw [h]
  exact e
theorem five3 : fallsF fiveT 0 3 = [[4, 5, 6]] := by
  unfold fallsF
  rw [if_neg (by decide)]
  exact great_is (can_is (m := [[4, 5, 6]]) (by decide +kernel)) (by decide +kernel)
theorem five4 : fallsF fiveT 0 4 = [[5]] := by
  unfold fallsF
  rw [if_neg (by decide)]
  exact great_is (can_is (m := [[5]]) (by decide +kernel)) (by decide +kernel)
theorem five5 : fallsF fiveT 0 5 = [[]] := by
  unfold fallsF
  rw [if_neg (by decide)]
  exact great_is (can_is (m := [[]]) (by decide +kernel)) (by decide +kernel)
theorem five6 : fallsF fiveT 0 6 = [[4, 5]] := by
  unfold fallsF
  rw [if_neg (by decide)]
  exact great_is (can_is (m := [[4, 5]]) (by decide +kernel)) (by decide +kernel)
theorem five_found : foundF fiveT 0 = [[0, 3], [0, 3, 4, 6], [0, 3, 4, 5, 6], [0, 3, 6]] := by
  unfold foundF
  rw [show pairsF fiveT = [(0, 0), (3, 0), (4, 0), (5, 0), (6, 0)] by decide +kernel]
  rw [List.flatMap_cons, List.flatMap_cons, List.flatMap_cons, List.flatMap_cons, List.flatMap_cons, List.flatMap_nil]
  rw [if_pos rfl, if_neg (by decide), if_neg (by decide), if_neg (by decide), if_neg (by decide)]
  rw [five3, five4, five5, five6]
  decide +kernel
theorem five_needs : needsF fiveT 0 = [[0, 3]] := by
  unfold needsF leastF
  rw [five_found, can_is (m := [[0, 3], [0, 3, 4, 5, 6], [0, 3, 4, 6], [0, 3, 6]]) (by decide +kernel)]
  decide +kernel
theorem sh_tri {T : Tru} (V : VT T) {t : Tri} (ht : t ∈ T) : Sh 7000 (tTri t) := by
  have h1 := sh_tSS (V.llen ht) fun s hs => Nat.le_trans (set_len V.ris (V.lset t ht s hs).2) V.hlen
  have h2 := sh_tSS (V.flen ht) fun s hs => Nat.le_trans (set_len V.ris (V.fset t ht s hs).1) V.hlen
  refine (sh_tup (n := 2100) fun x hx => ?_).mono (show 3 * 2102 + 3 ≤ 7000 by decide)
  rcases List.mem_cons.mp hx with e | hx
  · rw [e]; exact (sh_tN t.h).mono (by decide)
  · rcases List.mem_cons.mp hx with e | hx
    · rw [e]; exact h1
    · rw [List.mem_singleton.mp hx]; exact h2
theorem rep_T {T : Tru} (V : VT T) : Repable (tT T) where
  seq := ⟨_, .inr rfl⟩
  sh := (sh_tup (sh_map fun t ht => sh_tri V ht)).mono (by
    have := V.len
    rw [List.length_map]
    omega)
  flat := (flat_tT T).up (by decide)
theorem rep_SS {ss : List Sx} (h : Sh 2100 (tSS ss)) : Repable (tSS ss) := ⟨⟨_, .inr rfl⟩, h.mono (by decide), (flat_tSS ss).up (by decide)⟩
def handsT : List Tru := [threeT true, threeT false, loneT, lamedT, fourT]
theorem hands_ok : ∀ T ∈ handsT, VT T := fun T hT => by
  rcases List.mem_cons.mp hT with e | hT
  · rw [e]; exact vt_three true
  rcases List.mem_cons.mp hT with e | hT
  · rw [e]; exact vt_three false
  rcases List.mem_cons.mp hT with e | hT
  · rw [e]; exact vt_lone
  rcases List.mem_cons.mp hT with e | hT
  · rw [e]; exact vt_lamed
  rw [List.mem_singleton.mp hT]; exact vt_four
/-- what law promises -/
def sp_law (K : PySem.W.Frag) : Sp := fun vs H Q _ => ∃ (a : Addr) (ns : List Int), vs = [.ref a] ∧ SqL K H a (ns.map V.int) ∧ ns.length ≤ 63 ∧ ∀ H', Q (.bl true) H'
theorem ok_law (T : Tx K mg) (C_Lis_growing_right : Ok P w K mg base 9 "_law_is_growing_right" ["_law_feed_here", "_law_band"] [] (spF R_Lis_growing_right)) (C_Lpick : Ok P w K mg base 2 "_law_pick" ["_law_feed_here", "_law_some_here"] [] (spF R_Lpick)) (C_Lis_right : OkG P w K mg base 9 "_law_is_right" ["_law_band", "_law_x"] (spR R_Lis_right)) (C_Lis_by_name_right : OkG P w K mg base 9 "_law_is_by_name_right" ["_law_feed_here", "_law_band"] (spF R_Lis_by_name_right)) (C_Ltrust : Ok P w K mg base 4 "_law_trust" ["_law_feed_here", "_law_most"] [] (spF R_Ltrust)) (C_Lfive : Ok P w K mg base 1 "_law_five" [] [] (spR R_Lfive)) (C_needs_of : Ok P w K mg base 8 "needs_of" ["trust", "house"] [] (spR R_needs_of)) (C_Lsame : OkG P w K mg base 1 "_law_same" ["_law_told", "_law_due"] (spR R_Lsame)) (C_Ldraw : Ok P w K mg base 1 "_law_draw" ["_law_feed_here", "_law_many"] [] sp_Ldraw) (C_Lfour_houses : Ok P w K mg base 1 "_law_four_houses" [] [] (spR R_Lfour_houses)) (C_Llamed : Ok P w K mg base 1 "_law_lamed" [] [] (spR R_Llamed)) (C_Llone : Ok P w K mg base 1 "_law_lone" [] [] (spR R_Llone)) (C_Lthree : Ok P w K mg base 1 "_law_three" ["_law_fears"] [] (spR R_Lthree)) (C_Lfeed : Ok P w K mg base 1 "_law_feed" ["_law_script"] [] (sp_Lfeed K)) : OkG P w K mg base 10 "law" ["_law_script"] (sp_law K) := by
  refine okG_any T d_law 60 60 rfl rfl rfl rfl rfl sc_law (fun _ _ _ _ _ _ us hl => match us, hl with | [_], _ => rfl) ?_ ?_
  · rintro vs H Q E ⟨a, ns, rfl, _⟩; rfl
  intro cdv A outer s H vs Q hgd hr hs
  have nd := sc_law.nd
  refine ⟨_, (pss_cons (ps_set (i := 1) nd rfl (by first | exact Or.inl rfl | exact Or.inr rfl) (pe_go C_Lfeed hr (by decide) rfl (pa_cons (pv 0) pa_nil))) (pss_cons (ps_set (i := 2) nd rfl (by first | exact Or.inl rfl | exact Or.inr rfl) (pe_lst (pa_cons (pe_go C_Lthree hr (by decide) rfl (pa_cons pe_bl pa_nil)) (pa_cons (pe_go C_Lthree hr (by decide) rfl (pa_cons pe_bl pa_nil)) (pa_cons (pe_go0 C_Llone hr (by decide) rfl) (pa_cons (pe_go0 C_Llamed hr (by decide) rfl) (pa_cons (pe_go0 C_Lfour_houses hr (by decide) rfl) pa_nil))))))) (pss_cons (ps_for PassesOwn.never rfl (pi_list (pe_lst (pa_cons (pe_ix ix' (pv 2) (pe_go C_Ldraw hr (by decide) rfl (pa_cons (pv 1) (pa_cons pe_int pa_nil))) (fun _ _ => rfl)) (pa_cons (pe_go C_Ltrust hr (by decide) rfl (pa_cons (pv 1) (pa_cons pe_int pa_nil))) pa_nil)))) (pg_name (i := 3) nd rfl (by first | exact Or.inl rfl | exact Or.inr rfl)) (pss_cons (ps_set (i := 4) nd rfl (by first | exact Or.inl rfl | exact Or.inr rfl) (pe_callB (call_repr' hgd (hu66 hr)) rfl (T.free 73) boot_repr (pa_cons (pv 3) pa_nil))) (pss_cons (ps_if (pt_cmpR (op_ne' (hu64 hr)) (pe_lc (own := [("_law_here", 5)]) (g := (gName 5)) (wi := (iTup K (tVar 3))) (tt := (tNot (tB (tCall (spR R_Lis_right) [] E0 (tCons (tVar 3) (tCons (tOp (rD2 RIx) (tVar 5) (tC (.int 0))) tNil)))))) (te := (tVar 5)) rfl nd (pi_tup (pv 3)) (blkOk_by (N := N_law) (sc := defScope s_law) (by decide +kernel)) (fun _ _ _ _ _ => (pg_name (i := 5) nd rfl (by first | exact Or.inl rfl | exact Or.inr rfl))) (fun _ _ _ _ _ => (pts_one (pt_not (pt_val (pe_goG C_Lis_right hr (by decide) hgd rfl (pa_cons (pv 3) (pa_cons (pe_ix ix' (pv 5) pe_int (fun _ _ => rfl)) pa_nil))))))) (fun _ _ _ _ _ => (pv 5))) (pe_lst pa_nil) (nomark _)) pss_never pss_nil) (pss_one (ps_if (pt_cmpR op_neS' (pe_callB (call_repr' hgd (hu66 hr)) rfl (T.free 73) boot_repr (pa_cons (pv 3) pa_nil)) (pv 4) (nomark _)) pss_never pss_nil))))) (pss_cons (ps_if (pt_not (pt_val (pe_goG C_Lsame hr (by decide) hgd rfl (pa_cons (pe_go C_needs_of hr (by decide) rfl (pa_cons (pe_go0 C_Lfive hr (by decide) rfl) (pa_cons pe_str pa_nil))) (pa_cons (pe_tup (pa_cons (pe_tup (pa_cons pe_str (pa_cons pe_str pa_nil))) pa_nil)) pa_nil))))) pss_never pss_nil) (pss_cons (ps_if (pt_not (pt_val (pe_goG C_Lis_right hr (by decide) hgd rfl (pa_cons (pe_go0 C_Lfive hr (by decide) rfl) (pa_cons (pe_go C_Lpick hr (by decide) rfl (pa_cons (pv 1) (pa_cons (pe_lst (pa_cons pe_str (pa_cons pe_str (pa_cons pe_str pa_nil)))) pa_nil))) pa_nil))))) pss_never pss_nil) (pss_cons (ps_set (i := 3) nd rfl (by first | exact Or.inl rfl | exact Or.inr rfl) (pe_go C_Ltrust hr (by decide) rfl (pa_cons (pv 1) (pa_cons pe_int pa_nil)))) (pss_cons (ps_if (PW.pt (pw_or (pt_not (pt_val (pe_goG C_Lis_right hr (by decide) hgd rfl (pa_cons (pv 3) (pa_cons (pe_ix ix' (pe_go C_Lpick hr (by decide) rfl (pa_cons (pv 1) (pa_cons (pv 3) pa_nil))) pe_int (fun _ _ => rfl)) pa_nil))))) (pw_or1 (pt_not (pt_val (pe_goG C_Lis_by_name_right hr (by decide) hgd rfl (pa_cons (pv 1) (pa_cons (pv 3) pa_nil)))))))) pss_never pss_nil) (pss_one (ps_ret (pe_go C_Lis_growing_right hr (by decide) rfl (pa_cons (pv 1) (pa_cons (pv 3) pa_nil)))))))))))), ?_⟩
  obtain ⟨a, ns, rfl, hS, hl, q⟩ := hs
  refine ⟨.ref a, rfl, a, ns, rfl, hS, hl, fun p c ms s0 r0 t0 H1 F => ?_⟩
  have w0 : Wf ⟨1, p, c, ms⟩ (fun _ => none) H1 := ⟨fun b o e => (by cases e), rfl, s0, r0, t0, F⟩
  have rs0 : Rs (fun _ => none) ((start N_law [.ref a]).set 1 (some (.ref p))) [none, none, none, none, none, none] := ⟨rfl, fun i d e => by rcases i with _ | _ | _ | _ | _ | _ | i <;> simp at e⟩
  dsimp only [gName]
  refine (show FbE ⟨1, p, c, ms⟩ _ [none, none, none, none, none, none] none (fun d => d = .bool true) from ?_) ((start N_law [.ref a]).set 1 (some (.ref p))) (fun _ => none) H1 (fun _ => none) H1 _ w0 ⟨⟨rs0, rfl⟩, StF.refl w0⟩ ?_
  · refine fb_seq (K := fun e m => e = [none, none, some (.list (handsT.map tT)), none, none, none] ∧ m = none) (fs_mono (fs_set (i := 2) (S := fun d => d = .list (handsT.map tT)) (fv_of ?_) trivial (show (2 : Nat) ≠ 1 by decide)) ?_) ?_
    · exact ev_lst (ea_cons (ev_call (ea_cons ev_bl ea_nil) ⟨true, rfl, rfl⟩) (ea_cons (ev_call (ea_cons ev_bl ea_nil) ⟨false, rfl, rfl⟩) (ea_cons (ev_call ea_nil ⟨rfl, rfl⟩) (ea_cons (ev_call ea_nil ⟨rfl, rfl⟩) (ea_cons (ev_call ea_nil ⟨rfl, rfl⟩) ea_nil))))) (by show 5 ≤ 100000; decide)
    · rintro e m ⟨⟨_, rfl, rfl⟩, rfl⟩
      exact ⟨rfl, rfl⟩
    rintro _ _ ⟨rfl, rfl⟩
    refine fb_seq (fs_forF (enc := tT) (js := [3]) (fun xs : List Tru => ∀ B ∈ xs, VT B) VT (fun xs h x hx => h x hx) [none, none, some (.list (handsT.map tT)), none, none, none] (env4 := fun B => [none, none, some (.list (handsT.map tT)), some (tT B), none, none]) (fi_list (fv_mono (fv_lst (Ra := fun ds => ∃ B1 B2 : Tru, VT B1 ∧ VT B2 ∧ ds = [tT B1, tT B2]) (fa_mono (fa_cons (fv_op (S := fun d => ∃ B ∈ handsT, d = tT B) (fv_of (ev_get rfl)) (fv_draw (m := 5) (by decide) (by decide) (ev_int (by decide))) ?_) (fa_cons (fv_goF (S := fun d => ∃ B : Tru, VT B ∧ d = tT B) (ea_cons (ev_int (by decide)) ea_nil) ⟨3, rfl, by decide, by decide, rfl⟩) fa_nil)) ?_) ?_) ?_)) (.n (.n (.s (.n (.n (.n .nil)))))) (show (1 : Nat) ∉ [3] by decide) ?_) ?_
    · rintro x y rfl ⟨k, hk, rfl⟩
      have e : handsT[k]? = some (handsT[k]'hk) := List.getElem?_eq_getElem hk
      exact ⟨_, ixl_at e, _, List.getElem_mem hk, rfl⟩
    · rintro ds ⟨_, _, ⟨B1, h1, rfl⟩, ⟨_, _, ⟨B2, h2, rfl⟩, rfl, rfl⟩, rfl⟩
      exact ⟨B1, B2, hands_ok B1 h1, h2, rfl⟩
    · rintro ds ⟨B1, B2, _, _, rfl⟩
      show 2 ≤ 100000
      decide
    · rintro d ⟨ds, ⟨B1, B2, h1, h2, rfl⟩, rfl⟩
      refine ⟨[tT B1, tT B2], ⟨[B1, B2], fun B hB => ?_, rfl⟩, rfl⟩
      rcases List.mem_cons.mp hB with e | hB
      · rw [e]; exact h1
      · rw [List.mem_singleton.mp hB]; exact h2
    · intro B V
      refine ⟨gt_name, ?_⟩
      have rp := rep_T V
      refine fs_seq (K := fun e m => e = [none, none, some (.list (handsT.map tT)), some (tT B), some (.str (tT B).shown), none] ∧ m = none) (fs_mono (fs_set (i := 4) (S := fun d => d = .str (tT B).shown) (fv_of (ev_cb (ea_cons (ev_get rfl) ea_nil) rp.R)) trivial (show (4 : Nat) ≠ 1 by decide)) ?_) ?_
      · rintro e m ⟨⟨_, rfl, rfl⟩, rfl⟩
        exact ⟨rfl, rfl⟩
      rintro _ _ ⟨rfl, rfl⟩
      refine fs_seq (K := fun e m => e = [none, none, some (.list (handsT.map tT)), some (tT B), some (.str (tT B).shown), none] ∧ m = none) (fs_if (B := fun b => b = false) (ft_mono (ft_of (b := !decide (([] : List Sx) = [])) (et_test (ev_op (a := .list []) ?_ (ev_lst ea_nil (by decide)) (nenil_S [])))) fun b h => h) (fun h => by cases h) (fun _ => fs_next)) ?_
      · refine ev_is (ev_lc (xs := B) (enc := tTri) (fun _ => !true) (fun t => tTri t) (src_tup (ev_get rfl)) (fun t ht => gt_name) (by decide) (fun t ht => et_not (et_B (ev_call (ea_cons (ev_get rfl) (ea_cons (ev_op (ev_get rfl) (ev_int (by decide)) ix_h) ea_nil)) ⟨B, t.h, rfl, V, List.mem_map.mpr ⟨t, ht, rfl⟩, rfl⟩))) (fun t ht _ => ev_get rfl)) ?_
        rw [List.filter_eq_nil_iff.mpr fun t ht => by decide]
        rfl
      rintro _ _ ⟨rfl, rfl⟩
      refine fs_mono (fs_if (K := fun e m => e = [none, none, some (.list (handsT.map tT)), some (tT B), some (.str (tT B).shown), none] ∧ m = none) (B := fun b => b = false) (ft_mono (ft_of (b := !decide ((tT B).shown = (tT B).shown)) (et_test (ev_op (ev_cb (ea_cons (ev_get rfl) ea_nil) rp.R) (ev_get rfl) ⟨_, _, rfl, rfl, rfl⟩))) fun b h => ?_) (fun h => by cases h) (fun _ => fs_next)) ?_
      · rw [h]
        simp
      · rintro e m ⟨rfl, rfl⟩
        exact ⟨(.n (.n (.s (.n (.n (.n .nil)))))), rfl⟩
    rintro _ _ ⟨rfl, rfl⟩
    have shF : Sh 2100 (tSS (needsF fiveT 0)) := sh_sets vt_five.ris vt_five.hlen (leastF_ris _) vt_five.needs
    refine fb_seq (K := fun e m => e = [none, none, some (.list (handsT.map tT)), none, none, none] ∧ m = none) (fs_if (B := fun b => b = false) (ft_mono (ft_of (b := !true) (et_not (et_B (ev_call (ea_cons (d := tSS (needsF fiveT 0)) (ev_call (ea_cons (ev_call ea_nil ⟨rfl, rfl⟩) (ea_cons (d := tN 0) (ev_str (by decide)) ea_nil)) ⟨fiveT, 0, rfl, vt_five, by decide, rfl⟩) (ea_cons (d := tSS (needsF fiveT 0)) ?_ ea_nil)) ⟨_, _, rfl, rep_SS shF, rfl, rfl⟩)))) fun b h => h) (fun h => by cases h) (fun _ => fs_next)) ?_
    · rw [five_needs]
      exact ev_tup (ea_cons (ev_tup (ea_cons (ev_str (by decide)) (ea_cons (ev_str (by decide)) ea_nil)) (by show 2 ≤ 100000; decide)) ea_nil) (by show 1 ≤ 100000; decide)
    rintro _ _ ⟨rfl, rfl⟩
    refine fb_seq (K := fun e m => e = [none, none, some (.list (handsT.map tT)), none, none, none] ∧ m = none) (fs_if (B := fun b => b = false) (ft_not (B := fun b => b = true) (ft_B (fv_call (Ra := fun ds => ∃ a ∈ housesF fiveT, ds = [tT fiveT, tN a]) (fa_mono (fa_cons (fv_of (ev_call ea_nil ⟨rfl, rfl⟩)) (fa_cons (fv_goF (S := fun d => d ∈ ([0, 4, 6] : Sx).map tN) (ea_cons (d := .list (([0, 4, 6] : Sx).map tN)) (ev_lst (ea_cons (ev_str (by decide)) (ea_cons (ev_str (by decide)) (ea_cons (ev_str (by decide)) ea_nil))) (by show 3 ≤ 100000; decide)) ea_nil) ⟨_, _, rfl, .inl rfl, by decide, by decide, rfl⟩) fa_nil)) ?_) ?_)) ?_) (fun h => by cases h) (fun _ => fs_next)) ?_
    · rintro ds ⟨_, _, rfl, ⟨_, _, hd, rfl, rfl⟩, rfl⟩
      obtain ⟨a, ha, rfl⟩ := List.mem_map.mp hd
      exact ⟨a, (show ∀ a ∈ ([0, 4, 6] : Sx), a ∈ housesF fiveT by decide) a ha, rfl⟩
    · rintro ds ⟨a, ha, rfl⟩
      exact ⟨_, ⟨fiveT, a, rfl, vt_five, ha, rfl⟩, true, rfl, rfl⟩
    · rintro b rfl
      rfl
    rintro _ _ ⟨rfl, rfl⟩
    refine fb_seq (K := fun e m => (∃ B : Tru, VT B ∧ e = [none, none, some (.list (handsT.map tT)), some (tT B), none, none]) ∧ m = none) (fs_mono (fs_set (i := 3) (S := fun d => ∃ B : Tru, VT B ∧ d = tT B) (fv_goF (ea_cons (ev_int (by decide)) ea_nil) ⟨5, rfl, by decide, by decide, rfl⟩) trivial (show (3 : Nat) ≠ 1 by decide)) ?_) ?_
    · rintro e m ⟨⟨_, ⟨B, V, rfl⟩, rfl⟩, rfl⟩
      exact ⟨⟨B, V, rfl⟩, rfl⟩
    rintro _ _ ⟨⟨B, V, rfl⟩, rfl⟩
    have l1 : 1 ≤ B.length := List.length_pos_iff.mpr V.ne
    have l5 := V.len
    refine fb_seq (K := fun e m => e = [none, none, some (.list (handsT.map tT)), some (tT B), none, none] ∧ m = none) (fs_if (B := fun b => b = false) (ft_orF (ft_not (B := fun b => b = true) (ft_B (fv_call (Ra := fun ds => ∃ a ∈ housesF B, ds = [tT B, tN a]) (fa_mono (fa_cons (fv_of (ev_get rfl)) (fa_cons (fv_op (S := fun d => ∃ a ∈ housesF B, d = tN a) (fv_goF (S := fun d => d ∈ B.map tTri) (ea_cons (d := tT B) (ev_get rfl) ea_nil) ⟨B.map tTri, _, rfl, .inr rfl, by rw [List.length_map]; exact l1, by rw [List.length_map]; omega, rfl⟩) (fv_of (ev_int (by decide))) ?_) fa_nil)) ?_) ?_)) ?_) (ft_not (B := fun b => b = true) (ft_B (fv_mono (fv_goF (S := fun d => d = .bool true) (ea_cons (ev_get rfl) ea_nil) ⟨B, rfl, V, rfl⟩) ?_)) ?_)) (fun h => by cases h) (fun _ => fs_next)) ?_
    · rintro x y hx rfl
      obtain ⟨t, ht, rfl⟩ := pick_h hx
      exact ⟨_, ix_h, t.h, List.mem_map.mpr ⟨t, ht, rfl⟩, rfl⟩
    · rintro ds ⟨_, _, rfl, ⟨_, _, ⟨a, ha, rfl⟩, rfl, rfl⟩, rfl⟩
      exact ⟨a, ha, rfl⟩
    · rintro ds ⟨a, ha, rfl⟩
      exact ⟨_, ⟨B, a, rfl, V, ha, rfl⟩, true, rfl, rfl⟩
    · rintro b rfl
      rfl
    · rintro d rfl
      exact ⟨true, rfl, rfl⟩
    · rintro b rfl
      rfl
    rintro _ _ ⟨rfl, rfl⟩
    exact fb_ret (fv_goF (S := fun d => d = .bool true) (ea_cons (ev_get rfl) ea_nil) ⟨B, rfl, V, rfl⟩)
  · rintro v d G2 H2 _ rfl r
    rw [r.bool]
    exact q H2
end
end K16
/-! ## part P20 -/
set_option Elab.async false
set_option linter.all false
set_option maxRecDepth 100000
set_option maxHeartbeats 1000000
namespace K16
open PySem PySem.Spec PyProof.Rows L2
section
variable {P : Program} {w : World} {K : PySem.W.Frag} {mg : Str → Option Value} {base : Heap}
theorem law_ok (T : Tx K mg) : OkG P w K mg base 10 "law" ["_law_script"] (sp_law K) := by
  have C_is_within : Ok P w K mg base 1 "is_within" ["one", "other"] [] (spR R_is_within) := ok_is_within T 
  have C_least_of : Ok P w K mg base 2 "least_of" ["sets"] [] (spR R_least_of) := ok_least_of T C_is_within
  have C_pairs_in : Ok P w K mg base 1 "pairs_in" ["trust"] [] (spR R_pairs_in) := ok_pairs_in T 
  have C_lots_of : Ok P w K mg base 1 "lots_of" ["trust", "house"] [] (spR R_lots_of) := ok_lots_of T 
  have C_lot_at : Ok P w K mg base 2 "lot_at" ["trust", "pair"] [] (spR R_lot_at) := ok_lot_at T C_lots_of
  have C_less_by : Ok P w K mg base 1 "less_by" ["lot", "fall"] [] (spR R_less_by) := ok_less_by T 
  have C_greatest_of : Ok P w K mg base 2 "greatest_of" ["sets"] [] (spR R_greatest_of) := ok_greatest_of T C_is_within
  have C_joint_in : Ok P w K mg base 1 "joint_in" ["one", "other"] [] (spR R_joint_in) := ok_joint_in T 
  have C_fears_of : Ok P w K mg base 1 "fears_of" ["trust", "house"] [] (spR R_fears_of) := ok_fears_of T 
  have C_falls_by : Ok P w K mg base 3 "falls_by" ["trust", "house", "other"] [] (spR R_falls_by) := ok_falls_by T C_greatest_of C_joint_in C_fears_of
  have C_needs_by : Ok P w K mg base 4 "needs_by" ["trust", "house"] [] (spR R_needs_by) := ok_needs_by T C_least_of C_pairs_in C_lot_at C_less_by C_falls_by
  have C_crossings_by : Ok P w K mg base 3 "crossings_by" ["needs"] [] (spR R_crossings_by) := ok_crossings_by T C_least_of C_joint_in
  have C_houses_in : Ok P w K mg base 1 "houses_in" ["trust"] [] (spR R_houses_in) := ok_houses_in T 
  have C_is_among : Ok P w K mg base 1 "is_among" ["thing", "names"] [] (spR R_is_among) := ok_is_among T 
  have C_is_house_of : Ok P w K mg base 2 "is_house_of" ["trust", "thing"] [] (spR R_is_house_of) := ok_is_house_of T C_houses_in C_is_among
  have C_want : Ok P w K mg base 1 "want" ["is_fit", "name", "at"] [.int (-1)] (spR R_want) := ok_want T 
  have C_want_house : Ok P w K mg base 3 "want_house" ["trust", "house", "name"] [.str "house"] (spR R_want_house) := ok_want_house T C_is_house_of C_want
  have C_is_name : Ok P w K mg base 1 "is_name" ["thing"] [] (spR R_is_name) := ok_is_name T 
  have C_are_rising : Ok P w K mg base 1 "are_rising" ["parts"] [] (spR R_are_rising) := ok_are_rising T 
  have C_is_names : Ok P w K mg base 2 "is_names" ["thing"] [] (spR R_is_names) := ok_is_names T C_is_name C_are_rising
  have C_is_names_among : Ok P w K mg base 3 "is_names_among" ["thing", "names"] [] (spR R_is_names_among) := ok_is_names_among T C_is_names
  have C_are_sets_among : Ok P w K mg base 4 "are_sets_among" ["thing", "names"] [] (spR R_are_sets_among) := ok_are_sets_among T C_is_names_among C_are_rising
  have C_is_tuple_of : Ok P w K mg base 1 "is_tuple_of" ["thing", "many"] [] (spR R_is_tuple_of) := ok_is_tuple_of T 
  have C_is_triple_from : Ok P w K mg base 2 "is_triple_from" ["thing"] [] (spR R_is_triple_from) := ok_is_triple_from T C_is_tuple_of C_is_name
  have C_trust_fault : Ok P w K mg base 5 "trust_fault" ["thing"] [] (spR R_trust_fault) := ok_trust_fault T C_are_sets_among C_is_triple_from
  have C_is_trust : Ok P w K mg base 6 "is_trust" ["thing"] [] (spR R_is_trust) := ok_is_trust T C_trust_fault
  have C_want_trust : Ok P w K mg base 7 "want_trust" ["trust", "name"] [.str "trust"] (spR R_want_trust) := ok_want_trust T C_is_trust C_want
  obtain ⟨C_least_lots, CR_least_lots⟩ : Ok P w K mg base 8 "least_lots" ["trust", "house"] [] (spR R_least_lots) ∧ OkR P w K mg base 8 "least_lots" ["trust", "house"] (spR R_least_lots) := ok_least_lots T C_needs_by C_crossings_by C_want_house C_want_trust
  have C_first_missed_by : Ok P w K mg base 2 "first_missed_by" ["needs", "lot"] [] (spR R_first_missed_by) := ok_first_missed_by T C_joint_in
  have C_is_met : Ok P w K mg base 3 "is_met" ["needs", "lot"] [] (spR R_is_met) := ok_is_met T C_first_missed_by
  have C_are_houses_of : Ok P w K mg base 4 "are_houses_of" ["trust", "thing"] [] (spR R_are_houses_of) := ok_are_houses_of T C_houses_in C_is_names_among
  have C_want_lot : Ok P w K mg base 5 "want_lot" ["trust", "lot", "name"] [.str "lot"] (spR R_want_lot) := ok_want_lot T C_are_houses_of C_want
  obtain ⟨C_meets_needs, CR_meets_needs⟩ : Ok P w K mg base 8 "meets_needs" ["trust", "house", "lot"] [] (spR R_meets_needs) ∧ OkR P w K mg base 8 "meets_needs" ["trust", "house", "lot"] (spR R_meets_needs) := ok_meets_needs T C_needs_by C_is_met C_want_lot C_want_house C_want_trust
  have C_Ldraw : Ok P w K mg base 1 "_law_draw" ["_law_feed_here", "_law_many"] [] sp_Ldraw := ok_Ldraw T 
  have C_Lpick : Ok P w K mg base 2 "_law_pick" ["_law_feed_here", "_law_some_here"] [] (spF R_Lpick) := ok_Lpick T C_Ldraw
  have C_Lis_growing_right : Ok P w K mg base 9 "_law_is_growing_right" ["_law_feed_here", "_law_band"] [] (spF R_Lis_growing_right) := ok_Lis_growing_right T C_least_lots C_meets_needs C_Lpick C_Ldraw
  obtain ⟨C_fewest_lot, CR_fewest_lot⟩ : Ok P w K mg base 8 "fewest_lot" ["trust", "house"] [] (spR R_fewest_lot) ∧ OkR P w K mg base 8 "fewest_lot" ["trust", "house"] (spR R_fewest_lot) := ok_fewest_lot T C_needs_by C_crossings_by C_want_house C_want_trust
  have C_Lsame : OkG P w K mg base 1 "_law_same" ["_law_told", "_law_due"] (spR R_Lsame) := ok_Lsame T 
  have C_Lis_within : Ok P w K mg base 1 "_law_is_within" ["_law_some_here", "_law_late"] [] (spR R_Lis_within) := ok_Lis_within T 
  have C_Lleast : Ok P w K mg base 2 "_law_least" ["_law_sets"] [] (spR R_Lleast) := ok_Lleast T C_Lis_within
  have C_Lsubsets : Ok P w K mg base 1 "_law_subsets" ["_law_names_here"] [] (spR R_Lsubsets) := ok_Lsubsets T 
  obtain ⟨C_first_missed, CR_first_missed⟩ : Ok P w K mg base 8 "first_missed" ["trust", "house", "lot"] [] (spR R_first_missed) ∧ OkR P w K mg base 8 "first_missed" ["trust", "house", "lot"] (spR R_first_missed) := ok_first_missed T C_needs_by C_first_missed_by C_want_lot C_want_house C_want_trust
  have C_Lless : Ok P w K mg base 1 "_law_less" ["_law_some_here", "_law_late"] [] (spR R_Lless) := ok_Lless T 
  obtain ⟨C_needs_of, CR_needs_of⟩ : Ok P w K mg base 8 "needs_of" ["trust", "house"] [] (spR R_needs_of) ∧ OkR P w K mg base 8 "needs_of" ["trust", "house"] (spR R_needs_of) := ok_needs_of T C_needs_by C_want_house C_want_trust
  have C_Lis_safe : Ok P w K mg base 2 "_law_is_safe" ["_law_triple_here", "_law_down"] [] (spR R_Lis_safe) := ok_Lis_safe T C_Lis_within
  have C_Lfalls : Ok P w K mg base 3 "_law_falls" ["_law_band", "_law_here", "_law_there"] [] (spR R_Lfalls) := ok_Lfalls T C_Lsubsets C_Lis_safe
  have C_Ltriple : Ok P w K mg base 1 "_law_triple" ["_law_band", "_law_x"] [] (spR R_Ltriple) := ok_Ltriple T 
  have C_Lneeds : Ok P w K mg base 4 "_law_needs" ["_law_band", "_law_x"] [] (spR R_Lneeds) := ok_Lneeds T C_Lleast C_Lfalls C_Lless C_Ltriple
  have C_Lis_right : OkG P w K mg base 9 "_law_is_right" ["_law_band", "_law_x"] (spR R_Lis_right) := ok_Lis_right T CR_fewest_lot CR_least_lots C_least_lots C_Lsame C_fewest_lot C_Lleast C_Lsubsets C_first_missed C_meets_needs C_Lless CR_needs_of C_needs_of C_Lneeds
  have C_Lsome : Ok P w K mg base 3 "_law_some" ["_law_feed_here", "_law_names_here", "_law_least_here"] [] (spF R_Lsome) := ok_Lsome T C_Lpick C_Ldraw
  have C_Lis_by_name_right : OkG P w K mg base 9 "_law_is_by_name_right" ["_law_feed_here", "_law_band"] (spF R_Lis_by_name_right) := ok_Lis_by_name_right T C_Lsame CR_first_missed CR_meets_needs C_Lless C_Lneeds C_Lsome C_Lpick
  have C_Lsized : Ok P w K mg base 2 "_law_sized" ["_law_names_here", "_law_size"] [] (spR R_Lsized) := ok_Lsized T C_Lsubsets
  have C_Lnames : Ok P w K mg base 3 "_law_names" ["_law_feed_here", "_law_most"] [] (spF R_Lnames) := ok_Lnames T C_Lpick C_Ldraw
  have C_Ltrust : Ok P w K mg base 4 "_law_trust" ["_law_feed_here", "_law_most"] [] (spF R_Ltrust) := ok_Ltrust T C_Lsized C_Lsome C_Ldraw C_Lpick C_Lnames
  have C_Lfive : Ok P w K mg base 1 "_law_five" [] [] (spR R_Lfive) := ok_Lfive T 
  have C_Lfour_houses : Ok P w K mg base 1 "_law_four_houses" [] [] (spR R_Lfour_houses) := ok_Lfour_houses T 
  have C_Llamed : Ok P w K mg base 1 "_law_lamed" [] [] (spR R_Llamed) := ok_Llamed T 
  have C_Llone : Ok P w K mg base 1 "_law_lone" [] [] (spR R_Llone) := ok_Llone T 
  have C_Lthree : Ok P w K mg base 1 "_law_three" ["_law_fears"] [] (spR R_Lthree) := ok_Lthree T 
  have C_Lfeed : Ok P w K mg base 1 "_law_feed" ["_law_script"] [] (sp_Lfeed K) := ok_Lfeed T 
  exact ok_law T C_Lis_growing_right C_Lpick C_Lis_right C_Lis_by_name_right C_Ltrust C_Lfive C_needs_of C_Lsame C_Ldraw C_Lfour_houses C_Llamed C_Llone C_Lthree C_Lfeed
end
end K16
/-! ## part Head -/
set_option Elab.async false
set_option linter.all false
set_option maxRecDepth 100000
set_option maxHeartbeats 0
namespace K16
open PySem PySem.Spec PyProof.Rows L2
def loose1 : List PySem.Str := [("ALPHABET" : Str), ("MOST_SIGNS" : Str), ("ANY" : Str), ("is_among" : Str), ("is_name" : Str), ("is_tuple_of" : Str), ("are_rising" : Str), ("is_names" : Str), ("is_names_among" : Str), ("are_sets_among" : Str), ("is_triple_from" : Str), ("trust_fault" : Str), ("is_trust" : Str), ("joint_in" : Str), ("houses_in" : Str), ("lots_of" : Str), ("fears_of" : Str), ("is_within" : Str), ("less_by" : Str), ("least_of" : Str), ("greatest_of" : Str), ("falls_by" : Str)]
def loose2 : List PySem.Str := [("pairs_in" : Str), ("lot_at" : Str), ("needs_by" : Str), ("first_missed_by" : Str), ("is_met" : Str), ("crossings_by" : Str), ("is_house_of" : Str), ("are_houses_of" : Str), ("CopyError" : Str), ("BookError" : Str), ("NotUsable" : Str), ("want" : Str), ("want_trust" : Str), ("want_house" : Str), ("want_lot" : Str), ("needs_of" : Str), ("meets_needs" : Str), ("first_missed" : Str), ("least_lots" : Str), ("fewest_lot" : Str), ("_law_feed" : Str), ("_law_draw" : Str)]
def loose3 : List PySem.Str := [("_law_pick" : Str), ("_law_same" : Str), ("_law_subsets" : Str), ("_law_is_within" : Str), ("_law_less" : Str), ("_law_some" : Str), ("_law_names" : Str), ("_law_sized" : Str), ("_law_trust" : Str), ("_law_is_safe" : Str), ("_law_falls" : Str), ("_law_least" : Str), ("_law_triple" : Str), ("_law_needs" : Str), ("_law_three" : Str), ("_law_four_houses" : Str), ("_law_lone" : Str), ("_law_lamed" : Str), ("_law_five" : Str), ("_law_is_right" : Str), ("_law_is_by_name_right" : Str), ("_law_is_growing_right" : Str)]
def loose : List PySem.Str := loose1 ++ (loose2 ++ loose3)
abbrev R : PySem.W.OpenRow := PySem.W.OpenLaw.row PySem.Challenge.rw_actasone_k16_whole_needs
abbrev hk : PySem.W.Hook := He.hookD 4 fa fn
def ob (s : PySem.W.SharedT) : He.AlD := He.obsDG 4 fa fn (HandSHeadRun.getT s)
theorem ob_eq (s : PySem.W.SharedT) : ob s = hk.obs s.abs := He.obsDG_eq (HandSHeadRun.getT_eq s)
theorem run (w : World) : HandSHeadRun.RunEq R (PySem.W.view R.prog [75]) hk ob 3000 loose w := by
  intro os
  kernel_rfl
end K16
/-! ## part End -/
set_option Elab.async false
set_option linter.all false
set_option maxRecDepth 100000
set_option maxHeartbeats 0
open PySem PySem.W PySem.Calls PyProof.Rows
theorem PySem.Challenge.cw_actasone_k16_whole_needs_holds : PySem.Challenge.rw_actasone_k16_whole_needs.Holds := by
  w_on; o_law
  refine HandSHeadRun.head_any (r := OpenLaw.row PySem.Challenge.rw_actasone_k16_whole_needs) (q := view (OpenLaw.row PySem.Challenge.rw_actasone_k16_whole_needs).prog [75]) (H := K16.hk) (ob := K16.ob) (M := 3000) (loose := K16.loose) (d := HandSHeadRun.topDef (OpenLaw.row PySem.Challenge.rw_actasone_k16_whole_needs).prog 75) (kwd := []) K16.ob_eq
    (by kernel_rfl) (fun s => by kernel_rfl) K16.run (by kernel_rfl) (by kernel_rfl) (by kernel_rfl) (by rfl) (by first | assumption | decide +kernel) (by decide +kernel) ⟨rfl, rfl, rfl, rfl, rfl, by decide +kernel⟩ ?hw ?hc
  case hw => w_witness2
  case hc =>
    refine K16.walkG (l := PySem.Challenge.rw_actasone_k16_whole_needs) (n := 63) (k := 10) (y := "_law_script") rfl (by decide) (by kernel_rfl) ⟨rfl, by decide, by decide⟩ ?F
    intro w mg fa h Y G hmg0
    obtain ⟨K, KX, c⟩ := Y
    have hmg : mg ("law" : PySem.Str) = some (.ref fa) := by
      have e : (HandSHeadRun.topDef (OpenLaw.row PySem.Challenge.rw_actasone_k16_whole_needs).prog 75).name = ("law" : PySem.Str) := by kernel_rfl
      rw [← e]
      exact hmg0
    have T : K16.Tx K mg := ⟨⟨h, KX, G⟩, c⟩
    have e := hmg.symm.trans (T.glo 60 (x := "law"))
    cases e
    exact ⟨K, "law", K16.sp_law K, rfl, KX, fun H a ns hl _ hS => ⟨a, ns, rfl, hS, hl, fun _ => rfl⟩, fun base _ _ => K16.law_ok T⟩
