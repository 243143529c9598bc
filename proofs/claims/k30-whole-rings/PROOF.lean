import PyProof.Rows.All
import Wide.All
import OpenK.AllK
import Wide.FinOn
import PyProof.EqAt
import PyProof.EqKinds
import PyProof.TupleCall
import KE.KStateDown
import KE.KMathG
import KE.KFromBytes
import KE.KExcSuper
import KE.KExcIs
import KE.SortData
import HandS.ForMost
import HandS.ForExc
import HandS.Defaults
import HandS.IsInst
import HandS.Style
import HandS.Flow
import HandS.Deep
import HandS.TupAny
import HandS.TupLe
import HandS.TupLen
import KE.KDictIter
import HandS.GenList
import HandS.GenYield
import HandS.ExcInit
import HandS.ExcIs
import HandS.OwnEq
import HandS.OwnIter
import HandS.IterVal
import HandS.Wide
import HandS.Gcd
import HandS.Walk
import HandS.Conv
import HandS.Evl
import HandS.TryMany
import HandS.ExcCtx
import HandS.HotCalls
import HandS.ExcField
import HandS.Head3
import HandS.HeadEnd
import HandS.HeadHook4
import PySem.Challenge.RW_ellwarden_k30_whole_rings
import KE.GoesEnum
set_option Elab.async false
set_option linter.all false
set_option maxRecDepth 100000
set_option maxHeartbeats 4000000
namespace Ell
open PySem PySem.Spec PyProof.Rows L2
/-! ### the text by places -/
def top (i : Nat) : Stmt := PySem.Challenge.pw_ellwarden_k30_whole_rings.main.body.getD i (.Pass ⟨0, 0, 0, 0⟩)
abbrev s__wall : Stmt := top 2
abbrev N__wall : List Str := ["k"]
abbrev s_Nought_init : Stmt := inClass (top 5) 0
abbrev N_Nought_init : List Str := ["self", "number"]
abbrev s_BadWorld_init : Stmt := inClass (top 6) 0
abbrev N_BadWorld_init : List Str := ["self", "place"]
abbrev s_BadSpot_init : Stmt := inClass (top 7) 0
abbrev N_BadSpot_init : List Str := ["self", "place"]
abbrev s_BadLink_init : Stmt := inClass (top 8) 0
abbrev N_BadLink_init : List Str := ["self", "place"]
abbrev s_Loose_init : Stmt := inClass (top 9) 0
abbrev N_Loose_init : List Str := ["self", "spot"]
abbrev s_NoSpot_init : Stmt := inClass (top 10) 0
abbrev N_NoSpot_init : List Str := ["self", "spot"]
abbrev s_Clash_init : Stmt := inClass (top 11) 0
abbrev N_Clash_init : List Str := ["self", "ring"]
abbrev s_is_integer : Stmt := top 14
abbrev N_is_integer : List Str := ["thing", "low", "high"]
theorem sc_is_integer : FnScope N_is_integer ["thing", "low", "high"] (defScope s_is_integer) := ⟨rfl, rfl, rfl, by decide +kernel, rfl, by decide +kernel, by decide +kernel⟩
abbrev s_ratio : Stmt := top 15
abbrev N_ratio : List Str := ["n", "d", "common"]
theorem sc_ratio : FnScope N_ratio ["n", "d"] (defScope s_ratio) := ⟨rfl, rfl, rfl, by decide +kernel, rfl, by decide +kernel, by decide +kernel⟩
abbrev s_is_ratio : Stmt := top 16
abbrev N_is_ratio : List Str := ["thing", "n", "d"]
theorem sc_is_ratio : FnScope N_is_ratio ["thing"] (defScope s_is_ratio) := ⟨rfl, rfl, rfl, by decide +kernel, rfl, by decide +kernel, by decide +kernel⟩
abbrev s_minus : Stmt := top 17
abbrev N_minus : List Str := ["a", "b"]
theorem sc_minus : FnScope N_minus ["a", "b"] (defScope s_minus) := ⟨rfl, rfl, rfl, by decide +kernel, rfl, by decide +kernel, by decide +kernel⟩
abbrev s_compare : Stmt := top 18
abbrev N_compare : List Str := ["a", "b", "left", "right"]
theorem sc_compare : FnScope N_compare ["a", "b"] (defScope s_compare) := ⟨rfl, rfl, rfl, by decide +kernel, rfl, by decide +kernel, by decide +kernel⟩
abbrev s_is_spot : Stmt := top 21
abbrev N_is_spot : List Str := ["thing"]
theorem sc_is_spot : FnScope N_is_spot ["thing"] (defScope s_is_spot) := ⟨rfl, rfl, rfl, by decide +kernel, rfl, by decide +kernel, by decide +kernel⟩
abbrev s_table_of_pairs : Stmt := top 22
abbrev N_table_of_pairs : List Str := ["pairs", "table", "place", "pair"]
theorem sc_table_of_pairs : FnScope N_table_of_pairs ["pairs"] (defScope s_table_of_pairs) := ⟨rfl, rfl, rfl, by decide +kernel, rfl, by decide +kernel, by decide +kernel⟩
abbrev s_World_init : Stmt := inClass (top 23) 0
abbrev N_World_init : List Str := ["self", "pairs"]
theorem sc_World_init : FnScope N_World_init ["self", "pairs"] (defScope s_World_init) := ⟨rfl, rfl, rfl, by decide +kernel, rfl, by decide +kernel, by decide +kernel⟩
abbrev s_World_getitem : Stmt := inClass (top 23) 1
abbrev N_World_getitem : List Str := ["self", "spot"]
theorem sc_World_getitem : FnScope N_World_getitem ["self", "spot"] (defScope s_World_getitem) := ⟨rfl, rfl, rfl, by decide +kernel, rfl, by decide +kernel, by decide +kernel⟩
abbrev s_World_iter : Stmt := inClass (top 23) 2
abbrev N_World_iter : List Str := ["self"]
theorem sc_World_iter : FnScope N_World_iter ["self"] (defScope s_World_iter) := ⟨rfl, rfl, rfl, by decide +kernel, rfl, by decide +kernel, by decide +kernel⟩
abbrev s_World_len : Stmt := inClass (top 23) 3
abbrev N_World_len : List Str := ["self"]
theorem sc_World_len : FnScope N_World_len ["self"] (defScope s_World_len) := ⟨rfl, rfl, rfl, by decide +kernel, rfl, by decide +kernel, by decide +kernel⟩
abbrev s_World_contains : Stmt := inClass (top 23) 4
abbrev N_World_contains : List Str := ["self", "spot"]
theorem sc_World_contains : FnScope N_World_contains ["self", "spot"] (defScope s_World_contains) := ⟨rfl, rfl, rfl, by decide +kernel, rfl, by decide +kernel, by decide +kernel⟩
abbrev s_World_eq : Stmt := inClass (top 23) 5
abbrev N_World_eq : List Str := ["self", "other"]
theorem sc_World_eq : FnScope N_World_eq ["self", "other"] (defScope s_World_eq) := ⟨rfl, rfl, rfl, by decide +kernel, rfl, by decide +kernel, by decide +kernel⟩
abbrev s_World_gap : Stmt := inClass (top 23) 6
abbrev N_World_gap : List Str := ["self", "a", "b", "first"]
theorem sc_World_gap : FnScope N_World_gap ["self", "a", "b"] (defScope s_World_gap) := ⟨rfl, rfl, rfl, by decide +kernel, rfl, by decide +kernel, by decide +kernel⟩
abbrev s_World_keeps : Stmt := inClass (top 23) 7
abbrev N_World_keeps : List Str := ["self", "link"]
theorem sc_World_keeps : FnScope N_World_keeps ["self", "link"] (defScope s_World_keeps) := ⟨rfl, rfl, rfl, by decide +kernel, rfl, by decide +kernel, by decide +kernel⟩
abbrev s_places_of : Stmt := top 25
abbrev N_places_of : List Str := ["spots", "table", "place", "spot"]
theorem sc_places_of : FnScope N_places_of ["spots"] (defScope s_places_of) := ⟨rfl, rfl, rfl, by decide +kernel, rfl, by decide +kernel, by decide +kernel⟩
abbrev s_check_links : Stmt := top 26
abbrev N_check_links : List Str := ["table", "links", "place", "link", "good", "word"]
theorem sc_check_links : FnScope N_check_links ["table", "links"] (defScope s_check_links) := ⟨rfl, rfl, rfl, by decide +kernel, rfl, by decide +kernel, by decide +kernel⟩
abbrev s_tied_to_ground : Stmt := top 27
abbrev N_tied_to_ground : List Str := ["links", "begin", "end", "told", "grows", "link"]
theorem sc_tied_to_ground : FnScope N_tied_to_ground ["links", "begin", "end"] (defScope s_tied_to_ground) := ⟨rfl, rfl, rfl, by decide +kernel, rfl, by decide +kernel, by decide +kernel⟩
abbrev s_check_loose : Stmt := top 28
abbrev N_check_loose : List Str := ["spots", "links", "there", "back", "spot"]
theorem sc_check_loose : FnScope N_check_loose ["spots", "links"] (defScope s_check_loose) := ⟨rfl, rfl, rfl, by decide +kernel, rfl, by decide +kernel, by decide +kernel⟩
abbrev s_levels_or_ring : Stmt := top 29
abbrev N_levels_or_ring : List Str := ["many", "arcs", "levels", "before", "changed", "turn", "number", "a", "b", "bound", "place", "ring", "start"]
theorem sc_levels_or_ring : FnScope N_levels_or_ring ["many", "arcs"] (defScope s_levels_or_ring) := ⟨rfl, rfl, rfl, by decide +kernel, rfl, by decide +kernel, by decide +kernel⟩
abbrev s_nearest : Stmt := top 30
abbrev N_nearest : List Str := ["start", "steps", "levels", "bounds", "last", "waiting", "length", "place", "number", "other", "bound", "name"]
theorem sc_nearest : FnScope N_nearest ["start", "steps", "levels"] (defScope s_nearest) := ⟨rfl, rfl, rfl, by decide +kernel, rfl, by decide +kernel, by decide +kernel⟩
abbrev s_Web_init : Stmt := inClass (top 31) 0
abbrev N_Web_init : List Str := ["self", "spots", "links", "sure"]
theorem sc_Web_init : FnScope N_Web_init ["self", "spots", "links", "sure"] (defScope s_Web_init) := ⟨rfl, rfl, rfl, by decide +kernel, rfl, by decide +kernel, by decide +kernel⟩
abbrev s_Web_made : Stmt := inClass (top 31) 1
abbrev N_Web_made : List Str := ["spots", "links"]
theorem sc_Web_made : FnScope N_Web_made ["spots", "links"] (defScope s_Web_made) := ⟨rfl, rfl, rfl, by decide +kernel, rfl, by decide +kernel, by decide +kernel⟩
abbrev s_Web_contains : Stmt := inClass (top 31) 2
abbrev N_Web_contains : List Str := ["self", "spot"]
theorem sc_Web_contains : FnScope N_Web_contains ["self", "spot"] (defScope s_Web_contains) := ⟨rfl, rfl, rfl, by decide +kernel, rfl, by decide +kernel, by decide +kernel⟩
abbrev s_Web_len : Stmt := inClass (top 31) 3
abbrev N_Web_len : List Str := ["self"]
theorem sc_Web_len : FnScope N_Web_len ["self"] (defScope s_Web_len) := ⟨rfl, rfl, rfl, by decide +kernel, rfl, by decide +kernel, by decide +kernel⟩
abbrev s_Web_iter : Stmt := inClass (top 31) 4
abbrev N_Web_iter : List Str := ["self"]
theorem sc_Web_iter : FnScope N_Web_iter ["self"] (defScope s_Web_iter) := ⟨rfl, rfl, rfl, by decide +kernel, rfl, by decide +kernel, by decide +kernel⟩
abbrev s_Web_eq : Stmt := inClass (top 31) 5
abbrev N_Web_eq : List Str := ["self", "other"]
theorem sc_Web_eq : FnScope N_Web_eq ["self", "other"] (defScope s_Web_eq) := ⟨rfl, rfl, rfl, by decide +kernel, rfl, by decide +kernel, by decide +kernel⟩
abbrev s_Web_add : Stmt := inClass (top 31) 6
abbrev N_Web_add : List Str := ["self", "other", "spots", "spot"]
theorem sc_Web_add : FnScope N_Web_add ["self", "other"] (defScope s_Web_add) := ⟨rfl, rfl, rfl, by decide +kernel, rfl, by decide +kernel, by decide +kernel⟩
abbrev s_Web_place_of : Stmt := inClass (top 31) 7
abbrev N_Web_place_of : List Str := ["self", "spot"]
theorem sc_Web_place_of : FnScope N_Web_place_of ["self", "spot"] (defScope s_Web_place_of) := ⟨rfl, rfl, rfl, by decide +kernel, rfl, by decide +kernel, by decide +kernel⟩
abbrev s_Web_prepare : Stmt := inClass (top 31) 8
abbrev N_Web_prepare : List Str := ["self", "arcs", "levels", "ring", "onward", "backward", "number", "a", "b", "bound", "link", "spot"]
theorem sc_Web_prepare : FnScope N_Web_prepare ["self"] (defScope s_Web_prepare) := ⟨rfl, rfl, rfl, by decide +kernel, rfl, by decide +kernel, by decide +kernel⟩
abbrev s_Web_sound : Stmt := inClass (top 31) 9
abbrev N_Web_sound : List Str := ["self"]
theorem sc_Web_sound : FnScope N_Web_sound ["self"] (defScope s_Web_sound) := ⟨rfl, rfl, rfl, by decide +kernel, rfl, by decide +kernel, by decide +kernel⟩
abbrev s_Web_from_spot : Stmt := inClass (top 31) 10
abbrev N_Web_from_spot : List Str := ["self", "place"]
theorem sc_Web_from_spot : FnScope N_Web_from_spot ["self", "place"] (defScope s_Web_from_spot) := ⟨rfl, rfl, rfl, by decide +kernel, rfl, by decide +kernel, by decide +kernel⟩
abbrev s_Web_to_spot : Stmt := inClass (top 31) 11
abbrev N_Web_to_spot : List Str := ["self", "place", "levels", "level"]
theorem sc_Web_to_spot : FnScope N_Web_to_spot ["self", "place"] (defScope s_Web_to_spot) := ⟨rfl, rfl, rfl, by decide +kernel, rfl, by decide +kernel, by decide +kernel⟩
abbrev s_Web_bound : Stmt := inClass (top 31) 12
abbrev N_Web_bound : List Str := ["self", "a", "b", "first", "second"]
theorem sc_Web_bound : FnScope N_Web_bound ["self", "a", "b"] (defScope s_Web_bound) := ⟨rfl, rfl, rfl, by decide +kernel, rfl, by decide +kernel, by decide +kernel⟩
abbrev s_Web_steps_to : Stmt := inClass (top 31) 13
abbrev N_Web_steps_to : List Str := ["self", "first", "second", "last", "chain", "place", "link"]
theorem sc_Web_steps_to : FnScope N_Web_steps_to ["self", "first", "second"] (defScope s_Web_steps_to) := ⟨rfl, rfl, rfl, by decide +kernel, rfl, by decide +kernel, by decide +kernel⟩
abbrev s_Web_chain : Stmt := inClass (top 31) 14
abbrev N_Web_chain : List Str := ["self", "a", "b", "first", "second"]
theorem sc_Web_chain : FnScope N_Web_chain ["self", "a", "b"] (defScope s_Web_chain) := ⟨rfl, rfl, rfl, by decide +kernel, rfl, by decide +kernel, by decide +kernel⟩
abbrev s_Web_grown : Stmt := inClass (top 31) 15
abbrev N_Web_grown : List Str := ["self", "place", "bounds", "ground", "k", "spot"]
theorem sc_Web_grown : FnScope N_Web_grown ["self", "place"] (defScope s_Web_grown) := ⟨rfl, rfl, rfl, by decide +kernel, rfl, by decide +kernel, by decide +kernel⟩
abbrev s_Web_reaching : Stmt := inClass (top 31) 16
abbrev N_Web_reaching : List Str := ["self", "a", "b", "first"]
theorem sc_Web_reaching : FnScope N_Web_reaching ["self", "a", "b"] (defScope s_Web_reaching) := ⟨rfl, rfl, rfl, by decide +kernel, rfl, by decide +kernel, by decide +kernel⟩
abbrev s_Web_bad_ring : Stmt := inClass (top 31) 17
abbrev N_Web_bad_ring : List Str := ["self"]
theorem sc_Web_bad_ring : FnScope N_Web_bad_ring ["self"] (defScope s_Web_bad_ring) := ⟨rfl, rfl, rfl, by decide +kernel, rfl, by decide +kernel, by decide +kernel⟩
abbrev s_Web_highest : Stmt := inClass (top 31) 18
abbrev N_Web_highest : List Str := ["self"]
theorem sc_Web_highest : FnScope N_Web_highest ["self"] (defScope s_Web_highest) := ⟨rfl, rfl, rfl, by decide +kernel, rfl, by decide +kernel, by decide +kernel⟩
abbrev s_Web_lowest : Stmt := inClass (top 31) 19
abbrev N_Web_lowest : List Str := ["self", "bounds", "k", "spot"]
theorem sc_Web_lowest : FnScope N_Web_lowest ["self"] (defScope s_Web_lowest) := ⟨rfl, rfl, rfl, by decide +kernel, rfl, by decide +kernel, by decide +kernel⟩
abbrev s_Web_allows : Stmt := inClass (top 31) 20
abbrev N_Web_allows : List Str := ["self", "world", "spot", "link"]
theorem sc_Web_allows : FnScope N_Web_allows ["self", "world"] (defScope s_Web_allows) := ⟨rfl, rfl, rfl, by decide +kernel, rfl, by decide +kernel, by decide +kernel⟩
abbrev s_Web_more : Stmt := inClass (top 31) 21
abbrev N_Web_more : List Str := ["self", "links", "behind"]
theorem sc_Web_more : FnScope N_Web_more ["self", "links"] (defScope s_Web_more) := ⟨rfl, rfl, rfl, by decide +kernel, rfl, by decide +kernel, by decide +kernel⟩
abbrev s_Web_links_from : Stmt := inClass (top 31) 22
abbrev N_Web_links_from : List Str := ["self", "spot", "link"]
abbrev s_Web_table_for : Stmt := inClass (top 31) 23
abbrev N_Web_table_for : List Str := ["self", "places"]
abbrev s_follows : Stmt := top 33
abbrev N_follows : List Str := ["web", "link"]
theorem sc_follows : FnScope N_follows ["web", "link"] (defScope s_follows) := ⟨rfl, rfl, rfl, by decide +kernel, rfl, by decide +kernel, by decide +kernel⟩
abbrev s_least_chain : Stmt := top 34
abbrev N_least_chain : List Str := ["steps", "kept", "start", "goal", "reach", "fresh", "later", "place", "number", "other", "bound", "length"]
theorem sc_least_chain : FnScope N_least_chain ["steps", "kept", "start", "goal"] (defScope s_least_chain) := ⟨rfl, rfl, rfl, by decide +kernel, rfl, by decide +kernel, by decide +kernel⟩
abbrev s_slim : Stmt := top 35
abbrev N_slim : List Str := ["web", "steps", "number", "link", "kept", "length", "spot"]
theorem sc_slim : FnScope N_slim ["web"] (defScope s_slim) := ⟨rfl, rfl, rfl, by decide +kernel, rfl, by decide +kernel, by decide +kernel⟩
abbrev s_l_bag_of : Stmt := top 37
abbrev N_l_bag_of : List Str := ["_law_script", "_law_mixed", "_law_cell"]
theorem sc_l_bag_of : FnScope N_l_bag_of ["_law_script"] (defScope s_l_bag_of) := ⟨rfl, rfl, rfl, by decide +kernel, rfl, by decide +kernel, by decide +kernel⟩
abbrev s_l_pick : Stmt := top 38
abbrev N_l_pick : List Str := ["_law_bag", "_law_many", "_law_number", "_law_cell"]
theorem sc_l_pick : FnScope N_l_pick ["_law_bag", "_law_many"] (defScope s_l_pick) := ⟨rfl, rfl, rfl, by decide +kernel, rfl, by decide +kernel, by decide +kernel⟩
abbrev s_l_choice : Stmt := top 39
abbrev N_l_choice : List Str := ["_law_bag", "_law_things"]
theorem sc_l_choice : FnScope N_l_choice ["_law_bag", "_law_things"] (defScope s_l_choice) := ⟨rfl, rfl, rfl, by decide +kernel, rfl, by decide +kernel, by decide +kernel⟩
abbrev s_l_one_in : Stmt := top 40
abbrev N_l_one_in : List Str := ["_law_bag", "_law_many"]
theorem sc_l_one_in : FnScope N_l_one_in ["_law_bag", "_law_many"] (defScope s_l_one_in) := ⟨rfl, rfl, rfl, by decide +kernel, rfl, by decide +kernel, by decide +kernel⟩
abbrev s_l_shuffled : Stmt := top 41
abbrev N_l_shuffled : List Str := ["_law_bag", "_law_things", "_law_rest", "_law_thing"]
theorem sc_l_shuffled : FnScope N_l_shuffled ["_law_bag", "_law_things"] (defScope s_l_shuffled) := ⟨rfl, rfl, rfl, by decide +kernel, rfl, by decide +kernel, by decide +kernel⟩
abbrev s_l_integer : Stmt := top 42
abbrev N_l_integer : List Str := ["_law_thing"]
theorem sc_l_integer : FnScope N_l_integer ["_law_thing"] (defScope s_l_integer) := ⟨rfl, rfl, rfl, by decide +kernel, rfl, by decide +kernel, by decide +kernel⟩
abbrev s_l_gcd : Stmt := top 43
abbrev N_l_gcd : List Str := ["_law_a", "_law_b", "_law_first", "_law_second", "_law_rest"]
theorem sc_l_gcd : FnScope N_l_gcd ["_law_a", "_law_b"] (defScope s_l_gcd) := ⟨rfl, rfl, rfl, by decide +kernel, rfl, by decide +kernel, by decide +kernel⟩
abbrev s_l_ratio : Stmt := top 44
abbrev N_l_ratio : List Str := ["_law_n", "_law_d", "_law_common"]
theorem sc_l_ratio : FnScope N_l_ratio ["_law_n", "_law_d"] (defScope s_l_ratio) := ⟨rfl, rfl, rfl, by decide +kernel, rfl, by decide +kernel, by decide +kernel⟩
abbrev s_l_is_ratio : Stmt := top 45
abbrev N_l_is_ratio : List Str := ["_law_thing"]
theorem sc_l_is_ratio : FnScope N_l_is_ratio ["_law_thing"] (defScope s_l_is_ratio) := ⟨rfl, rfl, rfl, by decide +kernel, rfl, by decide +kernel, by decide +kernel⟩
abbrev s_l_ground : Stmt := top 46
abbrev N_l_ground : List Str := []
theorem sc_l_ground : FnScope N_l_ground [] (defScope s_l_ground) := ⟨rfl, rfl, rfl, by decide +kernel, rfl, by decide +kernel, by decide +kernel⟩
abbrev s_l_numbered : Stmt := top 47
abbrev N_l_numbered : List Str := ["_law_spots", "_law_table", "_law_k"]
theorem sc_l_numbered : FnScope N_l_numbered ["_law_spots"] (defScope s_l_numbered) := ⟨rfl, rfl, rfl, by decide +kernel, rfl, by decide +kernel, by decide +kernel⟩
abbrev s_l_arcs : Stmt := top 48
abbrev N_l_arcs : List Str := ["_law_spots", "_law_links", "_law_table", "_law_link"]
theorem sc_l_arcs : FnScope N_l_arcs ["_law_spots", "_law_links"] (defScope s_l_arcs) := ⟨rfl, rfl, rfl, by decide +kernel, rfl, by decide +kernel, by decide +kernel⟩
abbrev s_l_values_of : Stmt := top 49
abbrev N_l_values_of : List Str := ["_law_world", "_law_spots", "_law_values", "_law_spot", "_law_value"]
theorem sc_l_values_of : FnScope N_l_values_of ["_law_world", "_law_spots"] (defScope s_l_values_of) := ⟨rfl, rfl, rfl, by decide +kernel, rfl, by decide +kernel, by decide +kernel⟩
abbrev s_l_keeps : Stmt := top 50
abbrev N_l_keeps : List Str := ["_law_values", "_law_link", "_law_first", "_law_second"]
theorem sc_l_keeps : FnScope N_l_keeps ["_law_values", "_law_link"] (defScope s_l_keeps) := ⟨rfl, rfl, rfl, by decide +kernel, rfl, by decide +kernel, by decide +kernel⟩
abbrev s_l_allowed : Stmt := top 51
abbrev N_l_allowed : List Str := ["_law_values", "_law_links", "_law_link"]
theorem sc_l_allowed : FnScope N_l_allowed ["_law_values", "_law_links"] (defScope s_l_allowed) := ⟨rfl, rfl, rfl, by decide +kernel, rfl, by decide +kernel, by decide +kernel⟩
abbrev s_l_right_ring : Stmt := top 52
abbrev N_l_right_ring : List Str := ["_law_ring", "_law_links", "_law_total", "_law_begun", "_law_k", "_law_link"]
theorem sc_l_right_ring : FnScope N_l_right_ring ["_law_ring", "_law_links"] (defScope s_l_right_ring) := ⟨rfl, rfl, rfl, by decide +kernel, rfl, by decide +kernel, by decide +kernel⟩
abbrev s_l_word_drawn : Stmt := top 53
abbrev N_l_word_drawn : List Str := ["_law_bag", "_law_signs", "_law_k"]
theorem sc_l_word_drawn : FnScope N_l_word_drawn ["_law_bag"] (defScope s_l_word_drawn) := ⟨rfl, rfl, rfl, by decide +kernel, rfl, by decide +kernel, by decide +kernel⟩
abbrev s_l_whole : Stmt := top 54
abbrev N_l_whole : List Str := ["_law_bag", "_law_way"]
theorem sc_l_whole : FnScope N_l_whole ["_law_bag"] (defScope s_l_whole) := ⟨rfl, rfl, rfl, by decide +kernel, rfl, by decide +kernel, by decide +kernel⟩
abbrev s_l_some_spots : Stmt := top 55
abbrev N_l_some_spots : List Str := ["_law_bag", "_law_many", "_law_spots", "_law_k", "_law_name", "_law_way", "_law_spot", "_law_step"]
theorem sc_l_some_spots : FnScope N_l_some_spots ["_law_bag", "_law_many"] (defScope s_l_some_spots) := ⟨rfl, rfl, rfl, by decide +kernel, rfl, by decide +kernel, by decide +kernel⟩
abbrev s_l_stranger : Stmt := top 56
abbrev N_l_stranger : List Str := ["_law_bag", "_law_spots", "_law_spot", "_law_step"]
theorem sc_l_stranger : FnScope N_l_stranger ["_law_bag", "_law_spots"] (defScope s_l_stranger) := ⟨rfl, rfl, rfl, by decide +kernel, rfl, by decide +kernel, by decide +kernel⟩
abbrev s_l_why : Stmt := top 57
abbrev N_l_why : List Str := ["_law_bag", "_law_way"]
theorem sc_l_why : FnScope N_l_why ["_law_bag"] (defScope s_l_why) := ⟨rfl, rfl, rfl, by decide +kernel, rfl, by decide +kernel, by decide +kernel⟩
abbrev s_l_slack : Stmt := top 58
abbrev N_l_slack : List Str := ["_law_bag", "_law_way"]
theorem sc_l_slack : FnScope N_l_slack ["_law_bag"] (defScope s_l_slack) := ⟨rfl, rfl, rfl, by decide +kernel, rfl, by decide +kernel, by decide +kernel⟩
abbrev s_l_net : Stmt := top 59
abbrev N_l_net : List Str := ["_law_bag", "_law_many", "_law_groups", "_law_spots", "_law_unit", "_law_levels", "_law_group", "_law_rows", "_law_k", "_law_near", "_law_way", "_law_other", "_law_a", "_law_b", "_law_turn", "_law_link", "_law_j"]
theorem sc_l_net : FnScope N_l_net ["_law_bag", "_law_many", "_law_groups"] (defScope s_l_net) := ⟨rfl, rfl, rfl, by decide +kernel, rfl, by decide +kernel, by decide +kernel⟩
abbrev s_l_closed : Stmt := top 60
abbrev N_l_closed : List Str := ["_law_spots", "_law_links", "_law_many", "_law_rows", "_law_a", "_law_row", "_law_arc", "_law_m", "_law_middle", "_law_b"]
theorem sc_l_closed : FnScope N_l_closed ["_law_spots", "_law_links"] (defScope s_l_closed) := ⟨rfl, rfl, rfl, by decide +kernel, rfl, by decide +kernel, by decide +kernel⟩
abbrev s_l_spot_like : Stmt := top 61
abbrev N_l_spot_like : List Str := ["_law_thing"]
theorem sc_l_spot_like : FnScope N_l_spot_like ["_law_thing"] (defScope s_l_spot_like) := ⟨rfl, rfl, rfl, by decide +kernel, rfl, by decide +kernel, by decide +kernel⟩
abbrev s_l_link_like : Stmt := top 62
abbrev N_l_link_like : List Str := ["_law_thing"]
theorem sc_l_link_like : FnScope N_l_link_like ["_law_thing"] (defScope s_l_link_like) := ⟨rfl, rfl, rfl, by decide +kernel, rfl, by decide +kernel, by decide +kernel⟩
abbrev s_l_ring_holds : Stmt := top 63
abbrev N_l_ring_holds : List Str := ["_law_links", "_law_told", "_law_link"]
theorem sc_l_ring_holds : FnScope N_l_ring_holds ["_law_links", "_law_told"] (defScope s_l_ring_holds) := ⟨rfl, rfl, rfl, by decide +kernel, rfl, by decide +kernel, by decide +kernel⟩
abbrev s_l_bent : Stmt := top 64
abbrev N_l_bent : List Str := ["_law_bag", "_law_spots", "_law_levels", "_law_links", "_law_way", "_law_rows", "_law_turn", "_law_place", "_law_link", "_law_few", "_law_rest", "_law_k", "_law_a", "_law_b", "_law_extra"]
theorem sc_l_bent : FnScope N_l_bent ["_law_bag", "_law_spots", "_law_levels", "_law_links"] (defScope s_l_bent) := ⟨rfl, rfl, rfl, by decide +kernel, rfl, by decide +kernel, by decide +kernel⟩
abbrev s_l_sound : Stmt := top 65
abbrev N_l_sound : List Str := ["_law_rows", "_law_k"]
theorem sc_l_sound : FnScope N_l_sound ["_law_rows"] (defScope s_l_sound) := ⟨rfl, rfl, rfl, by decide +kernel, rfl, by decide +kernel, by decide +kernel⟩
abbrev s_l_asked : Stmt := top 66
abbrev N_l_asked : List Str := ["_law_web", "_law_way", "_law_a", "_law_b", "_law_link"]
theorem sc_l_asked : FnScope N_l_asked ["_law_web", "_law_way", "_law_a", "_law_b", "_law_link"] (defScope s_l_asked) := ⟨rfl, rfl, rfl, by decide +kernel, rfl, by decide +kernel, by decide +kernel⟩
abbrev s_l_clashes_well : Stmt := top 67
abbrev N_l_clashes_well : List Str := ["_law_web", "_law_links", "_law_way", "_law_a", "_law_b", "_law_link", "_law_made", "e"]
theorem sc_l_clashes_well : FnScope N_l_clashes_well ["_law_web", "_law_links", "_law_way", "_law_a", "_law_b", "_law_link"] (defScope s_l_clashes_well) := ⟨rfl, rfl, rfl, by decide +kernel, rfl, by decide +kernel, by decide +kernel⟩
abbrev s_l_lacks_well : Stmt := top 68
abbrev N_l_lacks_well : List Str := ["_law_web", "_law_way", "_law_a", "_law_b", "_law_strange", "_law_made", "e"]
theorem sc_l_lacks_well : FnScope N_l_lacks_well ["_law_web", "_law_way", "_law_a", "_law_b", "_law_strange"] (defScope s_l_lacks_well) := ⟨rfl, rfl, rfl, by decide +kernel, rfl, by decide +kernel, by decide +kernel⟩
abbrev s_l_all_clash : Stmt := top 69
abbrev N_l_all_clash : List Str := ["_law_bag", "_law_web", "_law_spots", "_law_links", "_law_a", "_law_b", "_law_way", "_law_strange", "_law_known", "_law_spot", "_law_some", "_law_link"]
theorem sc_l_all_clash : FnScope N_l_all_clash ["_law_bag", "_law_web", "_law_spots", "_law_links"] (defScope s_l_all_clash) := ⟨rfl, rfl, rfl, by decide +kernel, rfl, by decide +kernel, by decide +kernel⟩
abbrev s_l_has_worlds : Stmt := top 70
abbrev N_l_has_worlds : List Str := ["_law_bag", "_law_web", "_law_spots", "_law_links", "_law_rows", "_law_a", "_law_b", "_law_world", "_law_told"]
theorem sc_l_has_worlds : FnScope N_l_has_worlds ["_law_bag", "_law_web", "_law_spots", "_law_links", "_law_rows"] (defScope s_l_has_worlds) := ⟨rfl, rfl, rfl, by decide +kernel, rfl, by decide +kernel, by decide +kernel⟩
abbrev s_l_loosened_well : Stmt := top 71
abbrev N_l_loosened_well : List Str := ["_law_bag", "_law_spots", "_law_links", "_law_rows", "_law_far", "_law_turn", "_law_web", "_law_ring", "_law_place", "_law_link"]
theorem sc_l_loosened_well : FnScope N_l_loosened_well ["_law_bag", "_law_spots", "_law_links"] (defScope s_l_loosened_well) := ⟨rfl, rfl, rfl, by decide +kernel, rfl, by decide +kernel, by decide +kernel⟩
abbrev s_l_grown_well : Stmt := top 72
abbrev N_l_grown_well : List Str := ["_law_bag", "_law_web", "_law_spots", "_law_links", "_law_rows", "_law_a", "_law_b", "_law_reach", "_law_edge", "_law_extra", "_law_ring"]
theorem sc_l_grown_well : FnScope N_l_grown_well ["_law_bag", "_law_web", "_law_spots", "_law_links", "_law_rows"] (defScope s_l_grown_well) := ⟨rfl, rfl, rfl, by decide +kernel, rfl, by decide +kernel, by decide +kernel⟩
abbrev s_law : Stmt := top 73
abbrev N_law : List Str := ["_law_script", "_law_bag", "_law_many", "_law_spots", "_law_levels", "_law_links", "_law_web", "_law_rows"]
theorem sc_law : FnScope N_law ["_law_script"] (defScope s_law) := ⟨rfl, rfl, rfl, by decide +kernel, rfl, by decide +kernel, by decide +kernel⟩
end Ell
set_option maxHeartbeats 4000000
namespace Ell
open PySem PySem.Spec PyProof.Rows L2
/-! ### the head: what the top leaves -/
abbrev Fg := PySem.W.Frag
def dG (x : Str) (st : Stmt) (dv : List He.Dv) : He.DefD := ⟨(x, none), x, x, defArgs st, defBody st, defScope st, dv, []⟩
def dM (C m q : Str) (st : Stmt) (dv : List He.Dv) : He.DefD := ⟨(C, some m), m, q, defArgs st, defBody st, defScope st, dv, []⟩
def fn0 : List He.DefD := [dG "is_integer" s_is_integer [.non, .non], dG "ratio" s_ratio [.int 1], dG "is_ratio" s_is_ratio [], dG "minus" s_minus [], dG "compare" s_compare [], dG "is_spot" s_is_spot [], dG "table_of_pairs" s_table_of_pairs [], dM "World" "__init__" "World.__init__" s_World_init [], dM "World" "__getitem__" "World.__getitem__" s_World_getitem [], dM "World" "__iter__" "World.__iter__" s_World_iter [], dM "World" "__len__" "World.__len__" s_World_len [], dM "World" "__contains__" "World.__contains__" s_World_contains [], dM "World" "gap" "World.gap" s_World_gap [], dM "World" "keeps" "World.keeps" s_World_keeps [], dG "places_of" s_places_of []]
def fn1 : List He.DefD := [dG "check_links" s_check_links [], dG "tied_to_ground" s_tied_to_ground [], dG "check_loose" s_check_loose [], dG "levels_or_ring" s_levels_or_ring [], dG "nearest" s_nearest [], dM "Web" "__init__" "Web.__init__" s_Web_init [.bl false], dM "Web" "place_of" "Web.place_of" s_Web_place_of [], dM "Web" "prepare" "Web.prepare" s_Web_prepare [], dM "Web" "sound" "Web.sound" s_Web_sound [], dM "Web" "from_spot" "Web.from_spot" s_Web_from_spot [], dM "Web" "to_spot" "Web.to_spot" s_Web_to_spot [], dM "Web" "bound" "Web.bound" s_Web_bound [], dM "Web" "steps_to" "Web.steps_to" s_Web_steps_to [], dM "Web" "chain" "Web.chain" s_Web_chain [], dM "Web" "grown" "Web.grown" s_Web_grown []]
def fn2 : List He.DefD := [dM "Web" "reaching" "Web.reaching" s_Web_reaching [], dM "Web" "bad_ring" "Web.bad_ring" s_Web_bad_ring [], dM "Web" "highest" "Web.highest" s_Web_highest [], dM "Web" "lowest" "Web.lowest" s_Web_lowest [], dM "Web" "allows" "Web.allows" s_Web_allows [], dM "Web" "more" "Web.more" s_Web_more [], dM "Web" "links_from" "Web.links_from" s_Web_links_from [], dG "follows" s_follows [], dG "least_chain" s_least_chain [], dG "slim" s_slim [], dG "_law_bag_of" s_l_bag_of [], dG "_law_pick" s_l_pick [], dG "_law_choice" s_l_choice [], dG "_law_one_in" s_l_one_in [], dG "_law_shuffled" s_l_shuffled []]
def fn3 : List He.DefD := [dG "_law_integer" s_l_integer [], dG "_law_gcd" s_l_gcd [], dG "_law_ratio" s_l_ratio [], dG "_law_is_ratio" s_l_is_ratio [], dG "_law_ground" s_l_ground [], dG "_law_numbered" s_l_numbered [], dG "_law_arcs" s_l_arcs [], dG "_law_values_of" s_l_values_of [], dG "_law_keeps" s_l_keeps [], dG "_law_allowed" s_l_allowed [], dG "_law_right_ring" s_l_right_ring [], dG "_law_word_drawn" s_l_word_drawn [], dG "_law_whole" s_l_whole [], dG "_law_some_spots" s_l_some_spots [], dG "_law_stranger" s_l_stranger []]
def fn4 : List He.DefD := [dG "_law_why" s_l_why [], dG "_law_slack" s_l_slack [], dG "_law_net" s_l_net [], dG "_law_closed" s_l_closed [], dG "_law_spot_like" s_l_spot_like [], dG "_law_link_like" s_l_link_like [], dG "_law_ring_holds" s_l_ring_holds [], dG "_law_bent" s_l_bent [], dG "_law_sound" s_l_sound [], dG "_law_asked" s_l_asked [], dG "_law_clashes_well" s_l_clashes_well [], dG "_law_lacks_well" s_l_lacks_well [], dG "_law_all_clash" s_l_all_clash [], dG "_law_has_worlds" s_l_has_worlds [], dG "_law_loosened_well" s_l_loosened_well []]
def fn5 : List He.DefD := [dG "_law_grown_well" s_l_grown_well [], dG "law" s_law []]
def fn : List He.DefD := fn0 ++ (fn1 ++ (fn2 ++ (fn3 ++ (fn4 ++ (fn5)))))
def fa0 : List He.Fa := [.free "abs", .free "bool", .free "enumerate", .free "int", .free "isinstance", .free "iter", .free "len", .free "list", .free "min", .free "range", .free "str", .free "sum", .free "tuple", .free "ValueError", .free "super", .free "max", .glo "GROUND", .glo "ZERO", .glo "Web", .glo "World"]
def fa1 : List He.Fa := [.glo "EllError", .glo "Clash", .glo "NoSpot", .glo "is_integer", .glo "ratio", .glo "is_ratio", .glo "minus", .glo "compare", .glo "is_spot", .glo "table_of_pairs", .mkr "World", .meth "World" "__getitem__", .meth "World" "__iter__", .meth "World" "__len__", .meth "World" "__contains__", .meth "World" "gap", .meth "World" "keeps", .glo "places_of", .glo "check_links", .glo "tied_to_ground"]
def fa2 : List He.Fa := [.glo "check_loose", .glo "levels_or_ring", .glo "nearest", .mkr "Web", .meth "Web" "place_of", .meth "Web" "prepare", .meth "Web" "sound", .meth "Web" "from_spot", .meth "Web" "to_spot", .meth "Web" "bound", .meth "Web" "steps_to", .meth "Web" "chain", .meth "Web" "grown", .meth "Web" "reaching", .meth "Web" "bad_ring", .meth "Web" "highest", .meth "Web" "lowest", .meth "Web" "allows", .meth "Web" "more", .meth "Web" "links_from"]
def fa3 : List He.Fa := [.glo "follows", .glo "least_chain", .glo "slim", .glo "_law_bag_of", .glo "_law_pick", .glo "_law_choice", .glo "_law_one_in", .glo "_law_shuffled", .glo "_law_integer", .glo "_law_gcd", .glo "_law_ratio", .glo "_law_is_ratio", .glo "_law_ground", .glo "_law_numbered", .glo "_law_arcs", .glo "_law_values_of", .glo "_law_keeps", .glo "_law_allowed", .glo "_law_right_ring", .glo "_law_word_drawn"]
def fa4 : List He.Fa := [.glo "_law_whole", .glo "_law_some_spots", .glo "_law_stranger", .glo "_law_why", .glo "_law_slack", .glo "_law_net", .glo "_law_closed", .glo "_law_spot_like", .glo "_law_link_like", .glo "_law_ring_holds", .glo "_law_bent", .glo "_law_sound", .glo "_law_asked", .glo "_law_clashes_well", .glo "_law_lacks_well", .glo "_law_all_clash", .glo "_law_has_worlds", .glo "_law_loosened_well", .glo "_law_grown_well", .glo "law"]
def fa5 : List He.Fa := [.cls "Web", .cls "World", .noat "Web" "spots", .noat "Web" "at", .noat "Web" "links", .noat "Web" "levels", .noat "Web" "broken", .noat "Web" "onward", .noat "Web" "backward", .noat "Web" "found", .noat "World" "table"]
def fa : List He.Fa := fa0 ++ (fa1 ++ (fa2 ++ (fa3 ++ (fa4 ++ (fa5)))))
structure ExD where
  x : Str
  qual : Str
  st : Stmt
  f : Str
def eCl : ExD := ⟨"Clash", "Clash.__init__", s_Clash_init, "ring"⟩
def eNs : ExD := ⟨"NoSpot", "NoSpot.__init__", s_NoSpot_init, "spot"⟩
def ExD.C (K : Fg) (e : ExD) : Addr := He.ga K e.x
def ExD.I (K : Fg) (e : ExD) : Addr := He.ma K (He.ga K e.x) "__init__"
abbrev ExV : Type := Option (Str × Str × Arguments × FuncBody × Scope × Addr × List Str × Addr)
def exV (K : Fg) (e : ExD) : ExV := match K.lookup (e.I K) with
  | some ⟨_, _, .func u, _⟩ => some (u.name, u.qualname, u.params, u.body, u.scope, u.globals, u.closure.map (·.1), u.builtins)
  | _ => none
def ExD.val (e : ExD) : ExV := some ("__init__", e.qual, defArgs e.st, .stmts (defBody e.st), defScope e.st, mainGlobals, ["__class__"], builtinsNs)
/-- the class's own object -/
def clsB (K : Fg) (C : Addr) : Bool := match K.lookup C with
  | some ⟨.type ty, _, .cls cd, sl⟩ => (match cd.mro, sl.toList with
    | .ref D :: bm, [_, _, _, _, some (.builtin nw), _] => decide (ty = "type") && (decide (D = C) && (decide (nw = "ValueError.__new__") && (!cd.hasDel && (cd.hasDict && PySem.HandSPX.refsVE bm))))
    | _, _ => false)
  | _ => false
def fileB (P : Program) (K : Fg) (cda : Addr) : Bool := match K.lookup cda with
  | some ⟨_, _, .fields us, _⟩ => (match (us[2]? : Option Value) with
    | some (.str file _) => (P.main.file : Str) == file
    | _ => false)
  | _ => false
def cellB (K : Fg) (cc C : Addr) : Bool := match K.lookup cc with
  | some ⟨_, _, .cell (some (.ref D)), _⟩ => decide (D = C)
  | _ => false
/-- the __init__'s own parts -/
def iniB (P : Program) (K : Fg) (e : ExD) : Bool := match K.lookup (e.I K) with
  | some ⟨_, _, .func u, _⟩ => (match u.defaults, u.kwdefaults, u.code, u.closure with
    | .none, .none, .ref cda, [(_, cc)] => PySem.W.codeIn K (.ref cda) e.qual && (fileB P K cda && cellB K cc (e.C K))
    | _, _, _, _ => false)
  | _ => false
def exB (P : Program) (K : Fg) (e : ExD) : Bool := clsB K (e.C K) && (He.eqO (PySem.W.findIn K (.ref (e.C K)) "__setattr__") (some (some (.builtin "object.__setattr__"))) &&
  (He.eqO (PySem.W.findIn K (.ref (e.C K)) "__getattribute__") (some (some (.builtin "BaseException.__getattribute__"))) && (He.eqO (PySem.W.findIn K (.ref (e.C K)) "__getattr__") (some none) &&
  (He.eqO (PySem.W.findIn K (.ref (e.C K)) e.f) (some none) && (He.eqO (PySem.W.findIn K (.ref (e.C K)) "__init__") (some (some (.ref (e.I K)))) &&
  (decide (PySem.W.typeIn K (.ref (e.I K)) = some (.type "function")) && (PySem.W.keepIn K (.ref (e.C K)) && (decide (PySem.W.subIn K (.ref (e.C K)) (.type "BaseException") = some true) &&
  (decide (PySem.W.typeIn K (.ref (e.C K)) = some (.type "type")) && (PySem.W.hasDictIn K (e.C K) && (He.eqO (PySem.W.nsIn K cStatics "thirdparty.any") (some none) &&
  (He.eqO (PySem.W.ks_superIn K (e.C K) (e.C K) "__init__") (some (some (.builtin "ValueError.__init__"))) && (decide (PySem.W.subIn K (.ref (e.C K)) (.type "ValueError") = some true) &&
  (decide (PySem.W.mroIn K (e.C K) (.ref (e.C K)) = some true) && (iniB P K e && !(P.main.scope.names.lookup ("super" : Str)).isSome)))))))))))))))
def ixB (K : Fg) : Bool := He.eqO (PySem.W.findIn K (.ref (He.ga K "World")) "__class__") (some (some (.builtin "object.__class__"))) && (He.eqO (PySem.W.specialIn K (.builtin "object.__class__") "__get__") (some (some (.builtin "getset_descriptor.__get__"))) &&
  (decide (PySem.W.takesIn K (.builtin "object.__class__") = some true) && (decide (PySem.W.mroIn K (He.ga K "World") (.type "object") = some true) && decide (PySem.W.kitOne K (.ref (He.ga K "World")) (.ref (He.ga K "World")) = some true))))
def iyB (K : Fg) : Bool := decide (PySem.W.exmOne K (.ref (He.ga K "Clash")) (.ref (He.ga K "EllError")) = some true) && (decide (PySem.W.exmOne K (.ref (He.ga K "NoSpot")) (.ref (He.ga K "EllError")) = some true) &&
  (He.eqO (PySem.W.findIn K (.ref (He.ga K "Clash")) "__class__") (some (some (.builtin "object.__class__"))) && (He.eqO (PySem.W.findIn K (.ref (He.ga K "NoSpot")) "__class__") (some (some (.builtin "object.__class__"))) &&
  (decide (PySem.W.mroIn K (He.ga K "Clash") (.type "object") = some true) && (decide (PySem.W.mroIn K (He.ga K "NoSpot") (.type "object") = some true) &&
  (decide (PySem.W.kitOne K (.ref (He.ga K "Clash")) (.ref (He.ga K "Clash")) = some true) && (decide (PySem.W.kitOne K (.ref (He.ga K "Clash")) (.ref (He.ga K "NoSpot")) = some false) && (decide (PySem.W.kitOne K (.ref (He.ga K "Clash")) (.type "ValueError") = some true) &&
  (decide (PySem.W.kitOne K (.ref (He.ga K "NoSpot")) (.ref (He.ga K "NoSpot")) = some true) && (decide (PySem.W.kitOne K (.ref (He.ga K "NoSpot")) (.ref (He.ga K "Clash")) = some false) && decide (PySem.W.kitOne K (.ref (He.ga K "NoSpot")) (.type "ValueError") = some true)))))))))))
def bfB (K : Fg) : Bool := He.eqO (PySem.W.nsIn K mainGlobals "heappop") (some (some (.builtin "_heapq.heappop"))) && (He.eqO (PySem.W.nsIn K mainGlobals "heappush") (some (some (.builtin "_heapq.heappush"))) && (He.eqO (PySem.W.nsIn K mainGlobals "gcd") (some (some (.builtin "math.gcd"))) &&
  (He.tupB K "GROUND" [.str "ground", .int 0, .int 0] && He.tupB K "ZERO" [.int 0, .int 1])))
def moreB (P : Program) (K : Fg) : Bool := bfB K && (ixB K && (iyB K && (exB P K eCl && exB P K eNs)))
abbrev PL : Program := PySem.Challenge.rw_ellwarden_k30_whole_rings.prog
/-- where the named things stand -/
def ads0 : List Nat := [3, 2, 256, 218, 67, 66, 89, 88, 110, 109, 131, 130, 152, 151, 173, 172, 194, 193, 215, 214, 336, 335, 554, 553, 226, 225, 219, 234, 233, 227, 241, 240, 248, 247, 255, 254, 263, 262, 270, 269, 284, 283, 291, 290, 298, 297, 305, 304, 312, 311, 326, 325, 333, 332, 347, 346, 354, 353, 361, 360]
def ads1 : List Nat := [368, 367, 375, 374, 382, 381, 397, 396, 390, 447, 446, 452, 451, 459, 458, 466, 465, 471, 470, 478, 477, 485, 484, 492, 491, 497, 496, 504, 503, 511, 510, 518, 517, 523, 522, 530, 529, 537, 536, 544, 543, 565, 564, 572, 571, 577, 576, 582, 581, 589, 588, 596, 595, 603, 602, 608, 607, 615, 614, 622]
def ads2 : List Nat := [621, 629, 628, 636, 635, 643, 642, 650, 649, 655, 654, 662, 661, 669, 668, 676, 675, 683, 682, 688, 687, 695, 694, 702, 701, 709, 708, 716, 715, 723, 722, 728, 727, 733, 732, 740, 739, 747, 746, 754, 753, 759, 758, 764, 763, 771, 770, 778, 777, 785, 784, 790, 789, 797, 796, 802, 801, 809, 808, 816]
def ads3 : List Nat := [815, 212, 211, 200, 191, 190, 179]
def ads : List Nat := ads0 ++ (ads1 ++ (ads2 ++ (ads3)))
def KF (g : Addr → Option Obj) : Fg := He.frG g ads
abbrev AlM : Type := He.AlD × (Bool × List ExV)
def obsK (K : Fg) : AlM := (He.obsD fa fn K, moreB PL K, [exV K eCl, exV K eNs])
def obsM (g : Addr → Option Obj) : AlM := obsK (KF g)
def valM : AlM := (He.valD fn, true, [eCl.val, eNs.val])
def hk : PySem.W.Hook where
  α := AlM
  obs := fun s => obsM s.heap.get?
  val := fun _ => valM
  says := fun _ h => ∃ K : Fg, K.In h ∧ obsK K = valM
  of := fun _ _ e => ⟨_, He.frG_in, e⟩
  keeps := fun _ _ _ ⟨K, hK, c⟩ k => ⟨K, PySem.W.Frag.In.keeps hK k, c⟩
def ob (s : PySem.W.SharedT) : AlM := obsM (HandSHeadRun.getT s)
theorem ob_eq (s : PySem.W.SharedT) : ob s = hk.obs s.abs := by
  have e : HandSHeadRun.getT s = s.abs.heap.get? := funext (HandSHeadRun.getT_eq s)
  show obsM (HandSHeadRun.getT s) = obsM s.abs.heap.get?
  rw [e]
def loose0 : List PySem.Str := ["heappop", "heappush", "gcd", "_wall", "__name__", "EllError", "Nought", "BadWorld", "BadSpot", "BadLink", "Loose", "NoSpot", "Clash", "ZERO", "is_integer", "ratio", "is_ratio", "minus", "compare", "GROUND"]
def loose1 : List PySem.Str := ["is_spot", "table_of_pairs", "World", "places_of", "check_links", "tied_to_ground", "check_loose", "levels_or_ring", "nearest", "Web", "follows", "least_chain", "slim", "_law_bag_of", "_law_pick", "_law_choice", "_law_one_in", "_law_shuffled", "_law_integer", "_law_gcd"]
def loose2 : List PySem.Str := ["_law_ratio", "_law_is_ratio", "_law_ground", "_law_numbered", "_law_arcs", "_law_values_of", "_law_keeps", "_law_allowed", "_law_right_ring", "_law_word_drawn", "_law_whole", "_law_some_spots", "_law_stranger", "_law_why", "_law_slack", "_law_net", "_law_closed", "_law_spot_like", "_law_link_like", "_law_ring_holds"]
def loose3 : List PySem.Str := ["_law_bent", "_law_sound", "_law_asked", "_law_clashes_well", "_law_lacks_well", "_law_all_clash", "_law_has_worlds", "_law_loosened_well", "_law_grown_well"]
def loose : List PySem.Str := loose0 ++ (loose1 ++ (loose2 ++ (loose3)))
abbrev RW : PySem.W.OpenRow := PySem.W.OpenLaw.row PySem.Challenge.rw_ellwarden_k30_whole_rings

set_option maxHeartbeats 0
theorem map3 {α β γ δ : Type} {o : Option α} {f : α → β} {g : α → γ} {h : α → δ} {x : β} {y : γ} {z : δ} (h1 : o.map (fun a => (f a, g a)) = some (x, y)) (h2 : o.map h = some z) : o.map (fun a => (f a, g a, h a)) = some (x, y, z) := by
  cases o with
  | none => cases h1
  | some a =>
    injection h1 with h1
    injection h2 with h2
    injection h1 with h1 h3
    show some (f a, g a, h a) = _
    rw [h1, h3, h2]
theorem run1 (w : World) : (HandSHeadRun.wholeF (fun p => HandSHeadRun.stepQ (HandSHeadRun.denQ HandSHeadRun.tabQ) p w) HandSHeadRun.fenceQ 100000 RW.prog).map (fun x => (HandSHeadRun.looksF RW.prog x.1.heap x.2.abs, HandSHeadRun.seenQ (PySem.W.view RW.prog [73]) loose (PySem.importedModules RW.prog.main.body) (fun s => PySem.W.xlAt (PySem.W.view RW.prog [73]) [] s && PySem.W.recOk RW.toRowW.records s) x.2.abs)) = some (true, PySem.W.openGood (PySem.W.view RW.prog [73]) loose) := by
  kernel_rfl
theorem run2 (w : World) : (HandSHeadRun.wholeF (fun p => HandSHeadRun.stepQ (HandSHeadRun.denQ HandSHeadRun.tabQ) p w) HandSHeadRun.fenceQ 100000 RW.prog).map (fun x => ob x.2) = some valM := by
  kernel_rfl
theorem run (w : World) : HandSHeadRun.RunEqI RW (PySem.W.view RW.prog [73]) hk ob 100000 loose w := map3 (run1 w) (run2 w)
end Ell
set_option maxHeartbeats 4000000
namespace Ell
open PySem PySem.Spec PyProof.Rows L2
/-! ### a def that may be called: its promise, its name -/
def Cal (P : Program) (w : World) (K : PySem.W.Frag) (mg : Str → Option Value) (base : Heap) (CX : CXT) (k : Nat) (x : Str) (ps : List Str) (dvs : List V) (sp : Sp) : Prop :=
  ∃ (f : Addr) (fd : FuncData) (ds : List Value), FnOk P w K mg base CX k f fd ps sp ∧ mg x = some (.ref f) ∧ PySem.W.keepIn K (.ref f) = true ∧ Binds K fd ps ds ∧ Vals dvs ds
/-- a method of the class at C -/
def CalM (P : Program) (w : World) (K : PySem.W.Frag) (mg : Str → Option Value) (base : Heap) (CX : CXT) (k : Nat) (C : Addr) (m : Str) (ps : List Str) (dvs : List V) (sp : Sp) : Prop :=
  ∃ (f : Addr) (fd : FuncData) (ds : List Value), FnOk P w K mg base CX k f fd ps sp ∧ Cls K C ∧ Meth K C m f ∧ Binds K fd ps ds ∧ Vals dvs ds
/-- a class with its __init__ -/
def CalC (P : Program) (w : World) (K : PySem.W.Frag) (mg : Str → Option Value) (base : Heap) (CX : CXT) (k : Nat) (x : Str) (C : Addr) (ps : List Str) (dvs : List V) (sp : Sp) : Prop :=
  ∃ (f : Addr) (fd : FuncData) (ds : List Value), FnOk P w K mg base CX k f fd ps sp ∧ Mk K C f ∧ mg x = some (.ref C) ∧ Binds K fd ps ds ∧ Vals dvs ds
section
variable {X : Cx} {k n : Nat} {x m : Str} {ps : List Str} {dvs : List V} {sp : Sp} {p apos pos : Pos} {e o : Expr} {es : List Expr} {t : TA} {to : TE} {C : Addr} {CX : CXT} {E : XK}
theorem pcallE (c : Cal X.prog X.w X.K X.mg X.base CX k x ps dvs sp) (hr : Room n X.A) (hx : Passes CX X E) (ha : PA X (e :: es) t) (hk : k ≤ n := by decide) (hg : Gl X x := by rfl)
    (hdb : (x == ("__debug__" : Str)) = false := by decide) (he : starEach (e :: es) X.env = (false, eval e X.env) :: starEach es X.env := by rfl) (hpl : (backTo pos (starEach es X.env)).any (·.1) = false := by rfl) :
    PE X (.Call (.Name x p) (e :: es) [] pos) (tCall sp dvs E t) := by
  obtain ⟨f, fd, ds, F, hm, kp, b, hd⟩ := c
  exact pe_call F (hr.mono hk) hg hm kp b hd hx ha hdb he hpl
theorem pcall (c : Cal X.prog X.w X.K X.mg X.base CX0 k x ps dvs sp) (hr : Room n X.A) (ha : PA X (e :: es) t) (hk : k ≤ n := by decide) (hg : Gl X x := by rfl)
    (hdb : (x == ("__debug__" : Str)) = false := by decide) (he : starEach (e :: es) X.env = (false, eval e X.env) :: starEach es X.env := by rfl) (hpl : (backTo pos (starEach es X.env)).any (·.1) = false := by rfl) :
    PE X (.Call (.Name x p) (e :: es) [] pos) (tCall sp dvs E0 t) := pcallE c hr pass0 ha hk hg hdb he hpl
theorem pcall0 (c : Cal X.prog X.w X.K X.mg X.base CX0 k x ps dvs sp) (hr : Room n X.A) (hk : k ≤ n := by decide) (hg : Gl X x := by rfl)
    (hdb : (x == ("__debug__" : Str)) = false := by decide) : PE X (.Call (.Name x p) [] [] pos) (tCall sp dvs E0 tNil) := by
  obtain ⟨f, fd, ds, F, hm, kp, b, hd⟩ := c
  exact pe_call0 F (hr.mono hk) hg hm kp b hd pass0 hdb
theorem pmethE {pl : Sem Bool} (c : CalM X.prog X.w X.K X.mg X.base CX k C m ps dvs sp) (hr : Room n X.A) (hx : Passes CX X E) (ho : PE X o to) (ha : PA X (e :: es) t) (hk : k ≤ n := by decide)
    (hst : starEach (e :: es) X.env = (false, eval e X.env) :: starEach es X.env := by rfl) (hpl : (backTo pos (starEach es X.env)).any (·.1) = false := by rfl)
    (ht : eval (.Call (.Attribute o m apos) (e :: es) [] pos) X.env = (do
      let ov ← eval o X.env
      standAt apos.atName
      let (f, first) ← holding [ov] (getMethod ov m pl)
      callWith pos f first (backTo pos (starEach (e :: es) X.env)) (backToKw pos (keywordEach [] X.env))) := by rfl) :
    PE X (.Call (.Attribute o m apos) (e :: es) [] pos) (tMeth C m sp dvs E to t) := by
  obtain ⟨f, fd, ds, F, cl, hm, b, hd⟩ := c
  exact pe_meth ho cl hm F (hr.mono hk) b hd hx ha hst hpl ht
theorem pmeth {pl : Sem Bool} (c : CalM X.prog X.w X.K X.mg X.base CX0 k C m ps dvs sp) (hr : Room n X.A) (ho : PE X o to) (ha : PA X (e :: es) t) (hk : k ≤ n := by decide)
    (hst : starEach (e :: es) X.env = (false, eval e X.env) :: starEach es X.env := by rfl) (hpl : (backTo pos (starEach es X.env)).any (·.1) = false := by rfl)
    (ht : eval (.Call (.Attribute o m apos) (e :: es) [] pos) X.env = (do
      let ov ← eval o X.env
      standAt apos.atName
      let (f, first) ← holding [ov] (getMethod ov m pl)
      callWith pos f first (backTo pos (starEach (e :: es) X.env)) (backToKw pos (keywordEach [] X.env))) := by rfl) :
    PE X (.Call (.Attribute o m apos) (e :: es) [] pos) (tMeth C m sp dvs E0 to t) := pmethE c hr pass0 ho ha hk hst hpl ht
theorem pmeth0E {pl : Sem Bool} (c : CalM X.prog X.w X.K X.mg X.base CX k C m ps dvs sp) (hr : Room n X.A) (hx : Passes CX X E) (ho : PE X o to) (hk : k ≤ n := by decide)
    (ht : eval (.Call (.Attribute o m apos) [] [] pos) X.env = (do
      let ov ← eval o X.env
      standAt apos.atName
      let (f, first) ← holding [ov] (getMethod ov m pl)
      callWith pos f first (backTo pos (starEach [] X.env)) (backToKw pos (keywordEach [] X.env))) := by rfl) :
    PE X (.Call (.Attribute o m apos) [] [] pos) (tMeth C m sp dvs E to tNil) := by
  obtain ⟨f, fd, ds, F, cl, hm, b, hd⟩ := c
  exact pe_meth0 ho cl hm F (hr.mono hk) b hd hx ht
theorem pmeth0 {pl : Sem Bool} (c : CalM X.prog X.w X.K X.mg X.base CX0 k C m ps dvs sp) (hr : Room n X.A) (ho : PE X o to) (hk : k ≤ n := by decide)
    (ht : eval (.Call (.Attribute o m apos) [] [] pos) X.env = (do
      let ov ← eval o X.env
      standAt apos.atName
      let (f, first) ← holding [ov] (getMethod ov m pl)
      callWith pos f first (backTo pos (starEach [] X.env)) (backToKw pos (keywordEach [] X.env))) := by rfl) :
    PE X (.Call (.Attribute o m apos) [] [] pos) (tMeth C m sp dvs E0 to tNil) := pmeth0E c hr pass0 ho hk ht
theorem pmakeE (c : CalC X.prog X.w X.K X.mg X.base CX k x C ps dvs sp) (hr : Room n X.A) (hx : Passes CX X E) (ha : PA X (e :: es) t) (hk : k + 1 ≤ n := by decide) (hg : Gl X x := by rfl)
    (hdb : (x == ("__debug__" : Str)) = false := by decide) (he : starEach (e :: es) X.env = (false, eval e X.env) :: starEach es X.env := by rfl) (hpl : (backTo pos (starEach es X.env)).any (·.1) = false := by rfl) :
    PE X (.Call (.Name x p) (e :: es) [] pos) (tMake C sp dvs E t) := by
  obtain ⟨f, fd, ds, F, M, hm, b, hd⟩ := c
  exact pe_make M F (hr.mono hk) hg hm b hd hx ha hdb he hpl
theorem pmake (c : CalC X.prog X.w X.K X.mg X.base CX0 k x C ps dvs sp) (hr : Room n X.A) (ha : PA X (e :: es) t) (hk : k + 1 ≤ n := by decide) (hg : Gl X x := by rfl)
    (hdb : (x == ("__debug__" : Str)) = false := by decide) (he : starEach (e :: es) X.env = (false, eval e X.env) :: starEach es X.env := by rfl) (hpl : (backTo pos (starEach es X.env)).any (·.1) = false := by rfl) :
    PE X (.Call (.Name x p) (e :: es) [] pos) (tMake C sp dvs E0 t) := pmakeE c hr pass0 ha hk hg hdb he hpl
end
/-- promises get weaker, levels higher -/
theorem Cal.imp {P : Program} {w : World} {K : PySem.W.Frag} {mg : Str → Option Value} {base : Heap} {CX : CXT} {k : Nat} {x : Str} {ps : List Str} {dvs : List V} {sp sp' : Sp} (c : Cal P w K mg base CX k x ps dvs sp) (h : ∀ vs H Q E, sp' vs H Q E → sp vs H Q E) :
    Cal P w K mg base CX k x ps dvs sp' := by
  obtain ⟨f, fd, ds, F, r⟩ := c
  exact ⟨f, fd, ds, F.imp h, r⟩
/-! ### frames: what is kept -/
/-- everything that p names is kept -/
structure Pres (p : Addr → HO → Prop) (H H' : Hp) : Prop where
  k : ∀ c o, H c = some o → p c o → H' c = some o
  fr : ∀ c, H' c = none → H c = none
instance {p : Addr → HO → Prop} {H H' : Hp} : CoeFun (Pres p H H') fun _ => ∀ c o, H c = some o → p c o → H' c = some o := ⟨Pres.k⟩
theorem Pres.refl {p : Addr → HO → Prop} {H : Hp} : Pres p H H := ⟨fun _ _ e _ => e, fun _ e => e⟩
theorem Pres.trans {p : Addr → HO → Prop} {H H1 H2 : Hp} (a : Pres p H H1) (b : Pres p H1 H2) : Pres p H H2 := ⟨fun c o e q => b.k c o (a.k c o e q) q, fun c e => a.fr c (b.fr c e)⟩
theorem Pres.weak {p q : Addr → HO → Prop} {H H' : Hp} (a : Pres p H H') (h : ∀ c o, q c o → p c o) : Pres q H H' := ⟨fun c o e z => a.k c o e (h c o z), a.fr⟩
theorem upd_fr {H : Hp} {a : Addr} {o : HO} : ∀ c, upd H a o c = none → H c = none := fun c e => by
  by_cases hc : c = a
  · subst hc
    rw [upd_same] at e
    cases e
  · rw [upd_ne hc] at e
    exact e
theorem Pres.new {p : Addr → HO → Prop} {H : Hp} {a : Addr} {o : HO} (h : H a = none) : Pres p H (upd H a o) := ⟨fun c u e _ => by rw [upd_ne (ne_of_none e h)]; exact e, upd_fr⟩
theorem Pres.then_new {p : Addr → HO → Prop} {H H1 : Hp} {a : Addr} {o : HO} (k : Pres p H H1) (h : H1 a = none) : Pres p H (upd H1 a o) := k.trans (Pres.new h)
/-- a place that was free at first is written -/
theorem Pres.then_put {p : Addr → HO → Prop} {H H1 : Hp} {a : Addr} {o : HO} (k : Pres p H H1) (h : H a = none) : Pres p H (upd H1 a o) := ⟨fun c u e q => by rw [upd_ne (ne_of_none e h)]; exact k.k c u e q, fun c e => k.fr c (upd_fr c e)⟩
/-- a place that p does not name is written -/
theorem Pres.put {p : Addr → HO → Prop} {H : Hp} {a : Addr} {o u : HO} (h : H a = some o) (hp : ¬ p a o) : Pres p H (upd H a u) := ⟨fun c v e q => by
  by_cases hc : c = a
  · subst hc
    rw [h] at e
    cases e
    exact absurd q hp
  · rw [upd_ne hc]
    exact e, upd_fr⟩
theorem Pres.same {p : Addr → HO → Prop} {H H' : Hp} (k : Same H H') : Pres p H H' := ⟨fun c o e _ => k c o e, fun _ e => k.free e⟩
/-- not a dict with plain keys (the law's bag is one) -/
def NDK : HO → Prop
  | .dK _ => False
  | _ => True
/-- all but the bag -/
abbrev FB : Hp → Hp → Prop := Pres fun _ o => NDK o
/-- all but the places in l -/
abbrev FW (l : List Addr) : Hp → Hp → Prop := Pres fun c _ => c ∉ l
/-- tuples -/
def TP (H H' : Hp) : Prop := ∀ c xs, H c = some (.tup xs) → H' c = some (.tup xs)
theorem TP.refl {H : Hp} : TP H H := fun _ _ e => e
theorem TP.trans {H H1 H2 : Hp} (a : TP H H1) (b : TP H1 H2) : TP H H2 := fun c xs e => b c xs (a c xs e)
theorem Pres.tp {p : Addr → HO → Prop} {H H' : Hp} (k : Pres p H H') (h : ∀ c xs, H c = some (.tup xs) → p c (.tup xs)) : TP H H' := fun c xs e => k.k c _ e (h c xs e)
theorem fb_tp {H H' : Hp} (k : FB H H') : TP H H' := k.tp fun _ _ _ => True.intro
theorem same_tp {H H' : Hp} (k : Same H H') : TP H H' := fun c _ e => k c _ e
theorem new_tp {H : Hp} {a : Addr} {o : HO} (h : H a = none) : TP H (upd H a o) := fun c u e => by rw [upd_ne (ne_of_none e h)]; exact e
theorem put_tp {H : Hp} {a : Addr} {o u : HO} (h : H a = some o) (hn : ∀ xs, o ≠ .tup xs) : TP H (upd H a u) := fun c xs e => by
  rw [upd_ne (ne_of e h (fun z => hn xs z.symm))]
  exact e
theorem same_new {H : Hp} {a : Addr} {o : HO} (h : H a = none) : Same H (upd H a o) := fun c u e => by rw [upd_ne (ne_of_none e h)]; exact e
/-! ### tuples of ints and texts; links -/
/-- texts whose signs are signs -/
def kok1 : Key → Bool
  | .inl _ => true
  | .inr s => PyData.strOk s
def kok (k : List Key) : Bool := k.all kok1
/-- a tuple of ints and texts -/
def TK (H : Hp) (v : V) (k : List Key) : Prop := ∃ p, v = .ref p ∧ H p = some (.tup (k.map kV)) ∧ kok k = true
structure Lk where
  a : List Key
  b : List Key
  w : Int
  y : List Key
  deriving DecidableEq
/-- a link: a tuple of two spots, an int, a tuple -/
def LV (H : Hp) (v : V) (l : Lk) : Prop := ∃ p x y z, v = .ref p ∧ H p = some (.tup [x, y, .int l.w, z]) ∧ TK H x l.a ∧ TK H y l.b ∧ TK H z l.y
theorem TK.mono {H H' : Hp} {v : V} {k : List Key} (h : TK H v k) (t : TP H H') : TK H' v k := by
  obtain ⟨p, e, q, o⟩ := h
  exact ⟨p, e, t _ _ q, o⟩
theorem LV.mono {H H' : Hp} {v : V} {l : Lk} (h : LV H v l) (t : TP H H') : LV H' v l := by
  obtain ⟨p, x, y, z, e, q, h1, h2, h3⟩ := h
  exact ⟨p, x, y, z, e, t _ _ q, h1.mono t, h2.mono t, h3.mono t⟩
abbrev TKs (H : Hp) : List V → List (List Key) → Prop := Paired (TK H)
abbrev LVs (H : Hp) : List V → List Lk → Prop := Paired (LV H)
theorem tks_mono {H H' : Hp} {xs : List V} {ks : List (List Key)} (h : TKs H xs ks) (t : TP H H') : TKs H' xs ks := Paired.mapP h fun _ _ q => q.mono t
theorem lvs_mono {H H' : Hp} {xs : List V} {ls : List Lk} (h : LVs H xs ls) (t : TP H H') : LVs H' xs ls := Paired.mapP h fun _ _ q => q.mono t
section
variable {α β : Type} {R : α → β → Prop}
theorem pr_get : ∀ {xs : List α} {ys : List β} {i : Nat} {x : α}, Paired R xs ys → xs[i]? = some x → ∃ y, ys[i]? = some y ∧ R x y
  | _, _, _, _, .nil, e => by simp at e
  | _, _, 0, _, .cons r _, e => by simp at e; subst e; exact ⟨_, rfl, r⟩
  | _, _, i + 1, x, .cons _ t, e => by
    obtain ⟨u, h1, h2⟩ := pr_get (i := i) (x := x) t (by simpa using e)
    exact ⟨u, by simpa using h1, h2⟩
theorem pr_get2 : ∀ {xs : List α} {ys : List β} {i : Nat} {y : β}, Paired R xs ys → ys[i]? = some y → ∃ x, xs[i]? = some x ∧ R x y
  | _, _, _, _, .nil, e => by simp at e
  | _, _, 0, _, .cons r _, e => by simp at e; subst e; exact ⟨_, rfl, r⟩
  | _, _, i + 1, x, .cons _ t, e => by
    obtain ⟨u, h1, h2⟩ := pr_get2 (i := i) (y := x) t (by simpa using e)
    exact ⟨u, by simpa using h1, h2⟩
theorem pr_len : ∀ {xs : List α} {ys : List β}, Paired R xs ys → xs.length = ys.length
  | _, _, .nil => rfl
  | _, _, .cons _ t => congrArg Nat.succ (pr_len t)
theorem pr_app : ∀ {xs xs' : List α} {ys ys' : List β}, Paired R xs ys → Paired R xs' ys' → Paired R (xs ++ xs') (ys ++ ys')
  | _, _, _, _, .nil, q => q
  | _, _, _, _, .cons r t, q => .cons r (pr_app t q)
theorem pr_snoc {xs : List α} {ys : List β} {x : α} {y : β} (h : Paired R xs ys) (r : R x y) : Paired R (xs ++ [x]) (ys ++ [y]) := pr_app h (.cons r .nil)
theorem pr_set {x : α} {y : β} (r : R x y) : ∀ {xs : List α} {ys : List β} (i : Nat), Paired R xs ys → Paired R (xs.set i x) (ys.set i y)
  | _, _, _, .nil => .nil
  | _, _, 0, .cons _ t => .cons r t
  | _, _, i + 1, .cons q t => .cons q (pr_set r i t)
theorem pr_erase : ∀ {xs : List α} {ys : List β} (i : Nat), Paired R xs ys → Paired R (xs.eraseIdx i) (ys.eraseIdx i)
  | _, _, _, .nil => .nil
  | _, _, 0, .cons _ t => t
  | _, _, i + 1, .cons q t => .cons q (pr_erase i t)
theorem pr_drop : ∀ {xs : List α} {ys : List β} (i : Nat), Paired R xs ys → Paired R (xs.drop i) (ys.drop i)
  | _, _, 0, q => q
  | _, _, i + 1, .nil => .nil
  | _, _, i + 1, .cons q t => pr_drop i t
theorem pr_take : ∀ {xs : List α} {ys : List β} (i : Nat), Paired R xs ys → Paired R (xs.take i) (ys.take i)
  | _, _, 0, q => .nil
  | _, _, i + 1, .nil => .nil
  | _, _, i + 1, .cons q t => .cons q (pr_take i t)
/-- a perm of the one is told by a perm of the other -/
theorem pr_perm : ∀ {xs xs' : List α}, xs.Perm xs' → ∀ {ys : List β}, Paired R xs ys → ∃ ys', ys.Perm ys' ∧ Paired R xs' ys' := by
  intro xs xs' p
  induction p with
  | nil => intro ys h; cases h; exact ⟨[], .nil, .nil⟩
  | cons x _ ih =>
    intro ys h
    cases h with
    | cons r t =>
      obtain ⟨zs, p1, h1⟩ := ih t
      exact ⟨_, p1.cons _, .cons r h1⟩
  | swap x y l =>
    intro ys h
    cases h with
    | cons r t =>
      cases t with
      | cons r2 t2 => exact ⟨_, .swap _ _ _, .cons r2 (.cons r t2)⟩
  | trans _ _ i1 i2 =>
    intro ys h
    obtain ⟨zs, p1, h1⟩ := i1 h
    obtain ⟨us, p2, h2⟩ := i2 h1
    exact ⟨us, p1.trans p2, h2⟩
theorem pr_mem {xs : List α} {ys : List β} {x : α} (h : Paired R xs ys) (m : x ∈ xs) : ∃ y, y ∈ ys ∧ R x y := by
  obtain ⟨i, hi⟩ := List.mem_iff_getElem?.mp m
  obtain ⟨y, h1, h2⟩ := pr_get h hi
  exact ⟨y, List.mem_of_getElem? h1, h2⟩
theorem pr_mem2 {xs : List α} {ys : List β} {y : β} (h : Paired R xs ys) (m : y ∈ ys) : ∃ x, x ∈ xs ∧ R x y := by
  obtain ⟨i, hi⟩ := List.mem_iff_getElem?.mp m
  obtain ⟨x, h1, h2⟩ := pr_get2 h hi
  exact ⟨x, List.mem_of_getElem? h1, h2⟩
end
/-! ### as data -/
def keyD : Key → PyData
  | .inl i => .int i
  | .inr s => .str s
def kD (k : List Key) : PyData := .tuple (k.map keyD)
def lD (l : Lk) : PyData := .tuple [kD l.a, kD l.b, .int l.w, kD l.y]
theorem keyD_eqv (a b : Key) : PyData.eqv (keyD a) (keyD b) = decide (a = b) := by
  cases a with
  | inl i => cases b with
    | inl j => simp [keyD, PyData.eqv, Bool.beq_eq_decide_eq]
    | inr s => simp [keyD, PyData.eqv]
  | inr s => cases b with
    | inl j => simp [keyD, PyData.eqv]
    | inr s' => simp [keyD, PyData.eqv, Bool.beq_eq_decide_eq]
theorem keyDs_eqv : ∀ a b : List Key, PyData.eqvAll (a.map keyD) (b.map keyD) = decide (a = b)
  | [], [] => by simp [PyData.eqvAll]
  | [], _ :: _ => by simp [PyData.eqvAll]
  | _ :: _, [] => by simp [PyData.eqvAll]
  | a :: r, b :: s => by
    simp only [List.map_cons, PyData.eqvAll, keyD_eqv, keyDs_eqv r s]
    by_cases h : a = b <;> by_cases h2 : r = s <;> simp [h, h2]
theorem kD_eqv (a b : List Key) : PyData.eqv (kD a) (kD b) = decide (a = b) := by
  simp only [kD, PyData.eqv, keyDs_eqv]
theorem lD_eqv (l m : Lk) : PyData.eqv (lD l) (lD m) = decide (l = m) := by
  obtain ⟨a, b, w, y⟩ := l
  obtain ⟨a', b', w', y'⟩ := m
  have e : PyData.eqv (lD ⟨a, b, w, y⟩) (lD ⟨a', b', w', y'⟩) = (decide (a = a') && (decide (b = b') && ((w == w') && (decide (y = y') && true)))) := by
    simp only [lD, PyData.eqv, PyData.eqvAll]
    rw [← kD_eqv a, ← kD_eqv b, ← kD_eqv y]
  rw [e]
  by_cases h1 : a = a' <;> by_cases h2 : b = b' <;> by_cases h3 : w = w' <;> by_cases h4 : y = y' <;> simp [h1, h2, h3, h4]
theorem dp_key {K : PySem.W.Frag} {H : Hp} : ∀ k : Key, Dp K H (kV k) (keyD k)
  | .inl i => .int i
  | .inr s => .str s
theorem dp_keys {K : PySem.W.Frag} {H : Hp} : ∀ k : List Key, DpAll K H (k.map kV) (k.map keyD)
  | [] => .nil
  | a :: r => .cons (dp_key a) (dp_keys r)
theorem TK.dp {K : PySem.W.Frag} {H : Hp} {v : V} {k : List Key} (h : TK H v k) : Dp K H v (kD k) := by
  obtain ⟨p, rfl, q, _⟩ := h
  exact .tup (SqT.of q) (dp_keys k)
theorem TK.ok {H : Hp} {v : V} {k : List Key} (h : TK H v k) : kok k = true := by obtain ⟨_, _, _, o⟩ := h; exact o
def lok (l : Lk) : Bool := kok l.a && (kok l.b && kok l.y)
theorem LV.ok {H : Hp} {v : V} {l : Lk} (h : LV H v l) : lok l = true := by
  obtain ⟨p, x, y, z, rfl, q, h1, h2, h3⟩ := h
  unfold lok
  rw [h1.ok, h2.ok, h3.ok]
  rfl
theorem LV.dp {K : PySem.W.Frag} {H : Hp} {v : V} {l : Lk} (h : LV H v l) : Dp K H v (lD l) := by
  obtain ⟨p, x, y, z, rfl, q, h1, h2, h3⟩ := h
  exact .tup (SqT.of q) (.cons h1.dp (.cons h2.dp (.cons (.int _) (.cons h3.dp .nil))))
theorem dps_of {α : Type} {K : PySem.W.Frag} {H : Hp} {R : V → α → Prop} {f : α → PyData} (hf : ∀ v a, R v a → Dp K H v (f a)) : ∀ {xs : List V} {ys : List α}, Paired R xs ys → DpAll K H xs (ys.map f)
  | _, _, .nil => .nil
  | _, _, .cons r t => .cons (hf _ _ r) (dps_of hf t)
/-- a list (a tuple) of spots, of links, as data -/
theorem tks_dp {K : PySem.W.Frag} {H : Hp} {p : Addr} {xs : List V} {ks : List (List Key)} (h : SqL K H p xs) (r : TKs H xs ks) : Dp K H (.ref p) (.list (ks.map kD)) := .lst h (dps_of (fun _ _ q => q.dp) r)
theorem lvs_dp {K : PySem.W.Frag} {H : Hp} {p : Addr} {xs : List V} {ks : List Lk} (h : SqL K H p xs) (r : LVs H xs ks) : Dp K H (.ref p) (.list (ks.map lD)) := .lst h (dps_of (fun _ _ q => q.dp) r)
theorem lvs_dpT {K : PySem.W.Frag} {H : Hp} {p : Addr} {xs : List V} {ks : List Lk} (h : SqT K H p xs) (r : LVs H xs ks) : Dp K H (.ref p) (.tuple (ks.map lD)) := .tup h (dps_of (fun _ _ q => q.dp) r)
theorem keyD_lay {a : Key} (h : kok1 a = true) : (keyD a).canLay0 = true ∧ (keyD a).depth = 0 := by
  cases a with
  | inl i => simp [keyD, PyData.canLay0, PyData.depth]
  | inr s =>
    have h' : PyData.strOk s = true := h
    simp [keyD, PyData.canLay0, PyData.depth, h']
theorem keyDs_lay : ∀ k : List Key, kok k = true → PyData.canLayAll0 (k.map keyD) = true ∧ PyData.depthAll (k.map keyD) = 0
  | [], _ => by simp [PyData.canLayAll0, PyData.depthAll]
  | a :: r, h => by
    have h0 : (kok1 a && kok r) = true := h
    obtain ⟨ha, hr⟩ := Bool.and_eq_true_iff.mp h0
    obtain ⟨h1, h2⟩ := keyD_lay ha
    obtain ⟨h3, h4⟩ := keyDs_lay r hr
    simp [PyData.canLayAll0, PyData.depthAll, h1, h2, h3, h4]
theorem kD_lay {k : List Key} (h : kok k = true) : (kD k).canLay0 = true ∧ (kD k).depth = 1 := by
  obtain ⟨h3, h4⟩ := keyDs_lay k h
  simp [kD, PyData.canLay0, PyData.depth, h3, h4]
theorem lD_lay {l : Lk} (h : lok l = true) : (lD l).canLay0 = true ∧ (lD l).depth = 2 := by
  obtain ⟨h1, h23⟩ := Bool.and_eq_true_iff.mp h
  obtain ⟨h2, h3⟩ := Bool.and_eq_true_iff.mp h23
  obtain ⟨a1, a2⟩ := kD_lay h1
  obtain ⟨b1, b2⟩ := kD_lay h2
  obtain ⟨c1, c2⟩ := kD_lay h3
  simp [lD, PyData.canLay0, PyData.depth, PyData.canLayAll0, PyData.depthAll, a1, a2, b1, b2, c1, c2]
theorem all_lay {α : Type} {f : α → PyData} {n : Nat} : ∀ l : List α, (∀ a ∈ l, (f a).canLay0 = true ∧ (f a).depth = n) → PyData.canLayAll0 (l.map f) = true ∧ PyData.depthAll (l.map f) ≤ n
  | [], _ => by simp [PyData.canLayAll0, PyData.depthAll]
  | a :: r, h => by
    obtain ⟨h1, h2⟩ := h a List.mem_cons_self
    obtain ⟨h3, h4⟩ := all_lay r fun b hb => h b (List.mem_cons_of_mem _ hb)
    refine ⟨by simp [PyData.canLayAll0, h1, h3], ?_⟩
    simp only [List.map_cons, PyData.depthAll]
    omega
theorem shaped_of {d : PyData} (h1 : d.canLay0 = true) (h2 : d.depth ≤ 64) : SeqAt.shaped d = true := by
  show (d.canLay0 && decide (d.depth ≤ 64)) = true
  rw [Bool.and_eq_true]
  exact ⟨h1, decide_eq_true h2⟩
theorem TK.sh {H : Hp} {v : V} {k : List Key} (h : TK H v k) : SeqAt.shaped (kD k) = true := shaped_of (kD_lay h.ok).1 (by rw [(kD_lay h.ok).2]; decide)
theorem LV.sh {H : Hp} {v : V} {l : Lk} (h : LV H v l) : SeqAt.shaped (lD l) = true := shaped_of (lD_lay h.ok).1 (by rw [(lD_lay h.ok).2]; decide)
theorem listD_sh {α : Type} {f : α → PyData} {n : Nat} (l : List α) (h : ∀ a ∈ l, (f a).canLay0 = true ∧ (f a).depth = n) (hn : n ≤ 60) : SeqAt.shaped (.list (l.map f)) = true := by
  obtain ⟨h1, h2⟩ := all_lay l h
  refine shaped_of (by simp only [PyData.canLay0]; exact h1) ?_
  simp only [PyData.depth]
  omega
theorem tupD_sh {α : Type} {f : α → PyData} {n : Nat} (l : List α) (h : ∀ a ∈ l, (f a).canLay0 = true ∧ (f a).depth = n) (hn : n ≤ 60) : SeqAt.shaped (.tuple (l.map f)) = true := by
  obtain ⟨h1, h2⟩ := all_lay l h
  refine shaped_of (by simp only [PyData.canLay0]; exact h1) ?_
  simp only [PyData.depth]
  omega
theorem tks_sh {H : Hp} {xs : List V} {ks : List (List Key)} (r : TKs H xs ks) : SeqAt.shaped (.list (ks.map kD)) = true := listD_sh ks (fun a m => by
  obtain ⟨x, _, h⟩ := pr_mem2 r m
  exact kD_lay h.ok) (by decide)
theorem lvs_sh {H : Hp} {xs : List V} {ks : List Lk} (r : LVs H xs ks) : SeqAt.shaped (.list (ks.map lD)) = true := listD_sh ks (fun a m => by
  obtain ⟨x, _, h⟩ := pr_mem2 r m
  exact lD_lay h.ok) (by decide)
theorem lvs_shT {H : Hp} {xs : List V} {ks : List Lk} (r : LVs H xs ks) : SeqAt.shaped (.tuple (ks.map lD)) = true := tupD_sh ks (fun a m => by
  obtain ⟨x, _, h⟩ := pr_mem2 r m
  exact lD_lay h.ok) (by decide)
theorem hu64_of {A : Around} {k : Nat} (hr : Room k A) : A.units + 64 < cLine := hr.units
theorem hu65_of {A : Around} {k : Nat} (hr : Room k A) : A.units + 65 < cLine := by have := hr.un; omega
end Ell
namespace Ell
/-! ### walks -/
abbrev Arc := Nat × Nat × Int
/-- r leads from a to b -/
def Lw : List Arc → Nat → Nat → Prop
  | [], a, b => a = b
  | e :: r, a, b => e.1 = a ∧ Lw r e.2.1 b
def wsum : List Arc → Int
  | [] => 0
  | e :: r => e.2.2 + wsum r
abbrev starts (r : List Arc) : List Nat := r.map (·.1)
/-- a walk along arcs -/
structure Walk (as : List Arc) (r : List Arc) (a b : Nat) : Prop where
  m : ∀ e ∈ r, e ∈ as
  w : Lw r a b
theorem lw_app : ∀ {r s : List Arc} {a b : Nat}, Lw (r ++ s) a b ↔ ∃ c, Lw r a c ∧ Lw s c b
  | [], s, a, b => ⟨fun h => ⟨a, rfl, h⟩, fun ⟨c, h1, h2⟩ => by cases h1; exact h2⟩
  | e :: r, s, a, b => by
    constructor
    · rintro ⟨h1, h2⟩
      obtain ⟨c, h3, h4⟩ := lw_app.mp h2
      exact ⟨c, ⟨h1, h3⟩, h4⟩
    · rintro ⟨c, ⟨h1, h3⟩, h4⟩
      exact ⟨h1, lw_app.mpr ⟨c, h3, h4⟩⟩
theorem wsum_app : ∀ {r s : List Arc}, wsum (r ++ s) = wsum r + wsum s
  | [], s => by simp [wsum]
  | e :: r, s => by
    show e.2.2 + wsum (r ++ s) = e.2.2 + wsum r + wsum s
    rw [wsum_app (r := r)]
    omega
theorem Walk.nil {as : List Arc} {a : Nat} : Walk as [] a a := ⟨fun e h => (by cases h), rfl⟩
theorem Walk.app {as r s : List Arc} {a b c : Nat} (h : Walk as r a b) (g : Walk as s b c) : Walk as (r ++ s) a c :=
  ⟨fun e m => (List.mem_append.mp m).elim (h.m e) (g.m e), lw_app.mpr ⟨b, h.w, g.w⟩⟩
theorem Walk.one {as : List Arc} {e : Arc} (h : e ∈ as) : Walk as [e] e.1 e.2.1 := ⟨fun x m => (by cases List.mem_singleton.mp m; exact h), rfl, rfl⟩
theorem Walk.cons {as r : List Arc} {e : Arc} {b : Nat} (h : e ∈ as) (g : Walk as r e.2.1 b) : Walk as (e :: r) e.1 b := (Walk.one h).app g
/-- levels that keep all arcs -/
def Pot (as : List Arc) (p : Nat → Int) : Prop := ∀ e ∈ as, p e.2.1 ≤ p e.1 + e.2.2
theorem Pot.walk {as : List Arc} {p : Nat → Int} (h : Pot as p) : ∀ {r : List Arc} {a b : Nat}, Walk as r a b → p b ≤ p a + wsum r
  | [], a, b, w => by
    have e : a = b := w.w
    subst e
    simp [wsum]
  | e :: r, a, b, w => by
    obtain ⟨h1, h2⟩ := w.w
    have := h.walk (r := r) (a := e.2.1) (b := b) ⟨fun x m => w.m x (List.mem_cons_of_mem _ m), h2⟩
    have := h e (w.m e List.mem_cons_self)
    rw [h1] at this
    show p b ≤ p a + (e.2.2 + wsum r)
    omega
/-- a walk without a place twice, no longer -/
theorem Pot.simple {as : List Arc} {p : Nat → Int} (h : Pot as p) : ∀ {r : List Arc} {a b : Nat}, Walk as r a b → ∃ s, Walk as s a b ∧ (starts s).Nodup ∧ wsum s ≤ wsum r
  | [], a, b, w => ⟨[], w, List.nodup_nil, Int.le_refl _⟩
  | e :: r, a, b, w => by
    obtain ⟨h1, h2⟩ := w.w
    have he := w.m e List.mem_cons_self
    obtain ⟨s, w1, n1, l1⟩ := h.simple (r := r) (a := e.2.1) (b := b) ⟨fun x m => w.m x (List.mem_cons_of_mem _ m), h2⟩
    subst h1
    by_cases hm : e.1 ∈ starts s
    · obtain ⟨f, hf, ef⟩ := List.mem_map.mp hm
      obtain ⟨s1, s2, rfl⟩ := List.append_of_mem hf
      obtain ⟨c, q1, q2, q3⟩ := lw_app.mp w1.w
      have wt : Walk as (f :: s2) e.1 b := ⟨fun x m => w1.m x (List.mem_append_right _ m), ef, q3⟩
      have ws : Walk as (e :: s1) e.1 e.1 := Walk.cons he ⟨fun x m => w1.m x (List.mem_append_left _ m), by rw [← q2, ef] at q1; exact q1⟩
      have := h.walk ws
      refine ⟨f :: s2, wt, ?_, ?_⟩
      · have n2 := n1
        rw [starts, List.map_append] at n2
        exact (List.nodup_append.mp n2).2.1
      · rw [wsum_app] at l1
        have e1 : wsum (e :: s1) = e.2.2 + wsum s1 := rfl
        have e2 : wsum (e :: r) = e.2.2 + wsum r := rfl
        omega
    · refine ⟨e :: s, Walk.cons he w1, List.nodup_cons.mpr ⟨hm, n1⟩, ?_⟩
      show e.2.2 + wsum s ≤ e.2.2 + wsum r
      omega
/-! ### the closed table -/
abbrev Tb := Nat → Nat → Option Int
/-- y is no more than x (None: no bound) -/
def oLe (y x : Option Int) : Prop := ∀ i, x = some i → ∃ j, y = some j ∧ j ≤ i
theorem oLe.refl {x : Option Int} : oLe x x := fun i e => ⟨i, e, Int.le_refl _⟩
theorem oLe.trans {x y z : Option Int} (h : oLe z y) (g : oLe y x) : oLe z x := fun i e => by
  obtain ⟨j, e1, l1⟩ := g i e
  obtain ⟨k, e2, l2⟩ := h j e1
  exact ⟨k, e2, Int.le_trans l2 l1⟩
def setT (T : Tb) (a b : Nat) (x : Option Int) : Tb := fun i j => if i = a ∧ j = b then x else T i j
theorem setT_same {T : Tb} {a b : Nat} {x : Option Int} : setT T a b x a b = x := by unfold setT; rw [if_pos ⟨rfl, rfl⟩]
theorem setT_le {T : Tb} {a b : Nat} {x : Option Int} (h : oLe x (T a b)) (i j : Nat) : oLe (setT T a b x i j) (T i j) := by
  unfold setT
  split
  · rename_i e
    rw [e.1, e.2]
    exact h
  · exact oLe.refl
/-- each bound is that of a walk -/
def Snd (as : List Arc) (T : Tb) : Prop := ∀ a b z, T a b = some z → ∃ r, Walk as r a b ∧ wsum r = z
theorem Snd.set {as : List Arc} {T : Tb} {a b : Nat} {z : Int} (h : Snd as T) (r : List Arc) (w : Walk as r a b) (e : wsum r = z) : Snd as (setT T a b (some z)) := fun i j y q => by
  unfold setT at q
  split at q
  · rename_i c
    cases q
    rw [c.1, c.2]
    exact ⟨r, w, e⟩
  · exact h i j y q
theorem Snd.via {as : List Arc} {T : Tb} {a b m : Nat} {x y : Int} (h : Snd as T) (h1 : T a m = some x) (h2 : T m b = some y) : Snd as (setT T a b (some (x + y))) := by
  obtain ⟨r1, w1, e1⟩ := h a m x h1
  obtain ⟨r2, w2, e2⟩ := h m b y h2
  exact h.set (r1 ++ r2) (w1.app w2) (by rw [wsum_app, e1, e2])
/-- no bound is above a walk whose middle places are below m, each once -/
def Cmp (as : List Arc) (m : Nat) (T : Tb) : Prop := ∀ r a b, r ≠ [] → Walk as r a b → (starts r.tail).Nodup → (∀ v ∈ starts r.tail, v < m) → oLe (T a b) (some (wsum r))
/-- what the turns of the middle place m bring: all pairs for which R holds are through -/
structure Via (T0 T : Tb) (m : Nat) (R : Nat → Nat → Prop) : Prop where
  le : ∀ a b, oLe (T a b) (T0 a b)
  via : ∀ a b x y, R a b → T0 a m = some x → T0 m b = some y → oLe (T a b) (some (x + y))
theorem Via.start {T : Tb} {m : Nat} {R : Nat → Nat → Prop} (h : ∀ a b, ¬ R a b) : Via T T m R := ⟨fun _ _ => .refl, fun a b _ _ r => absurd r (h a b)⟩
theorem Via.set {T0 T : Tb} {m a b : Nat} {z : Option Int} {R R' : Nat → Nat → Prop} (h : Via T0 T m R) (hz : oLe z (T a b)) (hR : ∀ i j, R' i j → R i j ∨ (i = a ∧ j = b)) (hv : ∀ x y, T0 a m = some x → T0 m b = some y → oLe z (some (x + y))) :
    Via T0 (setT T a b z) m R' := by
  refine ⟨fun i j => (setT_le hz i j).trans (h.le i j), fun i j x y r h1 h2 => ?_⟩
  rcases hR i j r with r | ⟨rfl, rfl⟩
  · exact (setT_le hz i j).trans (h.via i j x y r h1 h2)
  · rw [setT_same]
    exact hv x y h1 h2
theorem Via.keep {T0 T : Tb} {m : Nat} {R R' : Nat → Nat → Prop} (h : Via T0 T m R) (hR : ∀ i j, R' i j → R i j ∨ ∀ x y, T0 i m = some x → T0 m j = some y → oLe (T i j) (some (x + y))) : Via T0 T m R' :=
  ⟨h.le, fun i j x y r h1 h2 => (hR i j r).elim (fun q => h.via i j x y q h1 h2) fun q => q x y h1 h2⟩
theorem Cmp.step {as : List Arc} {N m : Nat} {T0 T : Tb} (h : Cmp as m T0) (v : Via T0 T m fun a b => a < N ∧ b < N) (hN : ∀ e ∈ as, e.1 < N ∧ e.2.1 < N) : Cmp as (m + 1) T := by
  intro r a b hne w nd lt
  by_cases hm : m ∈ starts r.tail
  · match r, hne with
    | e :: t, _ =>
      obtain ⟨f, hf, ef⟩ := List.mem_map.mp hm
      have hf : f ∈ t := hf
      obtain ⟨t1, t2, et⟩ := List.append_of_mem hf
      subst et
      have nd' : (starts (t1 ++ f :: t2)).Nodup := nd
      rw [starts, List.map_append, List.map_cons] at nd'
      obtain ⟨n1, n2, n3⟩ := List.nodup_append.mp nd'
      obtain ⟨n4, n5⟩ := List.nodup_cons.mp n2
      obtain ⟨h1, h2⟩ := w.w
      obtain ⟨c, q1, q2, q3⟩ := lw_app.mp h2
      subst h1
      have ec : c = m := by rw [← q2, ef]
      subst ec
      have mem1 : ∀ x ∈ starts t1, x < c := fun x hx => by
        have h1 : x < c + 1 := lt x (List.mem_map.mpr (by obtain ⟨g, hg, eg⟩ := List.mem_map.mp hx; exact ⟨g, List.mem_append_left _ hg, eg⟩))
        have h2 : x ≠ c := n3 x hx c (by rw [ef]; exact List.mem_cons_self)
        omega
      have mem2 : ∀ x ∈ starts t2, x < c := fun x hx => by
        have h1 : x < c + 1 := lt x (List.mem_map.mpr (by obtain ⟨g, hg, eg⟩ := List.mem_map.mp hx; exact ⟨g, List.mem_append_right _ (List.mem_cons_of_mem _ hg), eg⟩))
        have h2 : x ≠ c := fun z => n4 (by rw [ef, ← z]; exact hx)
        omega
      have w1 : Walk as (e :: t1) e.1 c := ⟨fun x hx => w.m x (by
        rcases List.mem_cons.mp hx with z | z
        · rw [z]; exact List.mem_cons_self
        · exact List.mem_cons_of_mem _ (List.mem_append_left _ z)), rfl, q1⟩
      have w2 : Walk as (f :: t2) c b := ⟨fun x hx => w.m x (List.mem_cons_of_mem _ (List.mem_append_right _ hx)), ef, q3⟩
      obtain ⟨x, hx, lx⟩ := h (e :: t1) e.1 c (by simp) w1 n1 mem1 _ rfl
      obtain ⟨y, hy, ly⟩ := h (f :: t2) c b (by simp) w2 n5 mem2 _ rfl
      have ha : e.1 < N := (hN e (w.m e List.mem_cons_self)).1
      have hb : b < N := by
        have aux : ∀ (r : List Arc) (a b : Nat), r ≠ [] → Walk as r a b → b < N := by
          intro r
          induction r with
          | nil => intro a b h _; exact absurd rfl h
          | cons g s ih =>
            intro a b _ w
            obtain ⟨_, h2⟩ := w.w
            match s, ih with
            | [], _ =>
              have e2 : g.2.1 = b := h2
              rw [← e2]
              exact (hN g (w.m g List.mem_cons_self)).2
            | g' :: s', ih => exact ih _ b (by simp) ⟨fun x m => w.m x (List.mem_cons_of_mem _ m), h2⟩
        exact aux _ _ _ (by simp) w2
      refine (v.via e.1 b x y ⟨ha, hb⟩ hx hy).trans fun i ei => ⟨x + y, rfl, ?_⟩
      cases ei
      have e1 : wsum (e :: (t1 ++ f :: t2)) = wsum (e :: t1) + wsum (f :: t2) := wsum_app (r := e :: t1) (s := f :: t2)
      omega
  · refine (v.le a b).trans (h r a b hne w nd fun x hx => ?_)
    have h1 := lt x hx
    have h2 : x ≠ m := fun z => hm (by rw [← z]; exact hx)
    omega
/-- the table at the end -/
structure Tab (as : List Arc) (N : Nat) (T : Tb) : Prop where
  snd : Snd as T
  cmp : Cmp as N T
  dg : ∀ a, a < N → oLe (T a a) (some 0)
theorem Walk.lt {as r : List Arc} {a b N : Nat} (w : Walk as r a b) (hN : ∀ e ∈ as, e.1 < N ∧ e.2.1 < N) : ∀ v ∈ starts r, v < N := fun v hv => by
  obtain ⟨e, he, ee⟩ := List.mem_map.mp hv
  rw [← ee]
  exact (hN e (w.m e he)).1
theorem Tab.ring {as r : List Arc} {N a : Nat} {T : Tb} (h : Tab as N T) (hN : ∀ e ∈ as, e.1 < N ∧ e.2.1 < N) (w : Walk as r a a) (hr : r ≠ []) (nd : (starts r).Nodup) (neg : wsum r < 0) : a < N ∧ ∃ z, T a a = some z ∧ z < 0 := by
  have ha : a < N := by
    match r, hr, w with
    | e :: t, _, w =>
      have e1 : e.1 = a := w.w.1
      rw [← e1]
      exact (hN e (w.m e List.mem_cons_self)).1
  refine ⟨ha, ?_⟩
  have ndt : (starts r.tail).Nodup := by
    match r, hr with
    | e :: t, _ => exact (List.nodup_cons.mp nd).2
  obtain ⟨z, hz, lz⟩ := h.cmp r a a hr w ndt (fun v hv => w.lt hN v (by
    obtain ⟨e, he, ee⟩ := List.mem_map.mp hv
    exact List.mem_map.mpr ⟨e, List.mem_of_mem_tail he, ee⟩)) _ rfl
  exact ⟨z, hz, by omega⟩
theorem Tab.sound {as : List Arc} {N a : Nat} {T : Tb} {p : Nat → Int} (h : Tab as N T) (hp : Pot as p) {z : Int} (e : T a a = some z) : 0 ≤ z := by
  obtain ⟨r, w, rfl⟩ := h.snd a a z e
  have := hp.walk w
  omega
/-- the least bounds from s -/
structure Dist (as : List Arc) (N s : Nat) (d : Nat → Int) : Prop where
  pot : Pot as d
  s0 : d s = 0
  walk : ∀ v, v < N → ∃ r, Walk as r s v ∧ wsum r = d v
theorem Tab.dist {as : List Arc} {N s v : Nat} {T : Tb} {d : Nat → Int} (h : Tab as N T) (hN : ∀ e ∈ as, e.1 < N ∧ e.2.1 < N) (hd : Dist as N s d) (hs : s < N) (hv : v < N) : T s v = some (d v) := by
  obtain ⟨r, w, e⟩ := hd.walk v hv
  obtain ⟨q, wq, nq, lq⟩ := hd.pot.simple w
  have hz : ∃ z, T s v = some z ∧ z ≤ d v := by
    by_cases hq : q = []
    · subst hq
      have e1 : s = v := wq.w
      subst e1
      obtain ⟨z, hz, lz⟩ := h.dg s hs 0 rfl
      exact ⟨z, hz, by have := hd.s0; omega⟩
    · have ndt : (starts q.tail).Nodup := by
        match q, hq with
        | e :: t, _ => exact (List.nodup_cons.mp nq).2
      obtain ⟨z, hz, lz⟩ := h.cmp q s v hq wq ndt (fun u hu => wq.lt hN u (by
        obtain ⟨g, hg, eg⟩ := List.mem_map.mp hu
        exact List.mem_map.mpr ⟨g, List.mem_of_mem_tail hg, eg⟩)) _ rfl
      exact ⟨z, hz, by omega⟩
  obtain ⟨z, hz, lz⟩ := hz
  obtain ⟨r', w', e'⟩ := h.snd s v z hz
  have := hd.pot.walk w'
  have := hd.s0
  have : z = d v := by omega
  rw [hz, this]
end Ell
namespace Ell
/-! ### levels or a ring -/
def fset {α : Type} (f : Nat → α) (a : Nat) (x : α) : Nat → α := fun i => if i = a then x else f i
theorem fset_same {α : Type} {f : Nat → α} {a : Nat} {x : α} : fset f a x a = x := if_pos rfl
theorem fset_ne {α : Type} {f : Nat → α} {a i : Nat} {x : α} (h : i ≠ a) : fset f a x i = f i := if_neg h
structure BF (as : List Arc) (N t j : Nat) (lv bf : Nat → Int) (ch : Int) (k s : Nat → Nat) (ck : Nat) : Prop where
  pred : ∀ v, 1 ≤ k v → v < N ∧ ∃ (i : Nat) (e : Arc), as[i]? = some e ∧ bf v = (i : Int) ∧ e.2.1 = v ∧ k v ≤ k e.1 + 1 ∧ lv e.1 + e.2.2 ≤ lv v ∧ (s v < s e.1 → lv e.1 + e.2.2 < lv v)
  inj : ∀ u v, 1 ≤ k u → 1 ≤ k v → s u = s v → u = v
  cks : ∀ v, s v ≤ ck
  viol : ∀ i e, as[i]? = some e → lv e.2.1 ≤ lv e.1 + e.2.2 ∨ (if i < j then t else t - 1) ≤ k e.1
  kt : ∀ v, k v ≤ t
  chg : (ch = -1 ∧ ∀ i e, i < j → as[i]? = some e → lv e.2.1 ≤ lv e.1 + e.2.2) ∨ ∃ v : Nat, ch = (v : Int) ∧ v < N ∧ k v = t
theorem BF.zero {as : List Arc} {N : Nat} (h : 0 < N) : BF as N 0 as.length (fun _ => 0) (fun _ => -1) 0 (fun _ => 0) (fun _ => 0) 0 :=
  ⟨fun v h => absurd h (by decide), fun u v h => absurd h (by decide), fun v => Nat.le_refl _, fun i e _ => .inr (by split <;> exact Nat.zero_le _), fun v => Nat.le_refl _, .inr ⟨0, rfl, h, rfl⟩⟩
theorem BF.turn {as : List Arc} {N t : Nat} {lv bf : Nat → Int} {ch : Int} {k s : Nat → Nat} {ck : Nat} (h : BF as N t as.length lv bf ch k s ck) : BF as N (t + 1) 0 lv bf (-1) k s ck := by
  refine ⟨h.pred, h.inj, h.cks, fun i e he => ?_, fun v => Nat.le_succ_of_le (h.kt v), .inl ⟨rfl, fun i e hi => absurd hi (Nat.not_lt_zero _)⟩⟩
  rcases h.viol i e he with q | q
  · exact .inl q
  · rw [if_pos (List.getElem?_eq_some_iff.mp he).1] at q
    exact .inr q
theorem BF.idle {as : List Arc} {N t j : Nat} {lv bf : Nat → Int} {ch : Int} {k s : Nat → Nat} {ck : Nat} (h : BF as N t j lv bf ch k s ck) {e : Arc} (he : as[j]? = some e) (ok : ¬ lv e.1 + e.2.2 < lv e.2.1) : BF as N t (j + 1) lv bf ch k s ck := by
  refine ⟨h.pred, h.inj, h.cks, fun i g hg => ?_, h.kt, ?_⟩
  · by_cases hi : i = j
    · subst hi
      rw [he] at hg
      cases hg
      exact .inl (by omega)
    · rcases h.viol i g hg with q | q
      · exact .inl q
      · refine .inr ?_
        by_cases hj : i < j
        · rw [if_pos hj] at q
          rw [if_pos (by omega)]
          exact q
        · rw [if_neg hj] at q
          rw [if_neg (by omega)]
          exact q
  · rcases h.chg with ⟨q1, q2⟩ | q
    · refine .inl ⟨q1, fun i g hi hg => ?_⟩
      by_cases hi : i = j
      · subst hi
        rw [he] at hg
        cases hg
        omega
      · exact q2 i g (by omega) hg
    · exact .inr q
theorem BF.relax {as : List Arc} {N t j : Nat} {lv bf : Nat → Int} {ch : Int} {k s : Nat → Nat} {ck : Nat} (h : BF as N t j lv bf ch k s ck) {e : Arc} (he : as[j]? = some e) (hne : e.1 ≠ e.2.1) (hN : e.2.1 < N) (ht : 1 ≤ t) (ok : lv e.1 + e.2.2 < lv e.2.1) :
    BF as N t (j + 1) (fset lv e.2.1 (lv e.1 + e.2.2)) (fset bf e.2.1 (j : Int)) (e.2.1 : Int) (fset k e.2.1 t) (fset s e.2.1 (ck + 1)) (ck + 1) := by
  have hlv : ∀ v, fset lv e.2.1 (lv e.1 + e.2.2) v ≤ lv v := fun v => by
    unfold fset
    split
    · rename_i q
      rw [q]
      omega
    · exact Int.le_refl _
  have hk : ∀ v, k v ≤ fset k e.2.1 t v := fun v => by
    unfold fset
    split
    · exact h.kt v
    · exact Nat.le_refl _
  have vj : t - 1 ≤ k e.1 := by
    rcases h.viol j e he with q | q
    · omega
    · rw [if_neg (Nat.lt_irrefl _)] at q
      exact q
  refine ⟨fun v hv => ?_, fun u v hu hv q => ?_, fun v => ?_, fun i g hg => ?_, fun v => ?_, .inr ⟨_, rfl, hN, fset_same⟩⟩
  · by_cases hb : v = e.2.1
    · subst hb
      refine ⟨hN, j, e, he, fset_same, rfl, ?_, ?_, fun q => ?_⟩
      · rw [fset_same, fset_ne hne]
        omega
      · rw [fset_same, fset_ne hne]
        exact Int.le_refl _
      · rw [fset_same, fset_ne hne] at q
        have := h.cks e.1
        omega
    · rw [fset_ne hb] at hv
      obtain ⟨h1, i, g, h2, h3, h4, h5, h6, h7⟩ := h.pred v hv
      refine ⟨h1, i, g, h2, by rw [fset_ne hb]; exact h3, h4, ?_, ?_, fun q => ?_⟩
      · rw [fset_ne hb]
        have := hk g.1
        omega
      · rw [fset_ne hb]
        have := hlv g.1
        omega
      · rw [fset_ne hb] at q ⊢
        by_cases hg : g.1 = e.2.1
        · rw [hg, fset_same]
          rw [hg] at h6
          omega
        · rw [fset_ne hg] at q ⊢
          exact h7 q
  · by_cases h1 : u = e.2.1
    · by_cases h2 : v = e.2.1
      · rw [h1, h2]
      · exfalso
        rw [h1, fset_same, fset_ne h2] at q
        have := h.cks v
        omega
    · by_cases h2 : v = e.2.1
      · exfalso
        rw [h2, fset_same, fset_ne h1] at q
        have := h.cks u
        omega
      · rw [fset_ne h1] at hu q
        rw [fset_ne h2] at hv q
        exact h.inj u v hu hv q
  · unfold fset
    split
    · exact Nat.le_refl _
    · exact Nat.le_succ_of_le (h.cks v)
  · by_cases h1 : g.1 = e.2.1
    · refine .inr ?_
      rw [h1, fset_same]
      split <;> omega
    · by_cases hi : i = j
      · subst hi
        rw [he] at hg
        cases hg
        refine .inl ?_
        rw [fset_same, fset_ne hne]
        exact Int.le_refl _
      · rcases h.viol i g hg with q | q
        · refine .inl ?_
          rw [fset_ne h1]
          have := hlv g.2.1
          omega
        · refine .inr ?_
          rw [fset_ne h1]
          by_cases hj : i < j
          · rw [if_pos hj] at q
            rw [if_pos (by omega)]
            exact q
          · rw [if_neg hj] at q
            rw [if_neg (by omega)]
            exact q
  · unfold fset
    split
    · exact Nat.le_refl _
    · exact h.kt v
/-- no change in a whole turn -/
theorem BF.pot {as : List Arc} {N t : Nat} {lv bf : Nat → Int} {ch : Int} {k s : Nat → Nat} {ck : Nat} (h : BF as N t as.length lv bf ch k s ck) (hc : ch < 0) : Pot as lv := fun e he => by
  obtain ⟨i, hi⟩ := List.mem_iff_getElem?.mp he
  rcases h.chg with ⟨_, q⟩ | ⟨v, q, _⟩
  · exact q i e (List.getElem?_eq_some_iff.mp hi).1 hi
  · omega
def it (f : Nat → Nat) : Nat → Nat → Nat
  | 0, v => v
  | n + 1, v => f (it f n v)
theorem it_add (f : Nat → Nat) : ∀ m n v, it f (m + n) v = it f m (it f n v)
  | 0, n, v => by rw [Nat.zero_add]; rfl
  | m + 1, n, v => by
    rw [Nat.add_right_comm]
    show f (it f (m + n) v) = f (it f m (it f n v))
    rw [it_add f m n v]
theorem nd_snoc2 {α : Type} : ∀ {l : List α} {k : α}, l.Nodup → k ∉ l → (l ++ [k]).Nodup
  | [], k, _, _ => by simp
  | a :: r, k, h, hk => by
    obtain ⟨h1, h2⟩ := List.nodup_cons.mp h
    show (a :: (r ++ [k])).Nodup
    refine List.nodup_cons.mpr ⟨fun m => ?_, nd_snoc2 h2 fun m => hk (List.mem_cons.mpr (Or.inr m))⟩
    rcases List.mem_append.mp m with q | q
    · exact h1 q
    · exact hk (List.mem_cons.mpr (Or.inl (List.mem_singleton.mp q).symm))
theorem sub_len2 {α : Type} [DecidableEq α] : ∀ {l m : List α}, l.Nodup → (∀ x ∈ l, x ∈ m) → l.length ≤ m.length
  | [], _, _, _ => Nat.zero_le _
  | a :: r, m, h, hs => by
    obtain ⟨h1, h2⟩ := List.nodup_cons.mp h
    have ha : a ∈ m := hs a List.mem_cons_self
    have ih := sub_len2 (l := r) (m := m.erase a) h2 fun x hx => (List.mem_erase_of_ne (fun e => h1 (by rw [← e]; exact hx))).mpr (hs x (List.mem_cons_of_mem _ hx))
    rw [List.length_erase_of_mem ha] at ih
    have : 0 < m.length := List.length_pos_of_mem ha
    rw [List.length_cons]
    omega
/-- among N + 1 places below N two are alike -/
theorem pigeon2 {f : Nat → Nat} {N : Nat} (h : ∀ i, i ≤ N → f i < N) : ∃ i j, i < j ∧ j ≤ N ∧ f i = f j := by
  apply Classical.byContradiction
  intro hn
  have nd : ∀ n, n ≤ N + 1 → ((List.range n).map f).Nodup := by
    intro n
    induction n with
    | zero => intro _; exact List.nodup_nil
    | succ n ih =>
      intro hl
      rw [List.range_succ, List.map_append]
      refine nd_snoc2 (ih (by omega)) fun m => ?_
      obtain ⟨i, hi, e⟩ := List.mem_map.mp m
      have hi := List.mem_range.mp hi
      exact hn ⟨i, n, hi, by omega, e⟩
  have := sub_len2 (nd (N + 1) (Nat.le_refl _)) (m := List.range N) fun x hx => by
    obtain ⟨i, hi, e⟩ := List.mem_map.mp hx
    have hi := List.mem_range.mp hi
    rw [← e]
    exact List.mem_range.mpr (h i (by omega))
  rw [List.length_map, List.length_range, List.length_range] at this
  omega
/-- the places on the way back -/
structure Back (as : List Arc) (N : Nat) (bf : Nat → Int) (pr px : Nat → Nat) (pa : Nat → Arc) (p : Nat) (m : Nat) : Prop where
  at_ : ∀ i, it pr i p < N ∧ as[px (it pr i p)]? = some (pa (it pr i p)) ∧ bf (it pr i p) = (px (it pr i p) : Int) ∧ (pa (it pr i p)).2.1 = it pr i p ∧ (pa (it pr i p)).1 = it pr (i + 1) p
  m1 : 1 ≤ m
  mN : m ≤ N
  loop : it pr m p = p
  neg : ∀ c, 1 ≤ c → it pr c p = p → (∀ i, 1 ≤ i → i < c → it pr i p ≠ p) → wsum ((List.range c).map fun i => pa (it pr i p)).reverse < 0
theorem back_walk {as : List Arc} {N : Nat} {bf : Nat → Int} {pr px : Nat → Nat} {pa : Nat → Arc} {p m : Nat} (h : Back as N bf pr px pa p m) : ∀ c, Walk as ((List.range c).map fun i => pa (it pr i p)).reverse (it pr c p) p
  | 0 => Walk.nil
  | c + 1 => by
    obtain ⟨_, h2, _, h4, h5⟩ := h.at_ c
    rw [List.range_succ, List.map_append, List.reverse_append]
    show Walk as (pa (it pr c p) :: _) _ _
    have w : Walk as ((List.range c).map fun i => pa (it pr i p)).reverse (pa (it pr c p)).2.1 p := by rw [h4]; exact back_walk h c
    have := Walk.cons (List.mem_of_getElem? h2) w
    rw [h5] at this
    exact this
theorem back_nd {as : List Arc} {N : Nat} {bf : Nat → Int} {pr px : Nat → Nat} {pa : Nat → Arc} {p m c : Nat} (h : Back as N bf pr px pa p m) (hc : it pr c p = p) (hm : ∀ i, 1 ≤ i → i < c → it pr i p ≠ p) : (starts ((List.range c).map fun i => pa (it pr i p)).reverse).Nodup := by
  have mem : ∀ n x, x ∈ starts ((List.range n).map fun i => pa (it pr i p)).reverse → ∃ i, 1 ≤ i ∧ i ≤ n ∧ x = it pr i p := by
    intro n x hx
    obtain ⟨e, he, ee⟩ := List.mem_map.mp hx
    rw [List.mem_reverse] at he
    obtain ⟨i, hi, ei⟩ := List.mem_map.mp he
    have hi := List.mem_range.mp hi
    exact ⟨i + 1, by omega, by omega, by rw [← ee, ← ei]; exact (h.at_ i).2.2.2.2⟩
  have : ∀ n, n ≤ c → (starts ((List.range n).map fun i => pa (it pr i p)).reverse).Nodup := by
    intro n
    induction n with
    | zero => intro _; exact List.nodup_nil
    | succ n ih =>
      intro hn
      rw [List.range_succ, List.map_append, List.reverse_append]
      show (starts (pa (it pr n p) :: _)).Nodup
      refine List.nodup_cons.mpr ⟨fun q => ?_, ih (by omega)⟩
      obtain ⟨i, h1, h2, h3⟩ := mem n _ q
      have h3 : (pa (it pr n p)).1 = it pr i p := h3
      rw [(h.at_ n).2.2.2.2] at h3
      have e1 : it pr ((c - (n + 1)) + (n + 1)) p = p := by rw [show (c - (n + 1)) + (n + 1) = c by omega]; exact hc
      rw [it_add, h3, ← it_add] at e1
      exact hm _ (by omega) (by omega) e1
  exact this c (Nat.le_refl _)
theorem BF.back {as : List Arc} {N : Nat} {lv bf : Nat → Int} {ch : Int} {k s : Nat → Nat} {ck : Nat} (h : BF as N (N + 1) as.length lv bf ch k s ck) (hc : ¬ ch < 0) (hne : ∀ e ∈ as, e.1 ≠ e.2.1) :
    ∃ (v0 m : Nat) (pr px : Nat → Nat) (pa : Nat → Arc), ch = (v0 : Int) ∧ (∀ i, i ≤ N → it pr i v0 < N ∧ as[px (it pr i v0)]? = some (pa (it pr i v0)) ∧ bf (it pr i v0) = (px (it pr i v0) : Int) ∧ (pa (it pr i v0)).1 = it pr (i + 1) v0) ∧ Back as N bf pr px pa (it pr N v0) m := by
  obtain ⟨v0, rfl, hv0, kv0⟩ : ∃ v0 : Nat, ch = (v0 : Int) ∧ v0 < N ∧ k v0 = N + 1 := by
    rcases h.chg with ⟨q, _⟩ | q
    · omega
    · exact q
  have hp : ∀ v, ∃ q : Nat × Arc, 1 ≤ k v → as[q.1]? = some q.2 ∧ bf v = (q.1 : Int) ∧ q.2.2.1 = v ∧ k v ≤ k q.2.1 + 1 ∧ lv q.2.1 + q.2.2.2 ≤ lv v ∧ (s v < s q.2.1 → lv q.2.1 + q.2.2.2 < lv v) := fun v => by
    by_cases hk : 1 ≤ k v
    · obtain ⟨_, i, e, q⟩ := h.pred v hk
      exact ⟨(i, e), fun _ => q⟩
    · exact ⟨(0, 0, 0, 0), fun q => absurd q hk⟩
  obtain ⟨f, hf⟩ := Classical.axiomOfChoice hp
  -- the way back
  have kk : ∀ i, i ≤ N + 1 → N + 1 ≤ k (it (fun v => (f v).2.1) i v0) + i := by
    intro i
    induction i with
    | zero => intro _; exact Nat.le_of_eq kv0.symm
    | succ i ih =>
      intro hi
      have h1 := ih (by omega)
      have := (hf (it (fun v => (f v).2.1) i v0) (by omega)).2.2.2.1
      show N + 1 ≤ k (f (it (fun v => (f v).2.1) i v0)).2.1 + (i + 1)
      omega
  have k1 : ∀ i, i ≤ N → 1 ≤ k (it (fun v => (f v).2.1) i v0) := fun i hi => by have := kk i (by omega); omega
  have lt : ∀ i, i ≤ N → it (fun v => (f v).2.1) i v0 < N := fun i hi => (h.pred _ (k1 i hi)).1
  obtain ⟨i, j, hij, hj, eij⟩ := pigeon2 lt
  -- the turn is c long
  have per : ∀ n, i ≤ n → it (fun v => (f v).2.1) (n + (j - i)) v0 = it (fun v => (f v).2.1) n v0 := fun n hn => by
    have e1 : n + (j - i) = (n - i) + j := by omega
    rw [e1, it_add, ← eij, ← it_add]
    congr 1
    omega
  have all : ∀ n, ∃ q, q ≤ N ∧ it (fun v => (f v).2.1) n v0 = it (fun v => (f v).2.1) q v0 := by
    intro n
    induction n using Nat.strongRecOn with
    | ind n ih =>
      by_cases hn : n ≤ N
      · exact ⟨n, hn, rfl⟩
      · obtain ⟨q, q1, q2⟩ := ih (n - (j - i)) (by omega)
        refine ⟨q, q1, ?_⟩
        rw [← q2, ← per (n - (j - i)) (by omega)]
        congr 1
        omega
  have kp : ∀ n, 1 ≤ k (it (fun v => (f v).2.1) n (it (fun v => (f v).2.1) N v0)) := fun n => by
    rw [← it_add]
    obtain ⟨q, q1, q2⟩ := all (n + N)
    rw [q2]
    exact k1 q q1
  refine ⟨v0, j - i, fun v => (f v).2.1, fun v => (f v).1, fun v => (f v).2, rfl, fun n hn => ⟨lt n hn, (hf _ (k1 n hn)).1, (hf _ (k1 n hn)).2.1, rfl⟩, fun n => ⟨(h.pred _ (kp n)).1, (hf _ (kp n)).1, (hf _ (kp n)).2.1, (hf _ (kp n)).2.2.1, rfl⟩, by omega, by omega, ?_, fun c c1 hc _ => ?_⟩
  · rw [← it_add, Nat.add_comm]
    exact per N (by omega)
  · generalize hP : it (fun v => (f v).2.1) N v0 = p at kp hc ⊢
    have sum : ∀ n, wsum ((List.range n).map fun i => (f (it (fun v => (f v).2.1) i p)).2).reverse < lv p - lv (it (fun v => (f v).2.1) n p) ∨
        (wsum ((List.range n).map fun i => (f (it (fun v => (f v).2.1) i p)).2).reverse ≤ lv p - lv (it (fun v => (f v).2.1) n p) ∧ ∀ i, i < n → s (it (fun v => (f v).2.1) (i + 1) p) ≤ s (it (fun v => (f v).2.1) i p)) := by
      intro n
      induction n with
      | zero => exact .inr ⟨by simp [wsum, it], fun i hi => absurd hi (Nat.not_lt_zero _)⟩
      | succ n ih =>
        obtain ⟨_, _, h3, _, h5, h6⟩ := hf _ (kp n)
        rw [List.range_succ, List.map_append, List.reverse_append]
        have e1 : wsum ((List.map (fun i => (f (it (fun v => (f v).2.1) i p)).2) [n]).reverse ++ ((List.range n).map fun i => (f (it (fun v => (f v).2.1) i p)).2).reverse) = (f (it (fun v => (f v).2.1) n p)).2.2.2 + wsum ((List.range n).map fun i => (f (it (fun v => (f v).2.1) i p)).2).reverse := rfl
        rw [e1]
        have e2 : it (fun v => (f v).2.1) (n + 1) p = (f (it (fun v => (f v).2.1) n p)).2.1 := rfl
        rcases ih with q | ⟨q1, q2⟩
        · refine .inl ?_
          rw [e2]
          omega
        · by_cases hs : s (it (fun v => (f v).2.1) n p) < s (f (it (fun v => (f v).2.1) n p)).2.1
          · refine .inl ?_
            have := h6 hs
            rw [e2]
            omega
          · refine .inr ⟨by rw [e2]; omega, fun i hi => ?_⟩
            by_cases hin : i = n
            · subst hin
              rw [e2]
              omega
            · exact q2 i (by omega)
    rcases sum c with q | ⟨q1, q2⟩
    · rw [hc] at q
      omega
    · exfalso
      have mono : ∀ n, 1 ≤ n → n ≤ c → s (it (fun v => (f v).2.1) n p) ≤ s (it (fun v => (f v).2.1) 1 p) := by
        intro n
        induction n with
        | zero => intro h; omega
        | succ n ih =>
          intro _ hn
          by_cases h0 : n = 0
          · subst h0; exact Nat.le_refl _
          · exact Nat.le_trans (q2 n (by omega)) (ih (by omega) (by omega))
      have m1 := mono c c1 (Nat.le_refl _)
      rw [hc] at m1
      have m2 := q2 0 (by omega)
      have e0 : it (fun v => (f v).2.1) 0 p = p := rfl
      rw [e0] at m2
      have e1 := h.inj _ _ (kp 1) (kp 0) (show s (it (fun v => (f v).2.1) 1 p) = s (it (fun v => (f v).2.1) 0 p) by rw [e0]; exact Nat.le_antisymm m2 m1)
      rw [e0] at e1
      have hp0 := hf p (kp 0)
      have hne' := hne (f p).2 (List.mem_of_getElem? hp0.1)
      rw [hp0.2.2.1] at hne'
      exact hne' e1
end Ell
namespace Ell
/-! ### a heap in a list -/
/-- an order: neither below is an equivalence -/
structure Ord {α : Type} (lt : α → α → Bool) : Prop where
  as : ∀ a b, lt a b = true → lt b a = false
  tr : ∀ a b c, lt b a = false → lt c b = false → lt c a = false
section
variable {α : Type} {lt : α → α → Bool}
def Ok1 (lt : α → α → Bool) (l : List α) (i : Nat) : Prop := ∀ x p, l[i]? = some x → l[(i - 1) / 2]? = some p → lt x p = false
def HP (lt : α → α → Bool) (l : List α) : Prop := ∀ i, 1 ≤ i → Ok1 lt l i
def Gp (lt : α → α → Bool) (l : List α) (pos : Nat) : Prop := ∀ c x p, 1 ≤ pos → 1 ≤ c → (c - 1) / 2 = pos → l[c]? = some x → l[(pos - 1) / 2]? = some p → lt x p = false
def UpI (lt : α → α → Bool) (l : List α) (pos : Nat) : Prop := (∀ i, 1 ≤ i → i ≠ pos → Ok1 lt l i) ∧ Gp lt l pos
def DnI (lt : α → α → Bool) (l : List α) (pos : Nat) : Prop := (∀ i, 1 ≤ i → i ≠ pos → (i - 1) / 2 ≠ pos → Ok1 lt l i) ∧ Gp lt l pos
/-- the items at i and j change places -/
def swp (l : List α) (i j : Nat) (x y : α) : List α := (l.set i y).set j x
theorem swp_get {l : List α} {i j k : Nat} {x y : α} (hi : l[i]? = some x) (hj : l[j]? = some y) (ne : i ≠ j) : (swp l i j x y)[k]? = if k = j then some x else if k = i then some y else l[k]? := by
  have h1 := (List.getElem?_eq_some_iff.mp hi).1
  have h2 := (List.getElem?_eq_some_iff.mp hj).1
  unfold swp
  rw [List.getElem?_set, List.getElem?_set]
  by_cases e1 : k = j
  · subst e1
    rw [if_pos rfl, if_pos rfl, List.length_set, if_pos h2]
  · rw [if_neg (fun z => e1 z.symm), if_neg e1]
    by_cases e2 : k = i
    · subst e2
      rw [if_pos rfl, if_pos rfl, if_pos h1]
    · rw [if_neg (fun z => e2 z.symm), if_neg e2]
theorem swp_len {l : List α} {i j : Nat} {x y : α} : (swp l i j x y).length = l.length := by simp [swp]
theorem swp_mem {l : List α} {i j : Nat} {x y : α} (hi : l[i]? = some x) (hj : l[j]? = some y) (ne : i ≠ j) (z : α) : z ∈ swp l i j x y ↔ z ∈ l := by
  constructor
  · intro h
    obtain ⟨k, hk⟩ := List.mem_iff_getElem?.mp h
    rw [swp_get hi hj ne] at hk
    split at hk
    · cases hk; exact List.mem_of_getElem? hi
    · split at hk
      · cases hk; exact List.mem_of_getElem? hj
      · exact List.mem_of_getElem? hk
  · intro h
    obtain ⟨k, hk⟩ := List.mem_iff_getElem?.mp h
    by_cases e1 : k = i
    · subst e1
      rw [hi] at hk
      cases hk
      exact List.mem_iff_getElem?.mpr ⟨j, by rw [swp_get hi hj ne, if_pos rfl]⟩
    · by_cases e2 : k = j
      · subst e2
        rw [hj] at hk
        cases hk
        exact List.mem_iff_getElem?.mpr ⟨i, by rw [swp_get hi hj ne, if_neg ne, if_pos rfl]⟩
      · exact List.mem_iff_getElem?.mpr ⟨k, by rw [swp_get hi hj ne, if_neg e2, if_neg e1]; exact hk⟩
theorem UpI.step (O : Ord lt) {l : List α} {pos par : Nat} {x p : α} (h : UpI lt l pos) (h1 : 1 ≤ pos) (hp : par = (pos - 1) / 2) (hx : l[pos]? = some x) (hpp : l[par]? = some p) (hl : lt x p = true) : UpI lt (swp l par pos p x) par := by
  have ne : par ≠ pos := by omega
  have g : ∀ k, (swp l par pos p x)[k]? = if k = pos then some p else if k = par then some x else l[k]? := fun k => swp_get hpp hx ne
  refine ⟨fun i i1 ine y q hy hq => ?_, fun c y q p1 c1 hc hy hq => ?_⟩
  · rw [g] at hy hq
    by_cases e1 : i = pos
    · subst e1
      rw [if_pos rfl] at hy
      rw [← hp, if_neg ne, if_pos rfl] at hq
      cases hy
      cases hq
      exact O.as _ _ hl
    · rw [if_neg e1, if_neg ine] at hy
      by_cases e2 : (i - 1) / 2 = pos
      · rw [if_pos e2] at hq
        cases hq
        exact h.2 i y p h1 i1 e2 hy (by rw [← hp]; exact hpp)
      · rw [if_neg e2] at hq
        by_cases e3 : (i - 1) / 2 = par
        · rw [if_pos e3] at hq
          cases hq
          exact O.tr x p y (O.as _ _ hl) (h.1 i i1 e1 y p hy (by rw [e3]; exact hpp))
        · rw [if_neg e3] at hq
          exact h.1 i i1 e1 y q hy hq
  · rw [g] at hy hq
    have q1 : (par - 1) / 2 ≠ pos := by omega
    have q2 : (par - 1) / 2 ≠ par := by omega
    rw [if_neg q1, if_neg q2] at hq
    have op := h.1 par p1 ne p q hpp hq
    by_cases e1 : c = pos
    · rw [if_pos e1] at hy
      cases hy
      exact op
    · have e2 : c ≠ par := by omega
      rw [if_neg e1, if_neg e2] at hy
      exact O.tr q p y op (h.1 c c1 e1 y p hy (by rw [hc]; exact hpp))
theorem UpI.done {l : List α} {pos : Nat} (h : UpI lt l pos) (hx : 1 ≤ pos → Ok1 lt l pos) : HP lt l := fun i i1 => by
  by_cases e : i = pos
  · subst e
    exact hx i1
  · exact h.1 i i1 e
theorem DnI.step {l : List α} {pos c : Nat} {x y : α} (h : DnI lt l pos) (hc : c = 2 * pos + 1 ∨ c = 2 * pos + 2) (hx : l[pos]? = some x) (hy : l[c]? = some y) (hs : ∀ k z, (k = 2 * pos + 1 ∨ k = 2 * pos + 2) → k ≠ c → l[k]? = some z → lt z y = false) : DnI lt (swp l c pos y x) c := by
  have ne : c ≠ pos := by omega
  have g : ∀ k, (swp l c pos y x)[k]? = if k = pos then some y else if k = c then some x else l[k]? := fun k => swp_get hy hx ne
  have cp : (c - 1) / 2 = pos := by omega
  refine ⟨fun i i1 ine pne u q hu hq => ?_, fun k u q p1 k1 hk hu hq => ?_⟩
  · rw [g] at hu hq
    rw [if_neg pne] at hq
    by_cases e1 : i = pos
    · rw [if_pos e1] at hu
      cases hu
      subst e1
      rw [if_neg (by omega)] at hq
      exact h.2 c y q i1 (by omega) cp hy hq
    · rw [if_neg e1, if_neg ine] at hu
      by_cases e2 : (i - 1) / 2 = pos
      · rw [if_pos e2] at hq
        cases hq
        exact hs i u (by omega) ine hu
      · rw [if_neg e2] at hq
        exact h.1 i i1 e1 e2 u q hu hq
  · rw [g] at hu hq
    rw [if_neg (by omega), if_neg (by omega)] at hu
    rw [if_pos cp] at hq
    cases hq
    exact h.1 k k1 (by omega) (by omega) u y hu (by rw [hk]; exact hy)
theorem DnI.leaf {l : List α} {pos : Nat} (h : DnI lt l pos) (hl : l.length ≤ 2 * pos + 1) : UpI lt l pos := by
  refine ⟨fun i i1 ine x p hx hp => ?_, h.2⟩
  by_cases e : (i - 1) / 2 = pos
  · have := (List.getElem?_eq_some_iff.mp hx).1
    omega
  · exact h.1 i i1 ine e x p hx hp
theorem HP.push {l : List α} {x : α} (h : HP lt l) : UpI lt (l ++ [x]) l.length := by
  refine ⟨fun i i1 ine u p hu hp => ?_, fun c u p p1 c1 hc hu hp => ?_⟩
  · have hi : i < l.length := by
      have := (List.getElem?_eq_some_iff.mp hu).1
      rw [List.length_append, List.length_singleton] at this
      omega
    rw [List.getElem?_append_left hi] at hu
    rw [List.getElem?_append_left (by omega)] at hp
    exact h i i1 u p hu hp
  · have := (List.getElem?_eq_some_iff.mp hu).1
    rw [List.length_append, List.length_singleton] at this
    omega
theorem HP.pop {l : List α} {x : α} (h : HP lt l) : DnI lt (l.dropLast.set 0 x) 0 := by
  refine ⟨fun i i1 _ pne u p hu hp => ?_, fun c u p p1 => absurd p1 (by decide)⟩
  rw [List.getElem?_set, if_neg (by omega)] at hu
  rw [List.getElem?_set, if_neg (fun z => pne z.symm)] at hp
  have drop : ∀ (k : Nat) (z : α), l.dropLast[k]? = some z → l[k]? = some z := fun k z hz => by
    have hk := (List.getElem?_eq_some_iff.mp hz).1
    rw [List.length_dropLast] at hk
    rw [List.getElem?_dropLast, if_pos hk] at hz
    exact hz
  exact h i i1 u p (drop _ _ hu) (drop _ _ hp)
theorem HP.least (O : Ord lt) {l : List α} {m : α} (h : HP lt l) (hm : l[0]? = some m) : ∀ x ∈ l, lt x m = false := by
  have : ∀ (i : Nat) (x : α), l[i]? = some x → lt x m = false := by
    intro i
    induction i using Nat.strongRecOn with
    | ind i ih =>
      intro x hx
      by_cases h0 : i = 0
      · subst h0
        rw [hm] at hx
        cases hx
        cases e : lt m m with
        | false => rfl
        | true => exact (O.as _ _ e).symm.trans e |>.symm ▸ rfl
      · have hl := (List.getElem?_eq_some_iff.mp hx).1
        have hp : l[(i - 1) / 2]? = some l[(i - 1) / 2] := List.getElem?_eq_getElem (by omega)
        exact O.tr m _ x (ih _ (by omega) _ hp) (h i (by omega) x _ hx hp)
  intro x hx
  obtain ⟨i, hi⟩ := List.mem_iff_getElem?.mp hx
  exact this i x hi
end
/-! ### triples -/
abbrev T3 := Int × Int × Int
def lt3 (a b : T3) : Bool := if a.1 = b.1 then (if a.2.1 = b.2.1 then (if a.2.2 = b.2.2 then false else decide (a.2.2 < b.2.2)) else decide (a.2.1 < b.2.1)) else decide (a.1 < b.1)
theorem lt3_iff (a b : T3) : lt3 a b = true ↔ (a.1 < b.1 ∨ (a.1 = b.1 ∧ (a.2.1 < b.2.1 ∨ (a.2.1 = b.2.1 ∧ a.2.2 < b.2.2)))) := by
  unfold lt3
  split
  · split
    · split
      · simp; omega
      · simp; omega
    · simp; omega
  · simp; omega
theorem lt3_false (a b : T3) : lt3 a b = false ↔ ¬ (a.1 < b.1 ∨ (a.1 = b.1 ∧ (a.2.1 < b.2.1 ∨ (a.2.1 = b.2.1 ∧ a.2.2 < b.2.2)))) := by
  rw [← lt3_iff]
  cases lt3 a b <;> simp
theorem lt3_ord : Ord lt3 := ⟨fun a b h => by rw [lt3_iff] at h; rw [lt3_false]; omega, fun a b c h1 h2 => by rw [lt3_false] at h1 h2 ⊢; omega⟩
theorem lt3_fst {a b : T3} (h : lt3 a b = false) : b.1 ≤ a.1 := by rw [lt3_false] at h; omega
end Ell
namespace Ell
/-! ### least bounds, nearest first -/
structure DJ (as : List Arc) (N st : Nat) (p : Nat → Int) (bd : Nat → Option Int) (ts : List T3) (pend : List Arc) : Prop where
  ent : ∀ t ∈ ts, ∃ v : Nat, t.2.1 = (v : Int) ∧ v < N ∧ 0 ≤ t.1 ∧ ∃ r, Walk as r st v ∧ wsum r = t.1 + p v - p st
  set : ∀ v z, bd v = some z → v < N ∧ ∃ r, Walk as r st v ∧ wsum r = z
  clo : ∀ e ∈ as, e ∉ pend → ∀ z, bd e.1 = some z → (∀ y, bd e.2.1 = some y → y ≤ z + e.2.2) ∧ (bd e.2.1 = none → ∃ t ∈ ts, t.2.1 = (e.2.1 : Int) ∧ t.1 ≤ z + e.2.2 - p e.2.1 + p st)
  mon : ∀ v z, bd v = some z → ∀ t ∈ ts, z - p v + p st ≤ t.1
  beg : bd st = some 0 ∨ (bd st = none ∧ ∃ t ∈ ts, t.2.1 = (st : Int) ∧ t.1 ≤ 0)
theorem DJ.zero {as : List Arc} {N st : Nat} {p : Nat → Int} (hs : st < N) (n : Int) : DJ as N st p (fun _ => none) [(0, (st : Int), n)] [] := by
  refine ⟨fun t ht => ?_, (fun v z h => by cases h), (fun e _ _ z h => by cases h), (fun v z h => by cases h), .inr ⟨rfl, _, List.mem_cons_self, rfl, Int.le_refl _⟩⟩
  cases List.mem_singleton.mp ht
  exact ⟨st, rfl, hs, Int.le_refl _, [], .nil, by simp [wsum]⟩
section
variable {as : List Arc} {N st : Nat} {p : Nat → Int} {bd : Nat → Option Int} {ts ts' : List T3} {t : T3} {v : Nat}
/-- the place is settled already -/
theorem DJ.drop (h : DJ as N st p bd ts []) (hv : t.2.1 = (v : Int)) (hb : bd v ≠ none) (s1 : ∀ z ∈ ts', z ∈ ts) (s2 : ∀ z ∈ ts, z = t ∨ z ∈ ts') : DJ as N st p bd ts' [] := by
  refine ⟨fun z hz => h.ent z (s1 z hz), h.set, fun e he hp z hz => ⟨(h.clo e he hp z hz).1, fun hn => ?_⟩, fun u z hu x hx => h.mon u z hu x (s1 x hx), ?_⟩
  · obtain ⟨x, hx, e1, e2⟩ := (h.clo e he hp z hz).2 hn
    rcases s2 x hx with rfl | m
    · exfalso
      have : e.2.1 = v := by omega
      rw [this] at hn
      exact hb hn
    · exact ⟨x, m, e1, e2⟩
  · rcases h.beg with q | ⟨q, x, hx, e1, e2⟩
    · exact .inl q
    · rcases s2 x hx with rfl | m
      · exfalso
        have : st = v := by omega
        rw [this] at q
        exact hb q
      · exact .inr ⟨q, x, m, e1, e2⟩
/-- the place is settled now -/
theorem DJ.settle (h : DJ as N st p bd ts []) (ht : t ∈ ts) (hv : t.2.1 = (v : Int)) (hb : bd v = none) (le : ∀ z ∈ ts, t.1 ≤ z.1) (s1 : ∀ z ∈ ts', z ∈ ts) (s2 : ∀ z ∈ ts, z = t ∨ z ∈ ts') {pend : List Arc} (hp : ∀ e ∈ as, e.1 = v → e ∈ pend) :
    DJ as N st p (fset bd v (some (t.1 + p v - p st))) ts' pend ∧ ∀ u z, fset bd v (some (t.1 + p v - p st)) u = some z → z - p u + p st ≤ t.1 := by
  obtain ⟨v', e0, hvN, t0, r, w, hr⟩ := h.ent t ht
  have ev : v' = v := by omega
  subst ev
  have top : ∀ u z, fset bd v' (some (t.1 + p v' - p st)) u = some z → z - p u + p st ≤ t.1 := fun u z hz => by
    by_cases e : u = v'
    · subst e
      rw [fset_same] at hz
      cases hz
      omega
    · rw [fset_ne e] at hz
      exact h.mon u z hz t ht
  refine ⟨⟨fun z hz => h.ent z (s1 z hz), fun u z hz => ?_, fun e he hn z hz => ?_, fun u z hz x hx => ?_, ?_⟩, top⟩
  · by_cases e : u = v'
    · subst e
      rw [fset_same] at hz
      cases hz
      exact ⟨hvN, r, w, hr⟩
    · rw [fset_ne e] at hz
      exact h.set u z hz
  · have ne : e.1 ≠ v' := fun q => hn (hp e he q)
    rw [fset_ne ne] at hz
    obtain ⟨c1, c2⟩ := h.clo e he (fun q => by cases q) z hz
    by_cases e2 : e.2.1 = v'
    · obtain ⟨x, hx, q1, q2⟩ := c2 (by rw [e2]; exact hb)
      have := le x hx
      rw [e2, fset_same]
      refine ⟨fun y hy => ?_, fun q => by cases q⟩
      cases hy
      rw [e2] at q2
      omega
    · rw [fset_ne e2]
      refine ⟨c1, fun hn' => ?_⟩
      obtain ⟨x, hx, q1, q2⟩ := c2 hn'
      rcases s2 x hx with rfl | m
      · exact absurd (show e.2.1 = v' by omega) e2
      · exact ⟨x, m, q1, q2⟩
  · have := top u z hz
    have := le x (s1 x hx)
    omega
  · by_cases e : st = v'
    · subst e
      refine .inl ?_
      rw [fset_same]
      rcases h.beg with q | ⟨q, x, hx, e1, e2⟩
      · rw [hb] at q
        cases q
      · have := le x hx
        congr 1
        omega
    · rw [fset_ne e]
      rcases h.beg with q | ⟨q, x, hx, e1, e2⟩
      · exact .inl q
      · rcases s2 x hx with rfl | m
        · exact absurd (show st = v' by omega) e
        · exact .inr ⟨q, x, m, e1, e2⟩
/-- an arc to a place that is not settled -/
theorem DJ.push (hpot : Pot as p) {e : Arc} {pend : List Arc} {z n : Int} (h : DJ as N st p bd ts (e :: pend)) (he : e ∈ as) (hN : e.2.1 < N) (hz : bd e.1 = some z) (hb : bd e.2.1 = none) (hl : t.1 = z - p e.1 + p st) (top : ∀ u y, bd u = some y → y - p u + p st ≤ t.1) (t0 : 0 ≤ t.1)
    (mem : ∀ x, x ∈ ts' ↔ (x ∈ ts ∨ x = (t.1 + e.2.2 - p e.2.1 + p e.1, (e.2.1 : Int), n))) : DJ as N st p bd ts' pend := by
  have pe := hpot e he
  refine ⟨fun x hx => ?_, h.set, fun g hg hn y hy => ?_, fun u y hy x hx => ?_, ?_⟩
  · rcases (mem x).mp hx with m | rfl
    · exact h.ent x m
    · obtain ⟨_, r, w, hr⟩ := h.set _ _ hz
      refine ⟨e.2.1, rfl, hN, ?_, r ++ [e], w.app (Walk.one he), ?_⟩
      · show 0 ≤ t.1 + e.2.2 - p e.2.1 + p e.1
        omega
      · rw [wsum_app, hr]
        show z + (e.2.2 + 0) = t.1 + e.2.2 - p e.2.1 + p e.1 + p e.2.1 - p st
        omega
  · by_cases ge : g = e
    · subst ge
      rw [hz] at hy
      cases hy
      refine ⟨fun y' hy' => (by rw [hb] at hy'; cases hy'), fun _ => ⟨_, (mem _).mpr (.inr rfl), rfl, ?_⟩⟩
      show t.1 + g.2.2 - p g.2.1 + p g.1 ≤ _
      omega
    · obtain ⟨c1, c2⟩ := h.clo g hg (fun q => by
        rcases List.mem_cons.mp q with q | q
        · exact ge q
        · exact hn q) y hy
      refine ⟨c1, fun hb' => ?_⟩
      obtain ⟨x, hx, q⟩ := c2 hb'
      exact ⟨x, (mem x).mpr (.inl hx), q⟩
  · rcases (mem x).mp hx with m | rfl
    · exact h.mon u y hy x m
    · have := top u y hy
      show _ ≤ t.1 + e.2.2 - p e.2.1 + p e.1
      omega
  · rcases h.beg with q | ⟨q, x, hx, r⟩
    · exact .inl q
    · exact .inr ⟨q, x, (mem x).mpr (.inl hx), r⟩
/-- an arc to a place that is settled -/
theorem DJ.skip (hpot : Pot as p) {e : Arc} {pend : List Arc} {z y : Int} (h : DJ as N st p bd ts (e :: pend)) (he : e ∈ as) (hz : bd e.1 = some z) (hb : bd e.2.1 = some y) (hl : t.1 = z - p e.1 + p st) (top : ∀ u y, bd u = some y → y - p u + p st ≤ t.1) : DJ as N st p bd ts pend := by
  have pe := hpot e he
  have ty := top _ _ hb
  refine ⟨h.ent, h.set, fun g hg hn y' hy => ?_, h.mon, h.beg⟩
  by_cases ge : g = e
  · subst ge
    rw [hz] at hy
    cases hy
    refine ⟨fun y' hy' => ?_, fun q => by rw [hb] at q; cases q⟩
    rw [hb] at hy'
    cases hy'
    omega
  · exact h.clo g hg (fun q => by
      rcases List.mem_cons.mp q with q | q
      · exact ge q
      · exact hn q) y' hy
theorem DJ.reach (h : DJ as N st p bd [] []) : ∀ {r : List Arc} {a b : Nat}, Walk as r a b → bd a ≠ none → bd b ≠ none
  | [], a, b, w, ha => by
    have e : a = b := w.w
    subst e
    exact ha
  | e :: r, a, b, w, ha => by
    obtain ⟨h1, h2⟩ := w.w
    subst h1
    refine h.reach (r := r) (a := e.2.1) ⟨fun x m => w.m x (List.mem_cons_of_mem _ m), h2⟩ fun hn => ?_
    cases hz : bd e.1 with
    | none => exact ha hz
    | some z =>
      obtain ⟨x, hx, _⟩ := (h.clo e (w.m e List.mem_cons_self) (fun q => by cases q) z hz).2 hn
      cases hx
theorem DJ.dist (h : DJ as N st p bd [] []) (hN : ∀ e ∈ as, e.1 < N ∧ e.2.1 < N) (hr : ∀ v, v < N → ∃ r, Walk as r st v) : (∀ v, v < N → ∃ z, bd v = some z) ∧ Dist as N st (fun v => (bd v).getD 0) := by
  have h0 : bd st = some 0 := by
    rcases h.beg with q | ⟨_, x, hx, _⟩
    · exact q
    · cases hx
  have all : ∀ v, v < N → ∃ z, bd v = some z := fun v hv => by
    obtain ⟨r, w⟩ := hr v hv
    have := h.reach w (by rw [h0]; intro z; cases z)
    cases hz : bd v with
    | none => exact absurd hz this
    | some z => exact ⟨z, rfl⟩
  refine ⟨all, fun e he => ?_, by simp [h0], fun v hv => ?_⟩
  · obtain ⟨z, hz⟩ := all _ (hN e he).1
    obtain ⟨y, hy⟩ := all _ (hN e he).2
    have := (h.clo e he (fun q => by cases q) z hz).1 y hy
    simp [hz, hy, this]
  · obtain ⟨z, hz⟩ := all v hv
    obtain ⟨_, r, w, e⟩ := h.set v z hz
    exact ⟨r, w, by simp [hz, e]⟩
end
/-- how many are not settled -/
def cnt (bd : Nat → Option Int) : Nat → Nat
  | 0 => 0
  | n + 1 => cnt bd n + (if bd n = none then 1 else 0)
theorem cnt_other {bd : Nat → Option Int} {v : Nat} {x : Option Int} : ∀ n, n ≤ v → cnt (fset bd v x) n = cnt bd n
  | 0, _ => rfl
  | n + 1, h => by
    show cnt (fset bd v x) n + _ = cnt bd n + _
    rw [cnt_other n (by omega), fset_ne (by omega)]
theorem cnt_set {bd : Nat → Option Int} {v : Nat} {x : Int} (hb : bd v = none) : ∀ n, v < n → cnt (fset bd v (some x)) n + 1 = cnt bd n
  | 0, h => by omega
  | n + 1, h => by
    show cnt (fset bd v (some x)) n + _ + 1 = cnt bd n + _
    by_cases e : v = n
    · subst e
      rw [cnt_other v (Nat.le_refl _), fset_same, hb]
      simp
    · have := cnt_set (x := x) hb n (by omega)
      rw [fset_ne (fun z => e z.symm)]
      omega
theorem cnt_le {bd : Nat → Option Int} : ∀ n, cnt bd n ≤ n
  | 0 => Nat.le_refl _
  | n + 1 => by
    have := cnt_le (bd := bd) n
    show cnt bd n + _ ≤ n + 1
    split <;> omega
theorem walk_rev {as : List Arc} : ∀ {r : List Arc} {a b : Nat}, Walk as r a b → ∃ s, Walk (as.map fun e => ((e.2.1, e.1, e.2.2) : Arc)) s b a ∧ wsum s = wsum r
  | [], a, b, w => by
    have e : a = b := w.w
    subst e
    exact ⟨[], .nil, rfl⟩
  | e :: r, a, b, w => by
    obtain ⟨h1, h2⟩ := w.w
    subst h1
    obtain ⟨s, ws, es⟩ := walk_rev (r := r) (a := e.2.1) (b := b) ⟨fun x m => w.m x (List.mem_cons_of_mem _ m), h2⟩
    have he : ((e.2.1, e.1, e.2.2) : Arc) ∈ as.map fun e => ((e.2.1, e.1, e.2.2) : Arc) := List.mem_map.mpr ⟨e, w.m e List.mem_cons_self, rfl⟩
    refine ⟨s ++ [(e.2.1, e.1, e.2.2)], ws.app (Walk.one he), ?_⟩
    rw [wsum_app, es]
    show wsum r + (e.2.2 + 0) = e.2.2 + wsum r
    omega
theorem pot_rev {as : List Arc} {p : Nat → Int} (h : Pot as p) : Pot (as.map fun e => ((e.2.1, e.1, e.2.2) : Arc)) fun v => -p v := fun e he => by
  obtain ⟨g, hg, rfl⟩ := List.mem_map.mp he
  have := h g hg
  show -p g.1 ≤ -p g.2.1 + g.2.2
  omega
end Ell
set_option maxHeartbeats 4000000
namespace Ell
open PySem PySem.Spec PyProof.Rows L2
/-- a def of the text as it stands behind the top -/
abbrev Fd (K : PySem.W.Frag) (x qual : Str) (st : Stmt) (dvs : List V) (f : Addr) : Prop := ∃ fd : FuncData, FunD K x qual (defArgs st) (defBody st) (defScope st) dvs [] f fd
abbrev cWeb (K : PySem.W.Frag) : Addr := He.ga K "Web"
abbrev cWorld (K : PySem.W.Frag) : Addr := He.ga K "World"
/-- what the top has written -/
structure Tx (K : PySem.W.Frag) (mg : Str → Option Value) : Prop where
  b_abs : mg "abs" = none
  b_bool : mg "bool" = none
  b_enumerate : mg "enumerate" = none
  b_int : mg "int" = none
  b_isinstance : mg "isinstance" = none
  b_iter : mg "iter" = none
  b_len : mg "len" = none
  b_list : mg "list" = none
  b_min : mg "min" = none
  b_range : mg "range" = none
  b_str : mg "str" = none
  b_sum : mg "sum" = none
  b_tuple : mg "tuple" = none
  b_ValueError : mg "ValueError" = none
  b_super : mg "super" = none
  b_max : mg "max" = none
  g_heappop : mg "heappop" = some (.builtin "_heapq.heappop")
  g_heappush : mg "heappush" = some (.builtin "_heapq.heappush")
  g_gcd : mg "gcd" = some (.builtin "math.gcd")
  g_GROUND : mg "GROUND" = some (.ref (He.ga K "GROUND"))
  g_ZERO : mg "ZERO" = some (.ref (He.ga K "ZERO"))
  g_Web : mg "Web" = some (.ref (He.ga K "Web"))
  g_World : mg "World" = some (.ref (He.ga K "World"))
  g_EllError : mg "EllError" = some (.ref (He.ga K "EllError"))
  v_GROUND : ∀ H : Hp, SqT K H (He.ga K "GROUND") [.str "ground", .int 0, .int 0]
  v_ZERO : ∀ H : Hp, SqT K H (He.ga K "ZERO") [.int 0, .int 1]
  f_is_integer : Fd K "is_integer" "is_integer" s_is_integer [.non, .non] (He.ga K "is_integer")
  g_is_integer : mg "is_integer" = some (.ref (He.ga K "is_integer"))
  f_ratio : Fd K "ratio" "ratio" s_ratio [.int 1] (He.ga K "ratio")
  g_ratio : mg "ratio" = some (.ref (He.ga K "ratio"))
  f_is_ratio : Fd K "is_ratio" "is_ratio" s_is_ratio [] (He.ga K "is_ratio")
  g_is_ratio : mg "is_ratio" = some (.ref (He.ga K "is_ratio"))
  f_minus : Fd K "minus" "minus" s_minus [] (He.ga K "minus")
  g_minus : mg "minus" = some (.ref (He.ga K "minus"))
  f_compare : Fd K "compare" "compare" s_compare [] (He.ga K "compare")
  g_compare : mg "compare" = some (.ref (He.ga K "compare"))
  f_is_spot : Fd K "is_spot" "is_spot" s_is_spot [] (He.ga K "is_spot")
  g_is_spot : mg "is_spot" = some (.ref (He.ga K "is_spot"))
  f_table_of_pairs : Fd K "table_of_pairs" "table_of_pairs" s_table_of_pairs [] (He.ga K "table_of_pairs")
  g_table_of_pairs : mg "table_of_pairs" = some (.ref (He.ga K "table_of_pairs"))
  f_World_init : Fd K "__init__" "World.__init__" s_World_init [] (He.ma K (He.ga K "World") "__init__")
  k_World : Mk K (He.ga K "World") (He.ma K (He.ga K "World") "__init__")
  f_World_getitem : Fd K "__getitem__" "World.__getitem__" s_World_getitem [] (He.ma K (He.ga K "World") "__getitem__")
  m_World_getitem : Meth K (He.ga K "World") "__getitem__" (He.ma K (He.ga K "World") "__getitem__")
  f_World_iter : Fd K "__iter__" "World.__iter__" s_World_iter [] (He.ma K (He.ga K "World") "__iter__")
  m_World_iter : Meth K (He.ga K "World") "__iter__" (He.ma K (He.ga K "World") "__iter__")
  f_World_len : Fd K "__len__" "World.__len__" s_World_len [] (He.ma K (He.ga K "World") "__len__")
  m_World_len : Meth K (He.ga K "World") "__len__" (He.ma K (He.ga K "World") "__len__")
  f_World_contains : Fd K "__contains__" "World.__contains__" s_World_contains [] (He.ma K (He.ga K "World") "__contains__")
  m_World_contains : Meth K (He.ga K "World") "__contains__" (He.ma K (He.ga K "World") "__contains__")
  f_World_gap : Fd K "gap" "World.gap" s_World_gap [] (He.ma K (He.ga K "World") "gap")
  m_World_gap : Meth K (He.ga K "World") "gap" (He.ma K (He.ga K "World") "gap")
  f_World_keeps : Fd K "keeps" "World.keeps" s_World_keeps [] (He.ma K (He.ga K "World") "keeps")
  m_World_keeps : Meth K (He.ga K "World") "keeps" (He.ma K (He.ga K "World") "keeps")
  f_places_of : Fd K "places_of" "places_of" s_places_of [] (He.ga K "places_of")
  g_places_of : mg "places_of" = some (.ref (He.ga K "places_of"))
  f_check_links : Fd K "check_links" "check_links" s_check_links [] (He.ga K "check_links")
  g_check_links : mg "check_links" = some (.ref (He.ga K "check_links"))
  f_tied_to_ground : Fd K "tied_to_ground" "tied_to_ground" s_tied_to_ground [] (He.ga K "tied_to_ground")
  g_tied_to_ground : mg "tied_to_ground" = some (.ref (He.ga K "tied_to_ground"))
  f_check_loose : Fd K "check_loose" "check_loose" s_check_loose [] (He.ga K "check_loose")
  g_check_loose : mg "check_loose" = some (.ref (He.ga K "check_loose"))
  f_levels_or_ring : Fd K "levels_or_ring" "levels_or_ring" s_levels_or_ring [] (He.ga K "levels_or_ring")
  g_levels_or_ring : mg "levels_or_ring" = some (.ref (He.ga K "levels_or_ring"))
  f_nearest : Fd K "nearest" "nearest" s_nearest [] (He.ga K "nearest")
  g_nearest : mg "nearest" = some (.ref (He.ga K "nearest"))
  f_Web_init : Fd K "__init__" "Web.__init__" s_Web_init [.bl false] (He.ma K (He.ga K "Web") "__init__")
  k_Web : Mk K (He.ga K "Web") (He.ma K (He.ga K "Web") "__init__")
  f_Web_place_of : Fd K "place_of" "Web.place_of" s_Web_place_of [] (He.ma K (He.ga K "Web") "place_of")
  m_Web_place_of : Meth K (He.ga K "Web") "place_of" (He.ma K (He.ga K "Web") "place_of")
  f_Web_prepare : Fd K "prepare" "Web.prepare" s_Web_prepare [] (He.ma K (He.ga K "Web") "prepare")
  m_Web_prepare : Meth K (He.ga K "Web") "prepare" (He.ma K (He.ga K "Web") "prepare")
  f_Web_sound : Fd K "sound" "Web.sound" s_Web_sound [] (He.ma K (He.ga K "Web") "sound")
  m_Web_sound : Meth K (He.ga K "Web") "sound" (He.ma K (He.ga K "Web") "sound")
  f_Web_from_spot : Fd K "from_spot" "Web.from_spot" s_Web_from_spot [] (He.ma K (He.ga K "Web") "from_spot")
  m_Web_from_spot : Meth K (He.ga K "Web") "from_spot" (He.ma K (He.ga K "Web") "from_spot")
  f_Web_to_spot : Fd K "to_spot" "Web.to_spot" s_Web_to_spot [] (He.ma K (He.ga K "Web") "to_spot")
  m_Web_to_spot : Meth K (He.ga K "Web") "to_spot" (He.ma K (He.ga K "Web") "to_spot")
  f_Web_bound : Fd K "bound" "Web.bound" s_Web_bound [] (He.ma K (He.ga K "Web") "bound")
  m_Web_bound : Meth K (He.ga K "Web") "bound" (He.ma K (He.ga K "Web") "bound")
  f_Web_steps_to : Fd K "steps_to" "Web.steps_to" s_Web_steps_to [] (He.ma K (He.ga K "Web") "steps_to")
  m_Web_steps_to : Meth K (He.ga K "Web") "steps_to" (He.ma K (He.ga K "Web") "steps_to")
  f_Web_chain : Fd K "chain" "Web.chain" s_Web_chain [] (He.ma K (He.ga K "Web") "chain")
  m_Web_chain : Meth K (He.ga K "Web") "chain" (He.ma K (He.ga K "Web") "chain")
  f_Web_grown : Fd K "grown" "Web.grown" s_Web_grown [] (He.ma K (He.ga K "Web") "grown")
  m_Web_grown : Meth K (He.ga K "Web") "grown" (He.ma K (He.ga K "Web") "grown")
  f_Web_reaching : Fd K "reaching" "Web.reaching" s_Web_reaching [] (He.ma K (He.ga K "Web") "reaching")
  m_Web_reaching : Meth K (He.ga K "Web") "reaching" (He.ma K (He.ga K "Web") "reaching")
  f_Web_bad_ring : Fd K "bad_ring" "Web.bad_ring" s_Web_bad_ring [] (He.ma K (He.ga K "Web") "bad_ring")
  m_Web_bad_ring : Meth K (He.ga K "Web") "bad_ring" (He.ma K (He.ga K "Web") "bad_ring")
  f_Web_highest : Fd K "highest" "Web.highest" s_Web_highest [] (He.ma K (He.ga K "Web") "highest")
  m_Web_highest : Meth K (He.ga K "Web") "highest" (He.ma K (He.ga K "Web") "highest")
  f_Web_lowest : Fd K "lowest" "Web.lowest" s_Web_lowest [] (He.ma K (He.ga K "Web") "lowest")
  m_Web_lowest : Meth K (He.ga K "Web") "lowest" (He.ma K (He.ga K "Web") "lowest")
  f_Web_allows : Fd K "allows" "Web.allows" s_Web_allows [] (He.ma K (He.ga K "Web") "allows")
  m_Web_allows : Meth K (He.ga K "Web") "allows" (He.ma K (He.ga K "Web") "allows")
  f_Web_more : Fd K "more" "Web.more" s_Web_more [] (He.ma K (He.ga K "Web") "more")
  m_Web_more : Meth K (He.ga K "Web") "more" (He.ma K (He.ga K "Web") "more")
  f_Web_links_from : Fd K "links_from" "Web.links_from" s_Web_links_from [] (He.ma K (He.ga K "Web") "links_from")
  m_Web_links_from : Meth K (He.ga K "Web") "links_from" (He.ma K (He.ga K "Web") "links_from")
  f_follows : Fd K "follows" "follows" s_follows [] (He.ga K "follows")
  g_follows : mg "follows" = some (.ref (He.ga K "follows"))
  f_least_chain : Fd K "least_chain" "least_chain" s_least_chain [] (He.ga K "least_chain")
  g_least_chain : mg "least_chain" = some (.ref (He.ga K "least_chain"))
  f_slim : Fd K "slim" "slim" s_slim [] (He.ga K "slim")
  g_slim : mg "slim" = some (.ref (He.ga K "slim"))
  f_l_bag_of : Fd K "_law_bag_of" "_law_bag_of" s_l_bag_of [] (He.ga K "_law_bag_of")
  g_l_bag_of : mg "_law_bag_of" = some (.ref (He.ga K "_law_bag_of"))
  f_l_pick : Fd K "_law_pick" "_law_pick" s_l_pick [] (He.ga K "_law_pick")
  g_l_pick : mg "_law_pick" = some (.ref (He.ga K "_law_pick"))
  f_l_choice : Fd K "_law_choice" "_law_choice" s_l_choice [] (He.ga K "_law_choice")
  g_l_choice : mg "_law_choice" = some (.ref (He.ga K "_law_choice"))
  f_l_one_in : Fd K "_law_one_in" "_law_one_in" s_l_one_in [] (He.ga K "_law_one_in")
  g_l_one_in : mg "_law_one_in" = some (.ref (He.ga K "_law_one_in"))
  f_l_shuffled : Fd K "_law_shuffled" "_law_shuffled" s_l_shuffled [] (He.ga K "_law_shuffled")
  g_l_shuffled : mg "_law_shuffled" = some (.ref (He.ga K "_law_shuffled"))
  f_l_integer : Fd K "_law_integer" "_law_integer" s_l_integer [] (He.ga K "_law_integer")
  g_l_integer : mg "_law_integer" = some (.ref (He.ga K "_law_integer"))
  f_l_gcd : Fd K "_law_gcd" "_law_gcd" s_l_gcd [] (He.ga K "_law_gcd")
  g_l_gcd : mg "_law_gcd" = some (.ref (He.ga K "_law_gcd"))
  f_l_ratio : Fd K "_law_ratio" "_law_ratio" s_l_ratio [] (He.ga K "_law_ratio")
  g_l_ratio : mg "_law_ratio" = some (.ref (He.ga K "_law_ratio"))
  f_l_is_ratio : Fd K "_law_is_ratio" "_law_is_ratio" s_l_is_ratio [] (He.ga K "_law_is_ratio")
  g_l_is_ratio : mg "_law_is_ratio" = some (.ref (He.ga K "_law_is_ratio"))
  f_l_ground : Fd K "_law_ground" "_law_ground" s_l_ground [] (He.ga K "_law_ground")
  g_l_ground : mg "_law_ground" = some (.ref (He.ga K "_law_ground"))
  f_l_numbered : Fd K "_law_numbered" "_law_numbered" s_l_numbered [] (He.ga K "_law_numbered")
  g_l_numbered : mg "_law_numbered" = some (.ref (He.ga K "_law_numbered"))
  f_l_arcs : Fd K "_law_arcs" "_law_arcs" s_l_arcs [] (He.ga K "_law_arcs")
  g_l_arcs : mg "_law_arcs" = some (.ref (He.ga K "_law_arcs"))
  f_l_values_of : Fd K "_law_values_of" "_law_values_of" s_l_values_of [] (He.ga K "_law_values_of")
  g_l_values_of : mg "_law_values_of" = some (.ref (He.ga K "_law_values_of"))
  f_l_keeps : Fd K "_law_keeps" "_law_keeps" s_l_keeps [] (He.ga K "_law_keeps")
  g_l_keeps : mg "_law_keeps" = some (.ref (He.ga K "_law_keeps"))
  f_l_allowed : Fd K "_law_allowed" "_law_allowed" s_l_allowed [] (He.ga K "_law_allowed")
  g_l_allowed : mg "_law_allowed" = some (.ref (He.ga K "_law_allowed"))
  f_l_right_ring : Fd K "_law_right_ring" "_law_right_ring" s_l_right_ring [] (He.ga K "_law_right_ring")
  g_l_right_ring : mg "_law_right_ring" = some (.ref (He.ga K "_law_right_ring"))
  f_l_word_drawn : Fd K "_law_word_drawn" "_law_word_drawn" s_l_word_drawn [] (He.ga K "_law_word_drawn")
  g_l_word_drawn : mg "_law_word_drawn" = some (.ref (He.ga K "_law_word_drawn"))
  f_l_whole : Fd K "_law_whole" "_law_whole" s_l_whole [] (He.ga K "_law_whole")
  g_l_whole : mg "_law_whole" = some (.ref (He.ga K "_law_whole"))
  f_l_some_spots : Fd K "_law_some_spots" "_law_some_spots" s_l_some_spots [] (He.ga K "_law_some_spots")
  g_l_some_spots : mg "_law_some_spots" = some (.ref (He.ga K "_law_some_spots"))
  f_l_stranger : Fd K "_law_stranger" "_law_stranger" s_l_stranger [] (He.ga K "_law_stranger")
  g_l_stranger : mg "_law_stranger" = some (.ref (He.ga K "_law_stranger"))
  f_l_why : Fd K "_law_why" "_law_why" s_l_why [] (He.ga K "_law_why")
  g_l_why : mg "_law_why" = some (.ref (He.ga K "_law_why"))
  f_l_slack : Fd K "_law_slack" "_law_slack" s_l_slack [] (He.ga K "_law_slack")
  g_l_slack : mg "_law_slack" = some (.ref (He.ga K "_law_slack"))
  f_l_net : Fd K "_law_net" "_law_net" s_l_net [] (He.ga K "_law_net")
  g_l_net : mg "_law_net" = some (.ref (He.ga K "_law_net"))
  f_l_closed : Fd K "_law_closed" "_law_closed" s_l_closed [] (He.ga K "_law_closed")
  g_l_closed : mg "_law_closed" = some (.ref (He.ga K "_law_closed"))
  f_l_spot_like : Fd K "_law_spot_like" "_law_spot_like" s_l_spot_like [] (He.ga K "_law_spot_like")
  g_l_spot_like : mg "_law_spot_like" = some (.ref (He.ga K "_law_spot_like"))
  f_l_link_like : Fd K "_law_link_like" "_law_link_like" s_l_link_like [] (He.ga K "_law_link_like")
  g_l_link_like : mg "_law_link_like" = some (.ref (He.ga K "_law_link_like"))
  f_l_ring_holds : Fd K "_law_ring_holds" "_law_ring_holds" s_l_ring_holds [] (He.ga K "_law_ring_holds")
  g_l_ring_holds : mg "_law_ring_holds" = some (.ref (He.ga K "_law_ring_holds"))
  f_l_bent : Fd K "_law_bent" "_law_bent" s_l_bent [] (He.ga K "_law_bent")
  g_l_bent : mg "_law_bent" = some (.ref (He.ga K "_law_bent"))
  f_l_sound : Fd K "_law_sound" "_law_sound" s_l_sound [] (He.ga K "_law_sound")
  g_l_sound : mg "_law_sound" = some (.ref (He.ga K "_law_sound"))
  f_l_asked : Fd K "_law_asked" "_law_asked" s_l_asked [] (He.ga K "_law_asked")
  g_l_asked : mg "_law_asked" = some (.ref (He.ga K "_law_asked"))
  f_l_clashes_well : Fd K "_law_clashes_well" "_law_clashes_well" s_l_clashes_well [] (He.ga K "_law_clashes_well")
  g_l_clashes_well : mg "_law_clashes_well" = some (.ref (He.ga K "_law_clashes_well"))
  f_l_lacks_well : Fd K "_law_lacks_well" "_law_lacks_well" s_l_lacks_well [] (He.ga K "_law_lacks_well")
  g_l_lacks_well : mg "_law_lacks_well" = some (.ref (He.ga K "_law_lacks_well"))
  f_l_all_clash : Fd K "_law_all_clash" "_law_all_clash" s_l_all_clash [] (He.ga K "_law_all_clash")
  g_l_all_clash : mg "_law_all_clash" = some (.ref (He.ga K "_law_all_clash"))
  f_l_has_worlds : Fd K "_law_has_worlds" "_law_has_worlds" s_l_has_worlds [] (He.ga K "_law_has_worlds")
  g_l_has_worlds : mg "_law_has_worlds" = some (.ref (He.ga K "_law_has_worlds"))
  f_l_loosened_well : Fd K "_law_loosened_well" "_law_loosened_well" s_l_loosened_well [] (He.ga K "_law_loosened_well")
  g_l_loosened_well : mg "_law_loosened_well" = some (.ref (He.ga K "_law_loosened_well"))
  f_l_grown_well : Fd K "_law_grown_well" "_law_grown_well" s_l_grown_well [] (He.ga K "_law_grown_well")
  g_l_grown_well : mg "_law_grown_well" = some (.ref (He.ga K "_law_grown_well"))
  f_law : Fd K "law" "law" s_law [] (He.ga K "law")
  g_law : mg "law" = some (.ref (He.ga K "law"))
  c_Web : Cls K (He.ga K "Web")
  c_World : Cls K (He.ga K "World")
  n_spots : NoAttr K (He.ga K "Web") "spots"
  n_at : NoAttr K (He.ga K "Web") "at"
  n_links : NoAttr K (He.ga K "Web") "links"
  n_levels : NoAttr K (He.ga K "Web") "levels"
  n_broken : NoAttr K (He.ga K "Web") "broken"
  n_onward : NoAttr K (He.ga K "Web") "onward"
  n_backward : NoAttr K (He.ga K "Web") "backward"
  n_found : NoAttr K (He.ga K "Web") "found"
  n_table : NoAttr K (He.ga K "World") "table"
end Ell
set_option maxHeartbeats 4000000
namespace Ell
open PySem PySem.Spec PyProof.Rows L2
/-! ### the rules with the written part named -/
def rLn (K : PySem.W.Frag) : List V → Hp → VK → Prop := fun xs H Q => ∃ x n, xs = [x] ∧ LenV K x H n ∧ Q (.int (n : Nat)) H
def rListOf (K : PySem.W.Frag) : List V → Hp → VK → Prop := fun xs H Q => ∃ p ys, xs = [.ref p] ∧ (SqL K H p ys ∨ SqT K H p ys) ∧ ∀ l, H l = none → Q (.ref l) (upd H l (.lst ys))
def rTupOf (K : PySem.W.Frag) : List V → Hp → VK → Prop := fun xs H Q => ∃ p ys, xs = [.ref p] ∧ ((SqL K H p ys ∧ ∀ l, H l = none → Q (.ref l) (upd H l (.tup ys))) ∨ (SqT K H p ys ∧ Q (.ref p) H))
def tTr (K : PySem.W.Frag) (ta : TE) : TT := fun σ H Q => ta σ H fun x H' => ∃ k, TruV K x H' k ∧ Q k H'
def rJoin (K : PySem.W.Frag) : V → List V → Hp → VK → Prop := fun x xs H Q => ∃ a p, ∃ ys : List Str, x = .str a ∧ xs = [.ref p] ∧ (SqL K H p (ys.map V.str) ∨ SqT K H p (ys.map V.str)) ∧
  (ys.map (·.length)).sum + ys.length * a.length ≤ 16777216 ∧ Q (.str (Txt.join a ys)) H
section
variable {X : Cx} (K : PySem.W.Frag) {a b e o value : Expr} {es : List Expr} {f name : Str} {pos pos' apos cpos tpos p : Pos} {ta tb to tv : TE} {t : TA} {T id : String} {tg : Expr}
theorem fldK (he : PE X e ta) (hb : attributeBase e f X.env (eval e X.env) = eval e X.env := by rfl) (hK : X.K = K := by rfl) : PE X (.Attribute e f pos) (tFld K ta f) := by
  subst hK; exact pe_fld he hb
theorem psfldK (ha : PE X o ta) (hv : PE X value tv) (hs : swapsWith value (some (.Attribute o f pos')) pos.line X.env = pure false := by rfl) (hK : X.K = K := by rfl) : PS X (.Assign [.Attribute o f pos'] value pos) (sFld K ta tv f) := by
  subst hK; exact ps_fld ha hv hs
theorem ix_listK (hK : X.K = K := by rfl) : IxR X (rIxL K) := by subst hK; exact ix_list
theorem ix_tupK (hK : X.K = K := by rfl) : IxR X (rIxT K) := by subst hK; exact ix_tup
theorem ix_seqK (hK : X.K = K := by rfl) : IxR X (rIx K) := by subst hK; exact ix_seq
theorem call_lenK (hK : X.K = K := by rfl) : CallR X (.builtin "len") (rLn K) := by subst hK; exact call_len
theorem listofK (hK : X.K = K := by rfl) : CallR X (.type "list") (rListOf K) := by subst hK; exact call_list_of
theorem tupofK (hK : X.K = K := by rfl) : CallR X (.type "tuple") (rTupOf K) := by subst hK; exact call_tuple_of
theorem isiK (hK : X.K = K := by rfl) : CallR X (.builtin "isinstance") (rIsi K) := by subst hK; exact call_isi
theorem sumK (hc : X.calm = true) (hK : X.K = K := by rfl) : CallR X (.builtin "sum") (rSum K) := by subst hK; exact cr_sum hc
theorem bmK {r : V → List V → Hp → VK → Prop} (pa : PlainAttrs T) (slot : Slot T name id) (hty : typeOf (.builtin id) = pure (.type "method_descriptor")) (hm : MtR X id r) (ho : PE X o to) (ha : PA X (e :: es) t)
    (hbase : attributeBase o name X.env (eval o X.env) = eval o X.env := by rfl)
    (hfew : ((backTo cpos (starEach (e :: es) X.env)).all (fun x => !x.1) && (backToKw cpos (keywordEach [] X.env)).all (fun x => x.1.isSome)
      && decide ((e :: es).length + ([] : List Keyword).length + (if ([] : List Keyword).isEmpty then 0 else 1) < 30)) = true := by rfl)
    (hline : (apos.endLine == cpos.line) = true := by rfl) (hs : starEach (e :: es) X.env = (false, eval e X.env) :: starEach es X.env := by rfl) (hplain : (backTo cpos (starEach es X.env)).any (·.1) = false := by rfl) (hK : X.K = K := by rfl) :
    PE X (.Call (.Attribute o name apos) (e :: es) [] cpos) (tBM K T r to t) := by
  subst hK; exact pe_bm pa slot hty hm ho ha hbase hfew hline hs hplain
theorem bm0K {r : V → List V → Hp → VK → Prop} (pa : PlainAttrs T) (slot : Slot T name id) (hty : typeOf (.builtin id) = pure (.type "method_descriptor")) (hm : MtR X id r) (ho : PE X o to)
    (hbase : attributeBase o name X.env (eval o X.env) = eval o X.env := by rfl) (hline : (apos.endLine == cpos.line) = true := by rfl) (hK : X.K = K := by rfl) : PE X (.Call (.Attribute o name apos) [] [] cpos) (tBM0 K T r to) := by
  subst hK; exact pe_bm0 pa slot hty hm ho hbase hline
theorem pi_listK {l : Expr} {tl : TE} (hl : PE X l tl) (hK : X.K = K := by rfl) : PI X tg l (iList K tl) := by subst hK; exact pi_list hl
theorem pi_tupK {l : Expr} {tl : TE} (hl : PE X l tl) (hK : X.K = K := by rfl) : PI X tg l (iTup K tl) := by subst hK; exact pi_tup hl
theorem pi_enumK {elts : List Expr} {kk : Nat} (hg : Gl X "enumerate") (hm : X.mg "enumerate" = none) (ha : PA X [e] t) (hs : starEach [e] X.env = [(false, eval e X.env)] := by rfl) (hK : X.K = K := by rfl) :
    PI X (.Tuple elts kk tpos) (.Call (.Name "enumerate" p) [e] [] pos) (iEnum K t) := by subst hK; exact pi_enum hg hm ha hs
theorem pg_tupK {k : Nat} {tgs : TGs} {n : Nat} (hc : X.calm = true) (h : PGs X es tgs)
    (hn : (assignEach es X.env).length = n := by rfl) (hst : (assignEach es X.env).findIdx? (·.1) = none := by rfl) (hK : X.K = K := by rfl) : PG X (.Tuple es k pos) (gTup K n tgs) := by subst hK; exact pg_tup hc h hn hst
theorem truthK (ha : PE X a ta) (he : ∀ whole, isTrue a X.env whole = (do let v ← whole; standAt a.pos; holding [v] (truthy v))) (hK : X.K = K := by rfl) : PT X a (tTr K ta) := by subst hK; exact pt_truth ha he
theorem eqDK (hu : X.A.units + 64 < cLine) (hK : X.K = K := by rfl) : OpR X (compareOp .Eq) (rEqD K) := by subst hK; exact op_eqD hu
theorem neDK (hu : X.A.units + 64 < cLine) (hK : X.K = K := by rfl) : OpR X (compareOp .NotEq) (rNeD K) := by subst hK; exact op_neD hu
theorem inDK (hu : X.A.units + 65 < cLine) (hK : X.K = K := by rfl) : OpR X (compareOp .In) (rInD K) := by subst hK; exact op_inD hu
theorem notInDK (hu : X.A.units + 65 < cLine) (hK : X.K = K := by rfl) : OpR X (compareOp .NotIn) (rNotInD K) := by subst hK; exact op_notInD hu
theorem indexDK (hu : X.A.units + 65 < cLine) (hK : X.K = K := by rfl) : MtR X "list.index" (rIndexD K) := by subst hK; exact mt_indexD hu
theorem sl_listK (hK : X.K = K := by rfl) : SlR X (rSlL K) := by subst hK; exact sl_list
theorem catAK (hK : X.K = K := by rfl) : OpR X (binaryOp .Add) (rCatA K) := by subst hK; exact op_catA
theorem mt_joinK (hK : X.K = K := by rfl) : MtR X "str.join" (rJoin K) := by subst hK; exact mt_join
theorem joinK (ho : PE X o to) (he : PE X e ta) (hs : starEach [e] X.env = [(false, eval e X.env)] := by rfl) (hbase : attributeBase o "join" X.env (eval o X.env) = eval o X.env := by rfl) (hline : (apos.endLine == pos.line) = true := by rfl) (hK : X.K = K := by rfl) :
    PE X (.Call (.Attribute o "join" apos) [e] [] pos) (tM1 (rJoin K) to ta) := pe_m1 F.slot_str_join F.type_str_join (mt_joinK K hK) ho he hs hbase hline
/-- comparisons, named -/
def rLt : R2 := rI0 fun i j => .bl (decide (i < j))
def rLe : R2 := rI0 fun i j => .bl (decide (i ≤ j))
def rGtI : R2 := rI0 fun i j => .bl (decide (j < i))
def rGeI : R2 := rI0 fun i j => .bl (decide (j ≤ i))
end
end Ell
set_option maxHeartbeats 4000000
namespace Ell
open PySem PySem.Spec PyProof.Rows L2
/-! ### the bag -/
def bagK (c : Addr) (t r m k : Int) : List (Key × V) := [(.inr "cells", .ref c), (.inr "at", .int t), (.inr "rest", .int r), (.inr "mixed", .int m), (.inr "count", .int k)]
section
variable {c : Addr} {t r m k z : Int}
theorem bag_cells : valV (bagK c t r m k) (Sum.inr "cells" : Key) = some (.ref c) := by kernel_rfl
theorem bag_at : valV (bagK c t r m k) (Sum.inr "at" : Key) = some (.int t) := by kernel_rfl
theorem bag_rest : valV (bagK c t r m k) (Sum.inr "rest" : Key) = some (.int r) := by kernel_rfl
theorem bag_mixed : valV (bagK c t r m k) (Sum.inr "mixed" : Key) = some (.int m) := by kernel_rfl
theorem bag_count : valV (bagK c t r m k) (Sum.inr "count" : Key) = some (.int k) := by kernel_rfl
theorem put_at : putK (bagK c t r m k) (Sum.inr "at" : Key) (.int z) = bagK c z r m k := by kernel_rfl
theorem put_rest : putK (bagK c t r m k) (Sum.inr "rest" : Key) (.int z) = bagK c t z m k := by kernel_rfl
theorem put_mixed : putK (bagK c t r m k) (Sum.inr "mixed" : Key) (.int z) = bagK c t r z k := by kernel_rfl
theorem put_count : putK (bagK c t r m k) (Sum.inr "count" : Key) (.int z) = bagK c t r m z := by kernel_rfl
end
/-- the law's bag at b -/
def Bag (H : Hp) (b c : Addr) : Prop := ∃ (ns : List Int) (t r m k : Int), H b = some (.dK (bagK c t r m k)) ∧ H c = some (.lst (ns.map V.int)) ∧ 0 ≤ t
theorem b5 : (5 : Nat) < sizeLine := by decide
section
variable {H : Hp} {b c : Addr} {t r m k : Int} {kvs : List (Key × V)}
/-- the reads and stores of the bag, whatever heap it stands in -/
theorem get_cells (h : H b = some (.dK (bagK c t r m k))) : DGet H b (.str "cells") (some (.ref c)) := by have := DGet.k (k := Sum.inr "cells") h; rw [bag_cells] at this; exact this
theorem get_at (h : H b = some (.dK (bagK c t r m k))) : DGet H b (.str "at") (some (.int t)) := by have := DGet.k (k := Sum.inr "at") h; rw [bag_at] at this; exact this
theorem get_rest (h : H b = some (.dK (bagK c t r m k))) : DGet H b (.str "rest") (some (.int r)) := by have := DGet.k (k := Sum.inr "rest") h; rw [bag_rest] at this; exact this
theorem get_mixed (h : H b = some (.dK (bagK c t r m k))) : DGet H b (.str "mixed") (some (.int m)) := by have := DGet.k (k := Sum.inr "mixed") h; rw [bag_mixed] at this; exact this
theorem get_count (h : H b = some (.dK (bagK c t r m k))) : DGet H b (.str "count") (some (.int k)) := by have := DGet.k (k := Sum.inr "count") h; rw [bag_count] at this; exact this
theorem bag_len : (bagK c t r m k).length < sizeLine := b5
theorem set_at {z : Int} (h : H b = some (.dK (bagK c t r m k))) : DPut H b (.str "at") (.int z) (upd H b (.dK (bagK c z r m k))) := by have := DPut.k (k := Sum.inr "at") (v := .int z) h bag_len; rw [put_at] at this; exact this
theorem set_rest {z : Int} (h : H b = some (.dK (bagK c t r m k))) : DPut H b (.str "rest") (.int z) (upd H b (.dK (bagK c t z m k))) := by have := DPut.k (k := Sum.inr "rest") (v := .int z) h bag_len; rw [put_rest] at this; exact this
theorem set_mixed {z : Int} (h : H b = some (.dK (bagK c t r m k))) : DPut H b (.str "mixed") (.int z) (upd H b (.dK (bagK c t r z k))) := by have := DPut.k (k := Sum.inr "mixed") (v := .int z) h bag_len; rw [put_mixed] at this; exact this
theorem set_count {z : Int} (h : H b = some (.dK (bagK c t r m k))) : DPut H b (.str "count") (.int z) (upd H b (.dK (bagK c t r m z))) := by have := DPut.k (k := Sum.inr "count") (v := .int z) h bag_len; rw [put_count] at this; exact this
end
/-- a drawn number: below many, all but the bag as it was -/
def spPick : Sp := fun vs H Q _ => ∃ (b c : Addr) (n : Int), vs = [.ref b, .int n] ∧ Bag H b c ∧ 1 ≤ n ∧ n ≤ 100000000 ∧ ∀ (r : Int) (H' : Hp), 0 ≤ r → r < n → FB H H' → Bag H' b c → Q (.int r) H'
section
variable {P : Program} {w : World} {K : PySem.W.Frag} {mg : Str → Option Value} {base : Heap}
theorem ok_pick (T : Tx K mg) : Cal P w K mg base CX0 1 "_law_pick" ["_law_bag", "_law_many"] [] spPick := by
  obtain ⟨fd, F⟩ := T.f_l_pick
  refine ⟨_, fd, [], F.ok sc_l_pick (fun vs H Q E h => ?_) (fun cdv A outer s H vs Q E hr h => ?_), T.g_l_pick, F.kp, F.bindsN fun _ _ _ _ _ _ us hl => match us, hl with | [_, _], _ => rfl, .nil⟩
  · obtain ⟨b, c, n, rfl, _⟩ := h
    rfl
  obtain ⟨b, c, n, rfl, ⟨ns, t, r, m, k, hb, hc, ht⟩, n1, n2, kk⟩ := h
  have hu := hu_of hr
  have ncb : c ≠ b := ne_of hc hb (by intro z; cases z)
  have hcz : ∀ o, (upd H b o) c = some (.lst (ns.map V.int)) := fun o => by rw [upd_ne ncb]; exact hc
  have fin : ∀ (z t' r' m' k' : Int), 0 ≤ z → z < n → 0 ≤ t' → Q (.int z) (upd H b (.dK (bagK c t' r' m' k'))) := fun z t' r' m' k' z0 z1 t0 =>
    kk z _ z0 z1 (Pres.put hb (fun q => q)) ⟨ns, t', r', m', k', upd_same, hcz _, t0⟩
  have n0 : (0 : Int) < n := by omega
  have cd : ∀ x : Int, CDiv x n := fun x => ⟨n0, by omega⟩
  have e0 : ∀ x : Int, 0 ≤ x % n := fun x => Int.emod_nonneg x (by omega)
  have e1 : ∀ x : Int, x % n < n := fun x => Int.emod_lt_of_pos x n0
  refine ⟨_, PSs.nox ((pss_cons (ps_dput hu (pv 0) pe_str (pe_op op_add (pe_dget hu (pv 0) pe_str (fun _ _ => rfl)) pe_int) rfl)
        (pss_cons (ps_if (pt_cmpR op_gt (pe_dget hu (pv 0) pe_str (fun _ _ => rfl)) pe_int (nomark _)) (pss_cons (ps_set (i := 2) sc_l_pick.nd rfl (Or.inl rfl) (pe_dget hu (pv 0) pe_str (fun _ _ => rfl)))
          (pss_cons (ps_dput hu (pv 0) pe_str (pe_op op_fdiv (pv 2) (pv 1)) rfl)
          (pss_one (ps_ret (pe_op op_mod (pe_callTy call_int1 (by rfl) T.b_int (by decide +kernel) (pa_cons (pv 2) pa_nil)) (pv 1)))))) pss_nil)
        (pss_cons (ps_set (i := 3) sc_l_pick.nd rfl (Or.inl rfl) pe_int)
        (Evl.pss_cut (ps_if (pt_cmpR op_lt (pe_dget hu (pv 0) pe_str (fun _ _ => rfl)) (pe_callB (call_lenK K) (by rfl) T.b_len PySem.boot_len (pa_cons (pe_dget hu (pv 0) pe_str (fun _ _ => rfl)) pa_nil)) (nomark _)) (pss_cons (ps_set (i := 3) sc_l_pick.nd rfl (Or.inl rfl) (pe_ix (ix_listK K) (pe_dget hu (pv 0) pe_str (fun _ _ => rfl)) (pe_dget hu (pv 0) pe_str (fun _ _ => rfl)) (fun _ _ => rfl)))
          (pss_cons (ps_dput hu (pv 0) pe_str (pe_op op_add (pe_dget hu (pv 0) pe_str (fun _ _ => rfl)) pe_int) rfl)
          (pss_one (ps_if (pt_cmpR op_ge (pv 3) (pe_op op_pow pe_int pe_int) (nomark _)) (pss_cons (ps_dput hu (pv 0) pe_str (pe_op op_fdiv (pv 3) (pv 1)) rfl)
            (pss_one (ps_ret (pe_op op_mod (pe_callTy call_int1 (by rfl) T.b_int (by decide +kernel) (pa_cons (pv 3) pa_nil)) (pv 1))))) pss_nil)))) pss_nil)
        (pss_cons (ps_set (i := 2) sc_l_pick.nd rfl (Or.inl rfl) (pe_op op_mod (pe_callTy call_int1 (by rfl) T.b_int (by decide +kernel) (pa_cons (pe_op op_add (pe_op op_add (pe_op op_mul (pv 3) pe_int) (pe_op op_mul (pe_dget hu (pv 0) pe_str (fun _ _ => rfl)) pe_int)) (pe_op op_mul (pe_dget hu (pv 0) pe_str (fun _ _ => rfl)) pe_int)) pa_nil)) pe_int))
        (pss_cons (ps_set (i := 2) sc_l_pick.nd rfl (Or.inl rfl) (pe_op op_mod (pe_callTy call_int1 (by rfl) T.b_int (by decide +kernel) (pa_cons (pe_op op_add (pe_op op_mul (pv 2) pe_int) pe_int) pa_nil)) pe_int))
        (pss_cons (ps_dput hu (pv 0) pe_str (pe_op op_mod (pe_callTy call_int1 (by rfl) T.b_int (by decide +kernel) (pa_cons (pv 2) pa_nil)) pe_int) rfl)
        (pss_one (ps_ret (pe_op op_mod (pe_callTy call_int1 (by rfl) T.b_int (by decide +kernel) (pa_cons (pe_op op_fdiv (pv 2) pe_int) pa_nil)) (pv 1)))))))))))), ?_⟩
  -- the count
  refine ⟨_, rfl, b, _, rfl, get_count hb, _, _, rfl, rfl, _, rfl, b, _, rfl, set_count hb, ?_⟩
  -- a rest is left
  refine ⟨_, rfl, b, _, rfl, get_rest upd_same, _, _, rfl, rfl, _, rfl, ite2 (fun _ => ?_) (fun _ => ?_)⟩
  · refine ⟨_, rfl, b, _, rfl, get_rest upd_same, _, rfl, _, rfl, _, _, rfl, rfl, cd _, _, rfl, b, _, rfl, set_rest upd_same, ?_⟩
    refine ⟨_, rfl, .inl ⟨_, rfl, _, rfl, _, _, rfl, rfl, n0, ?_⟩⟩
    simp only [upd_upd]
    exact fin _ _ _ _ _ (e0 _) (e1 _) ht
  -- the cell
  refine ⟨fun σ' H1 => ∃ (z t' : Int) (o : Option V), σ' = [some (.ref b), some (.int n), o, some (.int z)] ∧ 0 ≤ t' ∧ H1 = upd H b (.dK (bagK c t' r m (k + 1))), ?_, ?_⟩
  · refine ⟨_, rfl, b, _, rfl, get_at upd_same, _, rfl, b, _, rfl, get_cells upd_same, _, _, rfl, .inl ⟨_, SqL.of (hcz _), rfl⟩, _, _, rfl, rfl, _, rfl, ite2 (fun hl => ?_) (fun _ => ?_)⟩
    · have hl' : t < ((ns.map V.int).length : Int) := of_decide_eq_true hl
      obtain ⟨z, hz⟩ : ∃ z, ns[t.toNat]? = some z := by
        rw [List.length_map] at hl'
        exact ⟨_, List.getElem?_eq_getElem (by omega)⟩
      refine ⟨_, rfl, b, _, rfl, get_cells upd_same, _, rfl, b, _, rfl, get_at upd_same, _, _, _, .int z, rfl, rfl, SqL.of (hcz _), at_of (j := t.toNat) (by omega) (by rw [List.getElem?_map, hz]; rfl), ?_⟩
      refine ⟨_, rfl, b, _, rfl, get_at upd_same, _, _, rfl, rfl, _, rfl, b, _, rfl, set_at upd_same, ?_⟩
      refine ⟨_, rfl, _, _, rfl, rfl, ⟨by decide, by decide, by decide⟩, _, _, rfl, rfl, _, rfl, ite2 (fun _ => ?_) (fun _ => ?_)⟩
      · refine ⟨_, rfl, _, rfl, _, _, rfl, rfl, cd _, _, rfl, b, _, rfl, set_rest upd_same, ?_⟩
        refine ⟨_, rfl, .inl ⟨_, rfl, _, rfl, _, _, rfl, rfl, n0, ?_⟩⟩
        simp only [upd_upd]
        exact fin _ _ _ _ _ (e0 _) (e1 _) (by omega)
      · exact ⟨z, t + 1, none, rfl, by omega, by simp only [upd_upd]⟩
    · exact ⟨0, t, none, rfl, ht, by first | rfl | rw [upd_upd]⟩
  · rintro σ' H1 ⟨z, t', o, rfl, t0, rfl⟩
    refine ⟨_, rfl, _, _, rfl, rfl, .inr ⟨by decide, by decide⟩, _, rfl, b, _, rfl, get_mixed upd_same, _, _, rfl, rfl, .inr ⟨by decide, by decide⟩, _, _, rfl, rfl, _, rfl, b, _, rfl, get_count upd_same, _, _, rfl, rfl, .inr ⟨by decide, by decide⟩, _, _, rfl, rfl, .inl ⟨_, rfl, _, _, rfl, rfl, (show (0 : Int) < 2147483647 by decide), ?_⟩⟩
    refine ⟨_, rfl, _, _, rfl, rfl, .inr ⟨by decide, by decide⟩, _, _, rfl, rfl, .inl ⟨_, rfl, _, _, rfl, rfl, (show (0 : Int) < 2147483647 by decide), ?_⟩⟩
    refine ⟨_, rfl, .inl ⟨_, rfl, _, _, rfl, rfl, (show (0 : Int) < 1000003 by decide), _, rfl, b, _, rfl, set_mixed upd_same, ?_⟩⟩
    refine ⟨_, rfl, _, _, rfl, rfl, ⟨by decide, by decide⟩, .inl ⟨_, rfl, _, rfl, _, _, rfl, rfl, n0, ?_⟩⟩
    simp only [upd_upd]
    exact fin _ _ _ _ _ (e0 _) (e1 _) t0
end
end Ell
set_option maxHeartbeats 4000000
namespace Ell
open PySem PySem.Spec PyProof.Rows L2
theorem pres_l {p : Addr → HO → Prop} {K : PySem.W.Frag} {H H' : Hp} {a : Addr} {xs : List V} (k : Pres p H H') (h : SqL K H a xs) (h1 : p a (.lst xs)) (h2 : ∀ o, p a (.frz o (.lst xs))) : SqL K H' a xs := by
  rcases h with (h | ⟨o, h⟩) | h
  · exact .inl (.inl (k.k _ _ h h1))
  · exact .inl (.inr ⟨o, k.k _ _ h (h2 o)⟩)
  · exact .inr h
theorem pres_t {p : Addr → HO → Prop} {K : PySem.W.Frag} {H H' : Hp} {a : Addr} {xs : List V} (k : Pres p H H') (h : SqT K H a xs) (h1 : p a (.tup xs)) (h2 : ∀ o, p a (.frz o (.tup xs))) : SqT K H' a xs := by
  rcases h with (h | ⟨o, h⟩) | h
  · exact .inl (.inl (k.k _ _ h h1))
  · exact .inl (.inr ⟨o, k.k _ _ h (h2 o)⟩)
  · exact .inr h
theorem fb_l {K : PySem.W.Frag} {H H' : Hp} {a : Addr} {xs : List V} (k : FB H H') (h : SqL K H a xs) : SqL K H' a xs := pres_l k h True.intro fun _ => True.intro
theorem fb_t {K : PySem.W.Frag} {H H' : Hp} {a : Addr} {xs : List V} (k : FB H H') (h : SqT K H a xs) : SqT K H' a xs := pres_t k h True.intro fun _ => True.intro
theorem fb_free {H H' : Hp} {a : Addr} {o : HO} (k : FB H H') (h : H a = some o) (n : NDK o) : H' a = some o := k.k a o h n
theorem take_snoc {α : Type} {l : List α} {i : Nat} {x : α} (h : l[i]? = some x) : l.take (i + 1) = l.take i ++ [x] := by
  obtain ⟨hi, e⟩ := List.getElem?_eq_some_iff.mp h
  rw [List.take_succ_eq_append_getElem hi, e]
theorem ints_at {ns : List Int} {i : Nat} {y : V} (h : (ns.map V.int)[i]? = some y) : ∃ z, ns[i]? = some z ∧ y = .int z := by
  rw [List.getElem?_map] at h
  cases e : ns[i]? with
  | none => rw [e] at h; cases h
  | some z => rw [e] at h; exact ⟨z, rfl, (Option.some.inj h).symm⟩
/-- the bag, made of the script -/
def spBag (K : PySem.W.Frag) : Sp := fun vs H Q _ => ∃ (a : Addr) (ns : List Int), vs = [.ref a] ∧ SqL K H a (ns.map V.int) ∧ ns.length ≤ 63 ∧ ∀ (b c : Addr) (H' : Hp), Same H H' → Bag H' b c → Q (.ref b) H'
theorem bag_merge {c : Addr} {m : Int} : mergeK [] [(Sum.inr "cells", V.ref c), (Sum.inr "at", .int 0), (Sum.inr "rest", .int 0), (Sum.inr "mixed", .int m), (Sum.inr "count", .int 0)] = bagK c 0 0 m 0 := by kernel_rfl
section
variable {P : Program} {w : World} {K : PySem.W.Frag} {mg : Str → Option Value} {base : Heap}
theorem ok_bag_of (T : Tx K mg) : Cal P w K mg base CX0 1 "_law_bag_of" ["_law_script"] [] (spBag K) := by
  obtain ⟨fd, F⟩ := T.f_l_bag_of
  refine ⟨_, fd, [], F.ok sc_l_bag_of (fun vs H Q E h => ?_) (fun cdv A outer s H vs Q E hr h => ?_), T.g_l_bag_of, F.kp, F.bindsN fun _ _ _ _ _ _ us hl => match us, hl with | [_], _ => rfl, .nil⟩
  · obtain ⟨a, ns, rfl, _⟩ := h
    rfl
  obtain ⟨a, ns, rfl, hS, hl, kk⟩ := h
  refine ⟨_, PSs.nox ((pss_cons (ps_set (i := 1) sc_l_bag_of.nd rfl (Or.inl rfl) pe_int)
        (pss_cons (ps_for PassesOwn.never rfl (pi_listK K (pv 0)) (pg_name (i := 2) sc_l_bag_of.nd rfl (Or.inl rfl))
          (pss_one (ps_set (i := 1) sc_l_bag_of.nd rfl (Or.inl rfl) (pe_op op_mod (pe_callTy call_int1 (by rfl) T.b_int (by decide +kernel) (pa_cons (pe_op op_add (pe_op op_add (pe_op op_mul (pv 1) pe_int) (pv 2)) pe_int) pa_nil)) pe_int))))
        (pss_one (ps_ret (pe_disp (pps_cons pe_str (pe_lc (own := [("_law_cell", 2)]) (g := gName 2) (tt := tYes) rfl sc_l_bag_of.nd (pi_listK K (pv 0)) (blkOk_by (N := N_l_bag_of) (sc := defScope s_l_bag_of) (by decide +kernel)) (fun _ _ _ _ _ => (pg_name (i := 2) sc_l_bag_of.nd rfl (Or.inl rfl))) (fun _ _ _ _ _ => pts_nil) (fun _ _ _ _ _ => (pv 2))) (pps_cons pe_str pe_int (pps_cons pe_str pe_int (pps_cons pe_str (pv 1) (pps_cons pe_str pe_int pps_nil))))) (by rfl) (by rfl) (fun z => by cases z) (by decide))))))), ?_⟩
  refine ⟨_, rfl, a, rfl, ⟨_, hS⟩, for_list (K := K) (a := a) (xs := ns.map V.int) (fun i σ H' => H' = H ∧ ∃ (m : Int) (v : Option V), σ = [some (.ref a), some (.int m), v]) ⟨rfl, 7, none, rfl⟩ (fun i σ H' _ ⟨e, _⟩ => by rw [e]; exact hS) ?_ ?_⟩
  · rintro i y σ H' hi ⟨rfl, m, v, rfl⟩
    obtain ⟨z, hz, rfl⟩ := ints_at hi
    refine ⟨_, rfl, _, _, rfl, rfl, .inr ⟨by decide, by decide⟩, _, rfl, _, _, rfl, rfl, _, _, rfl, rfl, .inl ⟨_, rfl, _, _, rfl, rfl, (show (0 : Int) < 1000003 by decide), rfl, _, _, rfl⟩⟩
  · rintro σ H' ⟨rfl, m, v, rfl⟩
    refine fun p hp => ?_
    have hS1 : SqL K (upd H' p (.dK [])) a (ns.map V.int) := (same_new hp).seq hS
    refine ⟨_, rfl, a, rfl, ⟨_, hS1⟩, fun D hD => lc_list (K := K) (a := a) (xs := ns.map V.int) (fun i H2 => H2 = upd (upd H' p (.dK [])) D (.lst ((ns.take i).map V.int))) rfl (fun i H2 _ e => by subst e; exact (same_new hD).seq hS1) ?_ ?_⟩
    · rintro i y H2 hi rfl
      obtain ⟨z, hz, rfl⟩ := ints_at hi
      refine ⟨rfl, _, rfl, _, upd_same, ?_, ?_⟩
      · rw [List.length_map]
        exact small1000 (Nat.le_trans (Nat.le_trans (List.length_take_le' _ _) hl) (by decide))
      · show upd (upd _ D _) D _ = _
        rw [upd_upd, take_snoc hz, List.map_append]
        rfl
    · rintro H2 rfl
      have npD : p ≠ D := fun z => by subst z; rw [upd_same] at hD; cases hD
      rw [List.length_map, List.take_length]
      have hp2 : (upd (upd H' p (.dK [])) D (.lst (ns.map V.int))) p = some (.dK []) := by rw [upd_ne npD, upd_same]
      refine ⟨_, rfl, hp2, [(Sum.inr "cells", V.ref D), (Sum.inr "at", .int 0), (Sum.inr "rest", .int 0), (Sum.inr "mixed", .int m), (Sum.inr "count", .int 0)], rfl, (show 5 ≤ 15 by decide), ?_⟩
      rw [bag_merge]
      refine kk p D _ (fun c o e => ?_) ⟨ns, 0, 0, m, 0, upd_same, by rw [upd_ne npD.symm, upd_same], by decide⟩
      have hDn : D ≠ c := fun z => by
        subst z
        rw [upd_ne npD.symm, e] at hD
        cases hD
      rw [upd_ne (ne_of_none e hp), upd_ne hDn.symm, upd_ne (ne_of_none e hp)]
      exact e
end
end Ell
set_option maxHeartbeats 4000000
namespace Ell
open PySem PySem.Spec PyProof.Rows L2
/-- a drawn thing -/
def spChoice (K : PySem.W.Frag) : Sp := fun vs H Q _ => ∃ (b c : Addr) (x : V), vs = [.ref b, x] ∧ Bag H b c ∧
  ((∃ (p : Addr) (xs : List V), x = .ref p ∧ (SqL K H p xs ∨ SqT K H p xs) ∧ 1 ≤ xs.length ∧ xs.length ≤ 1000 ∧ ∀ (i : Nat) (v : V) (H' : Hp), xs[i]? = some v → FB H H' → Bag H' b c → Q v H') ∨
   (∃ z : Str, x = .str z ∧ 1 ≤ z.length ∧ z.length ≤ 1000 ∧ ∀ (d : Nat) (H' : Hp), d ∈ z.cps.toList → FB H H' → Bag H' b c → Q (.str ⟨#[d]⟩) H'))
def spOneIn : Sp := fun vs H Q _ => ∃ (b c : Addr) (n : Int), vs = [.ref b, .int n] ∧ Bag H b c ∧ 1 ≤ n ∧ n ≤ 100000000 ∧ ∀ (d : Bool) (H' : Hp), FB H H' → Bag H' b c → Q (.bl d) H'
/-- a shuffled copy -/
def spShuf (K : PySem.W.Frag) : Sp := fun vs H Q _ => ∃ (b c p : Addr) (xs : List V), vs = [.ref b, .ref p] ∧ Bag H b c ∧ SqL K H p xs ∧ xs.length ≤ 1000 ∧
  ∀ (q : Addr) (ys : List V) (H' : Hp), FB H H' → Bag H' b c → H q = none → H' q = some (.lst ys) → xs.Perm ys → Q (.ref q) H'
theorem Bag.same {H H' : Hp} {b c : Addr} (h : Bag H b c) (k : Same H H') : Bag H' b c := by
  obtain ⟨ns, t, r, m, z, h1, h2, h3⟩ := h
  exact ⟨ns, t, r, m, z, k _ _ h1, k _ _ h2, h3⟩
theorem Bag.cells {H : Hp} {b c : Addr} (h : Bag H b c) : ∃ xs, H c = some (.lst xs) := by
  obtain ⟨ns, t, r, m, z, h1, h2, h3⟩ := h
  exact ⟨_, h2⟩
theorem Bag.dict {H : Hp} {b c : Addr} (h : Bag H b c) : ∃ kvs, H b = some (.dK kvs) := by
  obtain ⟨ns, t, r, m, z, h1, h2, h3⟩ := h
  exact ⟨_, h1⟩
/-- the bag stands where its two places are kept -/
theorem Bag.keep {H H' : Hp} {b c : Addr} (h : Bag H b c) (k1 : ∀ o, H b = some o → H' b = some o) (k2 : ∀ o, H c = some o → H' c = some o) : Bag H' b c := by
  obtain ⟨ns, t, r, m, z, h1, h2, h3⟩ := h
  exact ⟨ns, t, r, m, z, k1 _ h1, k2 _ h2, h3⟩
theorem Bag.put {H : Hp} {b c a : Addr} {o : HO} (h : Bag H b c) (h1 : b ≠ a) (h2 : c ≠ a) : Bag (upd H a o) b c := h.keep (fun _ e => by rw [upd_ne h1]; exact e) (fun _ e => by rw [upd_ne h2]; exact e)
theorem pos_nat {i : Int} {n : Nat} (h0 : 0 ≤ i) (h1 : i < (n : Int)) : ∃ j : Nat, i = (j : Int) ∧ j < n := ⟨i.toNat, by omega, by omega⟩
theorem sl1000 {n : Nat} (h : n ≤ 1000) : n ≤ sizeLine := Nat.le_of_lt (small1000 h)
section
variable {P : Program} {w : World} {K : PySem.W.Frag} {mg : Str → Option Value} {base : Heap}
theorem ok_choice (T : Tx K mg) (c_l_pick : Cal P w K mg base CX0 1 "_law_pick" ["_law_bag", "_law_many"] [] spPick) : Cal P w K mg base CX0 2 "_law_choice" ["_law_bag", "_law_things"] [] (spChoice K) := by
  obtain ⟨fd, F⟩ := T.f_l_choice
  refine ⟨_, fd, [], F.ok sc_l_choice (fun vs H Q E h => ?_) (fun cdv A outer s H vs Q E hr h => ?_), T.g_l_choice, F.kp, F.bindsN fun _ _ _ _ _ _ us hl => match us, hl with | [_, _], _ => rfl, .nil⟩
  · obtain ⟨b, c, x, rfl, _⟩ := h
    rfl
  obtain ⟨b, c, x, rfl, hb, h⟩ := h
  refine ⟨_, PSs.nox ((pss_one (ps_ret (pe_ix (ix_seqK K) (pv 1) (pcall c_l_pick hr (pa_cons (pv 0) (pa_cons (pe_callB (call_lenK K) (by rfl) T.b_len PySem.boot_len (pa_cons (pv 1) pa_nil)) pa_nil))) (fun _ _ => rfl))))), ?_⟩
  rcases h with ⟨p, xs, rfl, hx, l1, l2, kk⟩ | ⟨z, rfl, l1, l2, kk⟩
  · have hlen : LenV K (.ref p) H xs.length := by
      rcases hx with hx | hx
      · exact .inl ⟨_, hx, rfl⟩
      · exact .inr ⟨_, hx, rfl⟩
    refine ⟨_, rfl, _, rfl, _, rfl, _, xs.length, rfl, hlen, b, c, _, rfl, hb, by omega, by omega, fun r H' r0 r1 k1 b1 => ?_⟩
    obtain ⟨j, rfl, hj⟩ := pos_nat r0 r1
    have hv : xs[j]? = some xs[j] := List.getElem?_eq_getElem hj
    rcases hx with hx | hx
    · exact .inl ⟨p, xs, _, xs[j], rfl, rfl, fb_l k1 hx, atI_nat hv, kk j _ H' hv k1 b1⟩
    · exact .inr (.inl ⟨p, xs, _, xs[j], rfl, rfl, fb_t k1 hx, atI_nat hv, kk j _ H' hv k1 b1⟩)
  · refine ⟨_, rfl, _, rfl, _, rfl, _, z.length, rfl, ⟨sl1000 l2, rfl⟩, b, c, _, rfl, hb, by omega, by omega, fun r H' r0 r1 k1 b1 => ?_⟩
    obtain ⟨j, rfl, hj⟩ := pos_nat r0 r1
    have hj2 : j < z.cps.toList.length := by rw [Array.length_toList]; exact hj
    have hv : z.cps.toList[j]? = some z.cps.toList[j] := List.getElem?_eq_getElem hj2
    exact .inr (.inr ⟨z, _, z.cps.toList[j], rfl, rfl, sl1000 l2, atI_nat hv, kk _ H' (List.getElem_mem hj2) k1 b1⟩)
theorem ok_one_in (T : Tx K mg) (c_l_pick : Cal P w K mg base CX0 1 "_law_pick" ["_law_bag", "_law_many"] [] spPick) : Cal P w K mg base CX0 2 "_law_one_in" ["_law_bag", "_law_many"] [] spOneIn := by
  obtain ⟨fd, F⟩ := T.f_l_one_in
  refine ⟨_, fd, [], F.ok sc_l_one_in (fun vs H Q E h => ?_) (fun cdv A outer s H vs Q E hr h => ?_), T.g_l_one_in, F.kp, F.bindsN fun _ _ _ _ _ _ us hl => match us, hl with | [_, _], _ => rfl, .nil⟩
  · obtain ⟨b, c, x, rfl, _⟩ := h
    rfl
  obtain ⟨b, c, n, rfl, hb, n1, n2, kk⟩ := h
  refine ⟨_, PSs.nox ((pss_one (ps_ret (pe_cmpR op_eq (pcall c_l_pick hr (pa_cons (pv 0) (pa_cons (pv 1) pa_nil))) pe_int (nomark _))))), ?_⟩
  refine ⟨_, rfl, _, rfl, b, c, n, rfl, hb, n1, n2, fun r H' r0 r1 k1 b1 => ⟨rfl, kk _ H' k1 b1⟩⟩
theorem erase_perm {α : Type} : ∀ {l : List α} {i : Nat} {x : α}, l[i]? = some x → l.Perm (x :: l.eraseIdx i)
  | [], _, _, h => by simp at h
  | a :: r, 0, x, h => by
    have e : a = x := Option.some.inj h
    subst e
    exact .refl _
  | a :: r, i + 1, x, h => by
    have ih := erase_perm (l := r) (i := i) (x := x) h
    exact (ih.cons a).trans (.swap _ _ _)
theorem ok_shuffled (T : Tx K mg) (c_l_pick : Cal P w K mg base CX0 1 "_law_pick" ["_law_bag", "_law_many"] [] spPick) : Cal P w K mg base CX0 2 "_law_shuffled" ["_law_bag", "_law_things"] [] (spShuf K) := by
  obtain ⟨fd, F⟩ := T.f_l_shuffled
  refine ⟨_, fd, [], F.ok sc_l_shuffled (fun vs H Q E h => ?_) (fun cdv A outer s H vs Q E hr h => ?_), T.g_l_shuffled, F.kp, F.bindsN fun _ _ _ _ _ _ us hl => match us, hl with | [_, _], _ => rfl, .nil⟩
  · obtain ⟨b, c, p, xs, rfl, _⟩ := h
    rfl
  obtain ⟨b, c, p, xs, rfl, hb, hx, hl, kk⟩ := h
  refine ⟨_, PSs.nox ((pss_cons (ps_set (i := 2) sc_l_shuffled.nd rfl (Or.inr rfl) (pe_callTy (listofK K) (by rfl) T.b_list (by decide +kernel) (pa_cons (pv 1) pa_nil)))
        (pss_one (ps_ret (pe_lc (own := [("_law_thing", 3)]) (g := gName 3) (tt := tYes) rfl sc_l_shuffled.nd (pi_listK K (pv 1)) (blkOk_by (N := N_l_shuffled) (sc := defScope s_l_shuffled) (by decide +kernel)) (fun _ _ _ _ _ => (pg_name (i := 3) sc_l_shuffled.nd rfl (Or.inl rfl))) (fun _ _ _ _ _ => pts_nil) (fun _ _ _ _ _ => (bmK K PySem.F.plainAttrs_list PySem.F.slot_list_pop PySem.F.type_list_pop mt_popAt (pv 2) (pa_cons (pcall c_l_pick hr (pa_cons (pv 0) (pa_cons (pe_callB (call_lenK K) (by rfl) T.b_len PySem.boot_len (pa_cons (pv 2) pa_nil)) pa_nil))) pa_nil)))))))), ?_⟩
  refine ⟨_, rfl, p, xs, rfl, .inl hx, fun l hl0 => ?_⟩
  have k0 : FB H (upd H l (.lst xs)) := Pres.new hl0
  have hx0 : SqL K (upd H l (.lst xs)) p xs := (same_new hl0).seq hx
  have hb0 : Bag (upd H l (.lst xs)) b c := hb.same (same_new hl0)
  have hcl : c ≠ l := ne_of_none hb.cells.choose_spec hl0
  refine ⟨_, rfl, p, rfl, ⟨_, hx0⟩, fun D hD => ?_⟩
  have hcD : c ≠ D := ne_of_none hb0.cells.choose_spec hD
  have nlD : l ≠ D := fun z => by subst z; rw [upd_same] at hD; cases hD
  refine lc_list (K := K) (a := p) (xs := xs) (fun i H2 => ∃ rest acc, H2 l = some (.lst rest) ∧ H2 D = some (.lst acc) ∧ xs.Perm (acc ++ rest) ∧ acc.length = i ∧ FB H H2 ∧ Bag H2 b c) ?_ (fun i H2 _ ⟨_, _, _, _, _, _, k2, _⟩ => fb_l k2 hx) ?_ ?_
  · refine ⟨xs, [], by rw [upd_ne nlD]; exact upd_same, upd_same, by rw [List.nil_append], rfl, k0.then_new hD, hb0.same (same_new hD)⟩
  · rintro i x H2 hi ⟨rest, acc, h1, h2, hp, ha, k2, b2⟩
    have hil : i < xs.length := (List.getElem?_eq_some_iff.mp hi).1
    have hpl := hp.length_eq
    rw [List.length_append, ha] at hpl
    refine ⟨rfl, _, rfl, .inl ⟨rfl, _, SqL.of h1⟩, _, rfl, _, rfl, _, rest.length, rfl, .inl ⟨_, SqL.of h1, rfl⟩, b, c, _, rfl, b2, by omega, by omega, fun r H3 r0 r1 k3 b3 => ?_⟩
    obtain ⟨j, rfl, hj⟩ := pos_nat r0 r1
    have hv : rest[j]? = some rest[j] := List.getElem?_eq_getElem hj
    have e1 : H3 l = some (.lst rest) := fb_free k3 h1 True.intro
    have e2 : H3 D = some (.lst acc) := fb_free k3 h2 True.intro
    refine ⟨l, rest, _, j, rest[j], rfl, rfl, e1, by omega, by omega, PySem.StrLaws.seqIndex_nonneg (by omega) (by omega), hv, acc, by rw [upd_ne nlD.symm]; exact e2, small1000 (by omega), ?_⟩
    obtain ⟨ns, t, rr, m, k, q1, q2, q3⟩ := b3
    have hbl : b ≠ l := ne_of q1 e1 (by intro z; cases z)
    have hbD : b ≠ D := ne_of q1 e2 (by intro z; cases z)
    refine ⟨rest.eraseIdx j, acc ++ [rest[j]], by rw [upd_ne nlD]; exact upd_same, upd_same, ?_, by rw [List.length_append, ha]; rfl, ?_, ⟨ns, t, rr, m, k, by rw [upd_ne hbD, upd_ne hbl]; exact q1, by rw [upd_ne hcD, upd_ne hcl]; exact q2, q3⟩⟩
    · rw [List.append_assoc]
      exact hp.trans ((erase_perm hv).append_left acc)
    · exact (((k2.trans k3).then_put hl0).then_put ((same_new hl0).free hD))
  · rintro H2 ⟨rest, acc, h1, h2, hp, ha, k2, b2⟩
    have hpl := hp.length_eq
    rw [List.length_append, ha] at hpl
    have hr0 : rest = [] := List.eq_nil_of_length_eq_zero (by omega)
    subst hr0
    rw [List.append_nil] at hp
    exact kk D acc H2 k2 b2 ((same_new hl0).free hD) h2 hp
end
end Ell
set_option maxHeartbeats 4000000
namespace Ell
open PySem PySem.Spec PyProof.Rows L2
/-! ### isinstance, its common answers -/
theorem kII {K : PySem.W.Frag} : PySem.W.kitOne K (.type "int") (.type "int") = some true := kit_ty (by decide +kernel)
theorem kIB {K : PySem.W.Frag} : PySem.W.kitOne K (.type "int") (.type "bool") = some false := kit_ty (by decide +kernel)
theorem kSS {K : PySem.W.Frag} : PySem.W.kitOne K (.type "str") (.type "str") = some true := kit_ty (by decide +kernel)
theorem kIS {K : PySem.W.Frag} : PySem.W.kitOne K (.type "int") (.type "str") = some false := kit_ty (by decide +kernel)
theorem kTT {K : PySem.W.Frag} : PySem.W.kitOne K (.type "tuple") (.type "tuple") = some true := kit_ty (by decide +kernel)
/-! ### numbers -/
def spGcd : Sp := fun vs H Q _ => ∃ a b : Int, vs = [.int a, .int b] ∧ Q (.int ((Nat.gcd a.natAbs b.natAbs : Nat) : Int)) H
def spRat : Sp := fun vs H Q _ => ∃ n d : Int, vs = [.int n, .int d] ∧ 1 ≤ d ∧ d ≤ 2 ∧ ∀ (p : Addr) (n' d' : Int), H p = none → 1 ≤ d' → d' ≤ 2 → Nat.gcd n'.natAbs d'.natAbs = 1 → Q (.ref p) (upd H p (.tup [.int n', .int d']))
def spIsRat : Sp := fun vs H Q _ => ∃ (p : Addr) (n d : Int), vs = [.ref p] ∧ H p = some (.tup [.int n, .int d]) ∧ 1 ≤ d ∧ Nat.gcd n.natAbs d.natAbs = 1 ∧ Q (.bl true) H
def spInt : Sp := fun vs H Q _ => ∃ i : Int, vs = [.int i] ∧ Q (.bl true) H
def spGround : Sp := fun vs H Q _ => vs = [] ∧ ∀ p, H p = none → Q (.ref p) (upd H p (.tup [.str "ground", .int 0, .int 0]))
/-- any number -/
def spAny : Sp := fun vs H Q _ => ∃ b c : Addr, vs = [.ref b] ∧ Bag H b c ∧ ∀ (z : Int) (H' : Hp), FB H H' → Bag H' b c → Q (.int z) H'
/-- a word -/
def spWord : Sp := fun vs H Q _ => ∃ b c : Addr, vs = [.ref b] ∧ Bag H b c ∧ ∀ (z : Str) (H' : Hp), FB H H' → Bag H' b c → PyData.strOk z = true → Q (.str z) H'
/-- a why -/
def spWhy : Sp := fun vs H Q _ => ∃ b c : Addr, vs = [.ref b] ∧ Bag H b c ∧ ∀ (v : V) (y : List Key) (H' : Hp), FB H H' → Bag H' b c → TK H' v y → y ≠ [] → Q v H'
theorem gcd_turn {a b : Int} (ha : 0 ≤ a) (hb : 0 < b) : Nat.gcd b.natAbs (a % b).natAbs = Nat.gcd a.natAbs b.natAbs := by
  obtain ⟨m, rfl⟩ := Int.eq_ofNat_of_zero_le ha
  obtain ⟨n, rfl⟩ := Int.eq_ofNat_of_zero_le (Int.le_of_lt hb)
  have e : ((m : Int) % (n : Int)).natAbs = m % n := by
    rw [← Int.natCast_emod]
    rfl
  rw [e]
  show Nat.gcd n (m % n) = Nat.gcd m n
  rw [Nat.gcd_comm n, ← Nat.gcd_rec, Nat.gcd_comm]
theorem abs_if (i : Int) : (if i < 0 then -i else i) = (i.natAbs : Int) := by
  split <;> omega
section
variable {P : Program} {w : World} {K : PySem.W.Frag} {mg : Str → Option Value} {base : Heap}
theorem ok_gcd (T : Tx K mg) : Cal P w K mg base CX0 1 "_law_gcd" ["_law_a", "_law_b"] [] spGcd := by
  obtain ⟨fd, F⟩ := T.f_l_gcd
  refine ⟨_, fd, [], F.ok sc_l_gcd (fun vs H Q E h => ?_) (fun cdv A outer s H vs Q E hr h => ?_), T.g_l_gcd, F.kp, F.bindsN fun _ _ _ _ _ _ us hl => match us, hl with | [_, _], _ => rfl, .nil⟩
  · obtain ⟨a, b, rfl, _⟩ := h
    rfl
  obtain ⟨a, b, rfl, kk⟩ := h
  refine ⟨_, PSs.nox ((pss_cons (ps_set (i := 2) sc_l_gcd.nd rfl (Or.inl rfl) (pe_callB call_abs (by rfl) T.b_abs (by decide +kernel) (pa_cons (pv 0) pa_nil)))
        (pss_cons (ps_set (i := 3) sc_l_gcd.nd rfl (Or.inl rfl) (pe_callB call_abs (by rfl) T.b_abs (by decide +kernel) (pa_cons (pv 1) pa_nil)))
        (pss_cons (ps_while PassesOwn.never (pt_cmpR op_gt (pv 3) pe_int (nomark _))
          (pss_cons (ps_set (i := 4) sc_l_gcd.nd rfl (Or.inl rfl) (pe_op op_mod (pe_callTy call_int1 (by rfl) T.b_int (by decide +kernel) (pa_cons (pv 2) pa_nil)) (pv 3)))
          (pss_cons (ps_set (i := 2) sc_l_gcd.nd rfl (Or.inl rfl) (pv 3))
          (pss_one (ps_set (i := 3) sc_l_gcd.nd rfl (Or.inl rfl) (pv 4))))))
        (pss_one (ps_ret (pv 2))))))), ?_⟩
  refine ⟨_, rfl, _, rfl, _, rfl, _, rfl, ?_⟩
  refine ⟨fun m σ H' => H' = H ∧ ∃ (x y : Int) (r : Option V), σ = [some (.int a), some (.int b), some (.int x), some (.int y), r] ∧ 0 ≤ x ∧ 0 ≤ y ∧ m = y.toNat ∧ Nat.gcd x.natAbs y.natAbs = Nat.gcd a.natAbs b.natAbs, ?_, ?_⟩
  · refine ⟨_, rfl, _, _, none, rfl, ?_, ?_, rfl, ?_⟩
    · rw [abs_if]; omega
    · rw [abs_if]; omega
    · rw [abs_if, abs_if]; rfl
  · rintro m σ H' ⟨rfl, x, y, r, rfl, x0, y0, rfl, hg⟩
    refine ⟨_, rfl, _, _, rfl, rfl, _, rfl, ite2 (fun h => ?_) (fun h => ?_)⟩
    · have y1 : 0 < y := of_decide_eq_true h
      refine ⟨fun σ' H'' => H'' = H' ∧ ∃ r : Option V, σ' = [some (.int a), some (.int b), some (.int y), some (.int (x % y)), r], ?_, ?_⟩
      · rintro σ' H'' ⟨rfl, r, rfl⟩
        have := Int.emod_lt_of_pos x y1
        have := Int.emod_nonneg x (show y ≠ 0 by omega)
        exact ⟨_, by omega, rfl, y, x % y, r, rfl, y0, by omega, rfl, (gcd_turn x0 y1).trans hg⟩
      · exact ⟨_, rfl, .inl ⟨_, rfl, _, rfl, _, _, rfl, rfl, y1, _, rfl, _, rfl, rfl, _, rfl⟩⟩
    · have y1 : ¬ 0 < y := fun z => h (decide_eq_true z)
      have ey : y = 0 := by omega
      subst ey
      refine ⟨_, rfl, ?_⟩
      have e : x = ((Nat.gcd a.natAbs b.natAbs : Nat) : Int) := by
        rw [← hg]
        show x = ((Nat.gcd x.natAbs 0 : Nat) : Int)
        rw [Nat.gcd_zero_right]
        omega
      rw [e]
      exact kk
theorem ok_ratio_l (T : Tx K mg) (c_l_gcd : Cal P w K mg base CX0 1 "_law_gcd" ["_law_a", "_law_b"] [] spGcd) : Cal P w K mg base CX0 2 "_law_ratio" ["_law_n", "_law_d"] [] spRat := by
  obtain ⟨fd, F⟩ := T.f_l_ratio
  refine ⟨_, fd, [], F.ok sc_l_ratio (fun vs H Q E h => ?_) (fun cdv A outer s H vs Q E hr h => ?_), T.g_l_ratio, F.kp, F.bindsN fun _ _ _ _ _ _ us hl => match us, hl with | [_, _], _ => rfl, .nil⟩
  · obtain ⟨a, b, rfl, _⟩ := h
    rfl
  obtain ⟨n, d, rfl, d1, d2, kk⟩ := h
  refine ⟨_, PSs.nox ((pss_cons (ps_set (i := 2) sc_l_ratio.nd rfl (Or.inl rfl) (pe_ifExp (pt_cmpR op_gt (pv 1) pe_int (nomark _)) (pcall c_l_gcd hr (pa_cons (pv 0) (pa_cons (pv 1) pa_nil))) (pe_op op_sub pe_int (pcall c_l_gcd hr (pa_cons (pv 0) (pa_cons (pv 1) pa_nil))))))
        (pss_one (ps_ret (pe_tup (pa_cons (pe_op op_fdiv (pv 0) (pv 2)) (pa_cons (pe_op op_fdiv (pv 1) (pv 2)) pa_nil))))))), ?_⟩
  refine ⟨_, rfl, _, _, rfl, rfl, _, rfl, ite2 (fun h => ?_) (fun h => absurd (decide_eq_true (show (0 : Int) < d by omega)) h)⟩
  refine ⟨_, rfl, _, rfl, n, d, rfl, ?_⟩
  have g1 : 1 ≤ Nat.gcd n.natAbs d.natAbs := Nat.gcd_pos_of_pos_right _ (by omega)
  have g2 : Nat.gcd n.natAbs d.natAbs ≤ d.natAbs := Nat.gcd_le_right _ (by omega)
  have gd : ∀ x : Int, CDiv x ((Nat.gcd n.natAbs d.natAbs : Nat) : Int) := fun x => ⟨by omega, by omega⟩
  refine ⟨_, rfl, _, rfl, _, _, rfl, rfl, gd _, _, rfl, _, rfl, _, _, rfl, rfl, gd _, (show 2 ≤ sizeLine by decide), fun p hp => kk p _ _ hp ?_ ?_ ?_⟩
  all_goals
    have hz : d = 1 ∨ d = 2 := by omega
    have hg : Nat.gcd n.natAbs d.natAbs = 1 ∨ Nat.gcd n.natAbs d.natAbs = 2 := by omega
  · rcases hg with e | e <;> rw [e] <;> omega
  · rcases hg with e | e <;> rw [e] <;> omega
  · rcases hg with e | e
    · have e1 : n / ((Nat.gcd n.natAbs d.natAbs : Nat) : Int) = n := by rw [e]; omega
      have e2 : d / ((Nat.gcd n.natAbs d.natAbs : Nat) : Int) = d := by rw [e]; omega
      rw [e1, e2]
      exact e
    · have e2 : d / ((Nat.gcd n.natAbs d.natAbs : Nat) : Int) = 1 := by rw [e]; omega
      rw [e2]
      exact Nat.gcd_one_right _
theorem ok_integer (T : Tx K mg) : Cal P w K mg base CX0 1 "_law_integer" ["_law_thing"] [] spInt := by
  obtain ⟨fd, F⟩ := T.f_l_integer
  refine ⟨_, fd, [], F.ok sc_l_integer (fun vs H Q E h => ?_) (fun cdv A outer s H vs Q E hr h => ?_), T.g_l_integer, F.kp, F.bindsN fun _ _ _ _ _ _ us hl => match us, hl with | [_], _ => rfl, .nil⟩
  · obtain ⟨a, rfl, _⟩ := h
    rfl
  obtain ⟨i, rfl, kk⟩ := h
  refine ⟨_, PSs.nox ((pss_one (ps_ret (pe_and (pe_callB (isiK K) (by rfl) T.b_isinstance (by decide +kernel) (pa_cons (pv 0) (pa_cons (pe_bltn (v := .ty "int") (u := .type "int") (by rfl) T.b_int (by decide +kernel) rfl) pa_nil))) (pe_one (pe_not (pe_callB (isiK K) (by rfl) T.b_isinstance (by decide +kernel) (pa_cons (pv 0) (pa_cons (pe_bltn (v := .ty "bool") (u := .type "bool") (by rfl) T.b_bool (by decide +kernel) rfl) pa_nil))))))))), ?_⟩
  exact ⟨_, rfl, _, _, _, _, true, rfl, .ty "int", .base (.int _), kII, true, rfl, _, rfl, _, _, _, _, false, rfl, .ty "bool", .base (.int _), kIB, _, rfl, kk⟩
theorem ok_is_ratio_l (T : Tx K mg) (c_l_gcd : Cal P w K mg base CX0 1 "_law_gcd" ["_law_a", "_law_b"] [] spGcd) (c_l_integer : Cal P w K mg base CX0 1 "_law_integer" ["_law_thing"] [] spInt) :
    Cal P w K mg base CX0 2 "_law_is_ratio" ["_law_thing"] [] spIsRat := by
  obtain ⟨fd, F⟩ := T.f_l_is_ratio
  refine ⟨_, fd, [], F.ok sc_l_is_ratio (fun vs H Q E h => ?_) (fun cdv A outer s H vs Q E hr h => ?_), T.g_l_is_ratio, F.kp, F.bindsN fun _ _ _ _ _ _ us hl => match us, hl with | [_], _ => rfl, .nil⟩
  · obtain ⟨p, n, d, rfl, _⟩ := h
    rfl
  obtain ⟨p, n, d, rfl, hp, d1, hg, kk⟩ := h
  have hT : SqT K H p [.int n, .int d] := SqT.of hp
  refine ⟨_, PSs.nox ((pss_cons (ps_if (PW.pt (pw_or (pt_not (pt_val (pe_callB (isiK K) (by rfl) T.b_isinstance (by decide +kernel) (pa_cons (pv 0) (pa_cons (pe_bltn (v := .ty "tuple") (u := .type "tuple") (by rfl) T.b_tuple (by decide +kernel) rfl) pa_nil))))) (pw_or1 (pt_cmpR op_ne (pe_callB (call_lenK K) (by rfl) T.b_len PySem.boot_len (pa_cons (pv 0) pa_nil)) pe_int (nomark _))))) (pss_one (ps_ret pe_bl)) pss_nil)
        (pss_one (ps_ret (pe_and (pcall c_l_integer hr (pa_cons (pe_ix (ix_tupK K) (pv 0) pe_int (fun _ _ => rfl)) pa_nil)) (pe_and (pcall c_l_integer hr (pa_cons (pe_ix (ix_tupK K) (pv 0) pe_int (fun _ _ => rfl)) pa_nil)) (pe_and (pe_cmpR op_ge (pe_ix (ix_tupK K) (pv 0) pe_int (fun _ _ => rfl)) pe_int (nomark _)) (pe_one (pe_cmpR op_eq (pcall c_l_gcd hr (pa_cons (pe_ix (ix_tupK K) (pv 0) pe_int (fun _ _ => rfl)) (pa_cons (pe_ix (ix_tupK K) (pv 0) pe_int (fun _ _ => rfl)) pa_nil))) pe_int (nomark _)))))))))), ?_⟩
  refine ⟨_, rfl, _, _, _, _, true, rfl, .ty "tuple", .base (.tup (hp)), kTT, true, rfl, ?_⟩
  refine ⟨_, rfl, _, 2, rfl, .inr ⟨_, hT, rfl⟩, rfl, _, rfl, ?_⟩
  refine ⟨_, rfl, p, _, _, _, rfl, rfl, hT, atI_nat (j := 0) rfl, n, rfl, true, rfl, ?_⟩
  refine ⟨_, rfl, p, _, _, _, rfl, rfl, hT, atI_nat (j := 1) rfl, d, rfl, true, rfl, ?_⟩
  refine ⟨_, rfl, p, _, _, _, rfl, rfl, hT, atI_nat (j := 1) rfl, _, _, rfl, rfl, _, rfl, ite2 (fun _ => ?_) (fun h => absurd (decide_eq_true d1) h)⟩
  refine ⟨_, rfl, p, _, _, _, rfl, rfl, hT, atI_nat (j := 0) rfl, _, rfl, p, _, _, _, rfl, rfl, hT, atI_nat (j := 1) rfl, n, d, rfl, rfl, ?_⟩
  rw [hg]
  exact kk
theorem ok_ground (T : Tx K mg) : Cal P w K mg base CX0 1 "_law_ground" [] [] spGround := by
  obtain ⟨fd, F⟩ := T.f_l_ground
  refine ⟨_, fd, [], F.ok sc_l_ground (fun vs H Q E h => ?_) (fun cdv A outer s H vs Q E hr h => ?_), T.g_l_ground, F.kp, F.bindsN fun _ _ _ _ _ _ us hl => match us, hl with | [], _ => rfl, .nil⟩
  · obtain ⟨rfl, _⟩ := h
    rfl
  obtain ⟨rfl, kk⟩ := h
  refine ⟨_, PSs.nox ((pss_one (ps_ret (pe_tup (pa_cons pe_str (pa_cons pe_int (pa_cons pe_int pa_nil))))))), ?_⟩
  exact ⟨(show 3 ≤ sizeLine by decide), fun p hp => kk p hp⟩
end
end Ell
set_option maxHeartbeats 4000000
namespace Ell
open PySem PySem.Spec PyProof.Rows L2
theorem strOk_app {x y : Str} (hx : PyData.strOk x = true) (hy : PyData.strOk y = true) : PyData.strOk (x ++ y) = true := by
  show (x.cps ++ y.cps).all (· < 0x110000) = true
  rw [Array.all_append]
  have h1 : x.cps.all (· < 0x110000) = true := hx
  have h2 : y.cps.all (· < 0x110000) = true := hy
  rw [h1, h2]
  rfl
theorem strOk_join : ∀ ys : List Str, (∀ y ∈ ys, PyData.strOk y = true) → PyData.strOk (PySem.Str.join "" ys) = true
  | [], _ => by decide +kernel
  | [x], h => h x List.mem_cons_self
  | x :: z :: r, h => by
    have ih := strOk_join (z :: r) fun y hy => h y (List.mem_cons_of_mem _ hy)
    show PyData.strOk (x ++ "" ++ PySem.Str.join "" (z :: r)) = true
    exact strOk_app (strOk_app (h x List.mem_cons_self) (by decide +kernel)) ih
theorem strOk_tjoin (ys : List Str) (h : ∀ y ∈ ys, PyData.strOk y = true) : PyData.strOk (PySem.Txt.join "" ys) = true := by
  show PyData.strOk (Builtin.Str.glued "" ys) = true
  rw [StrLaws.glued_eq_join]
  exact strOk_join ys h
theorem strOk_one {d : Nat} (h : d < 0x110000) : PyData.strOk ⟨#[d]⟩ = true := by
  show (#[d] : Array Nat).all (· < 0x110000) = true
  simp [h]
def signsT : Str := "abcdefghijklmnopqrstuvwxyzAZ09 _-"
theorem signs_ok : ∀ d ∈ signsT.cps.toList, d < 0x110000 := by
  have h : signsT.cps.toList.all (fun d => decide (d < 0x110000)) = true := by decide +kernel
  intro d hd
  exact of_decide_eq_true (List.all_eq_true.mp h d hd)
theorem signs_len : signsT.length = 33 := by decide +kernel
section
variable {P : Program} {w : World} {K : PySem.W.Frag} {mg : Str → Option Value} {base : Heap}
theorem ok_whole (T : Tx K mg) (c_l_pick : Cal P w K mg base CX0 1 "_law_pick" ["_law_bag", "_law_many"] [] spPick) : Cal P w K mg base CX0 2 "_law_whole" ["_law_bag"] [] spAny := by
  obtain ⟨fd, F⟩ := T.f_l_whole
  refine ⟨_, fd, [], F.ok sc_l_whole (fun vs H Q E h => ?_) (fun cdv A outer s H vs Q E hr h => ?_), T.g_l_whole, F.kp, F.bindsN fun _ _ _ _ _ _ us hl => match us, hl with | [_], _ => rfl, .nil⟩
  · obtain ⟨b, c, rfl, _⟩ := h
    rfl
  obtain ⟨b, c, rfl, hb, kk⟩ := h
  refine ⟨_, PSs.nox ((pss_cons (ps_set (i := 1) sc_l_whole.nd rfl (Or.inl rfl) (pcall c_l_pick hr (pa_cons (pv 0) (pa_cons pe_int pa_nil))))
        (pss_cons (ps_if (pt_cmpR op_eq (pv 1) pe_int (nomark _)) (pss_one (ps_ret (pe_op op_sub (pe_op op_sub pe_int pe_int) (pcall c_l_pick hr (pa_cons (pv 0) (pa_cons pe_int pa_nil)))))) pss_nil)
        (pss_cons (ps_if (pt_cmpR op_eq (pv 1) pe_int (nomark _)) (pss_one (ps_ret (pe_op op_sub (pe_op op_mul (pcall c_l_pick hr (pa_cons (pv 0) (pa_cons (pe_op op_pow pe_int pe_int) pa_nil))) (pe_op op_pow pe_int pe_int)) (pe_op op_mul pe_int (pe_op op_pow pe_int pe_int))))) pss_nil)
        (pss_one (ps_ret (pcall c_l_pick hr (pa_cons (pv 0) (pa_cons pe_int pa_nil))))))))), ?_⟩
  refine ⟨_, rfl, b, c, _, rfl, hb, by decide, by decide, fun r H1 r0 r1 k1 b1 => ?_⟩
  refine ⟨_, rfl, rfl, _, rfl, ite2 (fun _ => ?_) (fun _ => ?_)⟩
  · exact ⟨_, _, rfl, rfl, _, rfl, b, c, _, rfl, b1, by decide, by decide, fun z H2 z0 z1 k2 b2 => ⟨_, _, rfl, rfl, kk _ H2 (k1.trans k2) b2⟩⟩
  refine ⟨_, rfl, rfl, _, rfl, ite2 (fun _ => ?_) (fun _ => ?_)⟩
  · refine ⟨_, rfl, _, _, rfl, rfl, ⟨by decide, by decide, by decide⟩, b, c, _, rfl, b1, by decide, by decide, fun z H2 z0 z1 k2 b2 => ?_⟩
    exact ⟨_, _, rfl, rfl, ⟨by decide, by decide, by decide⟩, _, _, rfl, rfl, .inr ⟨by decide, by decide⟩, _, _, rfl, rfl, ⟨by decide, by decide, by decide⟩, _, _, rfl, rfl, .inl ⟨by decide, by decide⟩, _, _, rfl, rfl, kk _ H2 (k1.trans k2) b2⟩
  · exact ⟨_, rfl, b, c, _, rfl, b1, by decide, by decide, fun z H2 z0 z1 k2 b2 => kk _ H2 (k1.trans k2) b2⟩
theorem ok_slack (T : Tx K mg) (c_l_pick : Cal P w K mg base CX0 1 "_law_pick" ["_law_bag", "_law_many"] [] spPick) : Cal P w K mg base CX0 2 "_law_slack" ["_law_bag"] [] spAny := by
  obtain ⟨fd, F⟩ := T.f_l_slack
  refine ⟨_, fd, [], F.ok sc_l_slack (fun vs H Q E h => ?_) (fun cdv A outer s H vs Q E hr h => ?_), T.g_l_slack, F.kp, F.bindsN fun _ _ _ _ _ _ us hl => match us, hl with | [_], _ => rfl, .nil⟩
  · obtain ⟨b, c, rfl, _⟩ := h
    rfl
  obtain ⟨b, c, rfl, hb, kk⟩ := h
  refine ⟨_, PSs.nox ((pss_cons (ps_set (i := 1) sc_l_slack.nd rfl (Or.inl rfl) (pcall c_l_pick hr (pa_cons (pv 0) (pa_cons pe_int pa_nil))))
        (pss_cons (ps_if (pt_cmpR op_lt (pv 1) pe_int (nomark _)) (pss_one (ps_ret pe_int)) pss_nil)
        (pss_cons (ps_if (pt_cmpR op_lt (pv 1) pe_int (nomark _)) (pss_one (ps_ret (pe_op op_add pe_int (pcall c_l_pick hr (pa_cons (pv 0) (pa_cons pe_int pa_nil)))))) pss_nil)
        (pss_one (ps_ret (pcall c_l_pick hr (pa_cons (pv 0) (pa_cons pe_int pa_nil))))))))), ?_⟩
  refine ⟨_, rfl, b, c, _, rfl, hb, by decide, by decide, fun r H1 r0 r1 k1 b1 => ?_⟩
  refine ⟨_, rfl, _, _, rfl, rfl, _, rfl, ite2 (fun _ => kk _ _ k1 b1) (fun _ => ?_)⟩
  refine ⟨_, rfl, _, _, rfl, rfl, _, rfl, ite2 (fun _ => ?_) (fun _ => ?_)⟩
  · exact ⟨_, rfl, b, c, _, rfl, b1, by decide, by decide, fun z H2 z0 z1 k2 b2 => ⟨_, _, rfl, rfl, kk _ H2 (k1.trans k2) b2⟩⟩
  · exact ⟨_, rfl, b, c, _, rfl, b1, by decide, by decide, fun z H2 z0 z1 k2 b2 => kk _ H2 (k1.trans k2) b2⟩
theorem ok_word (T : Tx K mg) (c_l_pick : Cal P w K mg base CX0 1 "_law_pick" ["_law_bag", "_law_many"] [] spPick) (c_l_choice : Cal P w K mg base CX0 2 "_law_choice" ["_law_bag", "_law_things"] [] (spChoice K)) :
    Cal P w K mg base CX0 3 "_law_word_drawn" ["_law_bag"] [] spWord := by
  obtain ⟨fd, F⟩ := T.f_l_word_drawn
  refine ⟨_, fd, [], F.ok sc_l_word_drawn (fun vs H Q E h => ?_) (fun cdv A outer s H vs Q E hr h => ?_), T.g_l_word_drawn, F.kp, F.bindsN fun _ _ _ _ _ _ us hl => match us, hl with | [_], _ => rfl, .nil⟩
  · obtain ⟨b, c, rfl, _⟩ := h
    rfl
  obtain ⟨b, c, rfl, hb, kk⟩ := h
  refine ⟨_, PSs.nox ((pss_cons (ps_set (i := 1) sc_l_word_drawn.nd rfl (Or.inr rfl) pe_str)
        (pss_one (ps_ret (joinK K pe_str (pe_lc (own := [("_law_k", 2)]) (g := gName 2) (tt := tYes) rfl sc_l_word_drawn.nd (pi_range1 (by rfl) T.b_range (pa_cons (pcall c_l_pick hr (pa_cons (pv 0) (pa_cons pe_int pa_nil))) pa_nil)) (blkOk_by (N := N_l_word_drawn) (sc := defScope s_l_word_drawn) (by decide +kernel)) (fun _ _ _ _ _ => (pg_name (i := 2) sc_l_word_drawn.nd rfl (Or.inl rfl))) (fun _ _ _ _ _ => pts_nil) (fun _ _ _ _ _ => (pcall c_l_choice hr (pa_cons (pv 0) (pa_cons (pv 1) pa_nil)))))))))), ?_⟩
  refine ⟨⟨_, rfl⟩, _, rfl, b, c, _, rfl, hb, by decide, by decide, fun r H1 r0 r1 k1 b1 => ?_⟩
  refine ⟨r, rfl, by omega, by omega, fun D hD => lc_range (fun i H2 => ∃ ys : List Str, H2 D = some (.lst (ys.map V.str)) ∧ ys.length = i ∧ (∀ y ∈ ys, PyData.strOk y = true ∧ y.length = 1) ∧ FB H H2 ∧ Bag H2 b c) ?_ ?_ ?_⟩
  · exact ⟨[], upd_same, rfl, (fun y h => by cases h), k1.then_new hD, b1.same (same_new hD)⟩
  · rintro i H2 hi ⟨ys, h2, hl, ho, k2, b2⟩
    have hcD : c ≠ D := ne_of_none b1.cells.choose_spec hD
    have hDn : H D = none := k1.fr D hD
    refine ⟨rfl, _, rfl, _, rfl, b, c, _, rfl, b2, .inr ⟨signsT, rfl, by rw [signs_len]; decide, by rw [signs_len]; decide, fun d H3 hd k3 b3 => ?_⟩⟩
    have e3 : H3 D = some (.lst (ys.map V.str)) := fb_free k3 h2 True.intro
    refine ⟨_, e3, by rw [List.length_map]; exact small1000 (by omega), ys ++ [⟨#[d]⟩], by rw [upd_same, List.map_append]; rfl, by rw [List.length_append, hl]; rfl, fun y hy => ?_, ?_, ?_⟩
    · rcases List.mem_append.mp hy with hy | hy
      · exact ho y hy
      · cases List.mem_singleton.mp hy
        exact ⟨strOk_one (signs_ok d hd), rfl⟩
    · exact (k2.trans k3).then_put hDn
    · obtain ⟨kvs, q1⟩ := b3.dict
      exact b3.put (ne_of q1 e3 (by intro z; cases z)) hcD
  · rintro H2 ⟨ys, h2, hl, ho, k2, b2⟩
    refine ⟨_, D, ys, rfl, rfl, .inl (SqL.of h2), ?_, kk _ H2 k2 b2 (strOk_tjoin ys fun y hy => (ho y hy).1)⟩
    have e : ∀ l : List Str, (∀ y ∈ l, y.length = 1) → (l.map (·.length)).sum = l.length := by
      intro l
      induction l with
      | nil => intro _; rfl
      | cons a t ih =>
        intro h
        rw [List.map_cons, List.sum_cons, h a List.mem_cons_self, ih fun y hy => h y (List.mem_cons_of_mem _ hy), List.length_cons]
        omega
    rw [e ys fun y hy => (ho y hy).2]
    show ys.length + ys.length * 0 ≤ 16777216
    omega
theorem tk_new {H : Hp} {p : Addr} (k : List Key) (ok : kok k = true) : TK (upd H p (.tup (k.map kV))) (.ref p) k := ⟨p, rfl, upd_same, ok⟩
theorem kok_i {i : Int} {k : List Key} (h : kok k = true) : kok (.inl i :: k) = true := h
theorem kok_s {z : Str} {k : List Key} (hz : PyData.strOk z = true) (h : kok k = true) : kok (.inr z :: k) = true := by
  show (PyData.strOk z && kok k) = true
  rw [hz, h]
  rfl
theorem ok_why (T : Tx K mg) (c_l_pick : Cal P w K mg base CX0 1 "_law_pick" ["_law_bag", "_law_many"] [] spPick) (c_l_word_drawn : Cal P w K mg base CX0 3 "_law_word_drawn" ["_law_bag"] [] spWord) :
    Cal P w K mg base CX0 4 "_law_why" ["_law_bag"] [] spWhy := by
  obtain ⟨fd, F⟩ := T.f_l_why
  refine ⟨_, fd, [], F.ok sc_l_why (fun vs H Q E h => ?_) (fun cdv A outer s H vs Q E hr h => ?_), T.g_l_why, F.kp, F.bindsN fun _ _ _ _ _ _ us hl => match us, hl with | [_], _ => rfl, .nil⟩
  · obtain ⟨b, c, rfl, _⟩ := h
    rfl
  obtain ⟨b, c, rfl, hb, kk⟩ := h
  have fin : ∀ (y : List Key) (H2 : Hp) (p : Addr), FB H H2 → Bag H2 b c → H2 p = none → kok y = true → y ≠ [] → Q (.ref p) (upd H2 p (.tup (y.map kV))) := fun y H2 p k2 b2 hp ok ne =>
    kk _ y _ (k2.then_new hp) (b2.same (same_new hp)) (tk_new y ok) ne
  refine ⟨_, PSs.nox ((pss_cons (ps_set (i := 1) sc_l_why.nd rfl (Or.inl rfl) (pcall c_l_pick hr (pa_cons (pv 0) (pa_cons pe_int pa_nil))))
        (pss_cons (ps_if (pt_cmpR op_eq (pv 1) pe_int (nomark _)) (pss_one (ps_ret (pe_tup (pa_cons (pcall c_l_word_drawn hr (pa_cons (pv 0) pa_nil)) pa_nil)))) pss_nil)
        (pss_cons (ps_if (pt_cmpR op_eq (pv 1) pe_int (nomark _)) (pss_one (ps_ret (pe_tup (pa_cons pe_str (pa_cons (pcall c_l_pick hr (pa_cons (pv 0) (pa_cons pe_int pa_nil))) pa_nil))))) pss_nil)
        (pss_cons (ps_if (pt_cmpR op_eq (pv 1) pe_int (nomark _)) (pss_one (ps_ret (pe_tup (pa_cons (pe_op op_sub (pcall c_l_pick hr (pa_cons (pv 0) (pa_cons pe_int pa_nil))) pe_int) (pa_cons (pcall c_l_word_drawn hr (pa_cons (pv 0) pa_nil)) (pa_cons pe_str pa_nil)))))) pss_nil)
        (pss_one (ps_ret (pe_tup (pa_cons pe_str (pa_cons (pcall c_l_word_drawn hr (pa_cons (pv 0) pa_nil)) pa_nil)))))))))), ?_⟩
  refine ⟨_, rfl, b, c, _, rfl, hb, by decide, by decide, fun r H1 r0 r1 k1 b1 => ?_⟩
  refine ⟨_, rfl, rfl, _, rfl, ite2 (fun _ => ?_) (fun _ => ?_)⟩
  · exact ⟨_, rfl, b, c, rfl, b1, fun z H2 k2 b2 oz => ⟨(show 1 ≤ sizeLine by decide), fun p hp => fin [.inr z] H2 p (k1.trans k2) b2 hp (kok_s oz rfl) (by intro z; cases z)⟩⟩
  refine ⟨_, rfl, rfl, _, rfl, ite2 (fun _ => ?_) (fun _ => ?_)⟩
  · exact ⟨_, rfl, b, c, _, rfl, b1, by decide, by decide, fun z H2 z0 z1 k2 b2 => ⟨(show 2 ≤ sizeLine by decide), fun p hp => fin [.inr "news", .inl z] H2 p (k1.trans k2) b2 hp (kok_s (by decide +kernel) rfl) (by intro z; cases z)⟩⟩
  refine ⟨_, rfl, rfl, _, rfl, ite2 (fun _ => ?_) (fun _ => ?_)⟩
  · exact ⟨_, rfl, b, c, _, rfl, b1, by decide, by decide, fun z H2 z0 z1 k2 b2 => ⟨_, _, rfl, rfl, _, rfl, b, c, rfl, b2, fun x H3 k3 b3 oz => ⟨(show 3 ≤ sizeLine by decide), fun p hp => fin [.inl (z - 4), .inr x, .inr "range"] H3 p ((k1.trans k2).trans k3) b3 hp (kok_i (kok_s oz (kok_s (by decide +kernel) rfl))) (by intro z; cases z)⟩⟩⟩
  · exact ⟨_, rfl, b, c, rfl, b1, fun x H2 k2 b2 oz => ⟨(show 2 ≤ sizeLine by decide), fun p hp => fin [.inr "range", .inr x] H2 p (k1.trans k2) b2 hp (kok_s (by decide +kernel) (kok_s oz rfl)) (by intro z; cases z)⟩⟩
end
end Ell
set_option maxHeartbeats 4000000
namespace Ell
open PySem PySem.Spec PyProof.Rows L2
/-! ### spots -/
def groundK : List Key := [.inr "ground", .inl 0, .inl 0]
def IsSp (k : List Key) : Prop := ∃ (n : Str) (i j : Int), k = [.inr n, .inl i, .inl j]
theorem ground_sp : IsSp groundK := ⟨_, _, _, rfl⟩
theorem Bag.putL {H : Hp} {b c a : Addr} {o : HO} {xs : List V} (h : Bag H b c) (e : H a = some (.lst xs)) (hc : c ≠ a) : Bag (upd H a o) b c := by
  obtain ⟨kvs, q⟩ := h.dict
  exact h.put (ne_of q e (by intro z; cases z)) hc
theorem nd_snoc' {α : Type} : ∀ {l : List α} {k : α}, l.Nodup → k ∉ l → (l ++ [k]).Nodup
  | [], k, _, _ => by simp
  | a :: r, k, h, hk => by
    obtain ⟨h1, h2⟩ := List.nodup_cons.mp h
    show (a :: (r ++ [k])).Nodup
    refine List.nodup_cons.mpr ⟨fun m => ?_, nd_snoc' h2 fun m => hk (List.mem_cons.mpr (Or.inr m))⟩
    rcases List.mem_append.mp m with q | q
    · exact h1 q
    · exact hk (List.mem_cons.mpr (Or.inl (List.mem_singleton.mp q).symm))
theorem sub_len {α : Type} [DecidableEq α] : ∀ {l m : List α}, l.Nodup → (∀ x ∈ l, x ∈ m) → l.length ≤ m.length
  | [], _, _, _ => Nat.zero_le _
  | a :: r, m, h, hs => by
    obtain ⟨h1, h2⟩ := List.nodup_cons.mp h
    have ha : a ∈ m := hs a List.mem_cons_self
    have ih := sub_len (l := r) (m := m.erase a) h2 fun x hx => (List.mem_erase_of_ne (fun e => h1 (by rw [← e]; exact hx))).mpr (hs x (List.mem_cons_of_mem _ hx))
    rw [List.length_erase_of_mem ha] at ih
    have : 0 < m.length := List.length_pos_of_mem ha
    rw [List.length_cons]
    omega
theorem nodup_map_range {α : Type} {f : Nat → α} (hf : ∀ i j, f i = f j → i = j) (n : Nat) : ((List.range n).map f).Nodup := by
  induction n with
  | zero => exact List.nodup_nil
  | succ n ih =>
    rw [List.range_succ, List.map_append]
    refine nd_snoc' ih fun m => ?_
    obtain ⟨i, hi, e⟩ := List.mem_map.mp m
    have := hf _ _ e
    have := List.mem_range.mp hi
    omega
theorem pigeon {α : Type} [DecidableEq α] {f : Nat → α} (hf : ∀ i j, f i = f j → i = j) {l : List α} {n : Nat} (h : ∀ i, i < n → f i ∈ l) : n ≤ l.length := by
  have := sub_len (nodup_map_range hf n) (m := l) fun x hx => by
    obtain ⟨i, hi, e⟩ := List.mem_map.mp hx
    rw [← e]
    exact h i (List.mem_range.mp hi)
  rw [List.length_map, List.length_range] at this
  exact this
theorem in_kD {ks : List (List Key)} {k : List Key} : ((ks.map kD).any fun z => PyData.eqv z (kD k)) = true ↔ k ∈ ks := by
  rw [List.any_eq_true]
  constructor
  · rintro ⟨z, hz, e⟩
    obtain ⟨y, hy, rfl⟩ := List.mem_map.mp hz
    rw [kD_eqv] at e
    rw [← of_decide_eq_true e]
    exact hy
  · intro h
    exact ⟨kD k, List.mem_map.mpr ⟨k, h, rfl⟩, by rw [kD_eqv]; exact decide_eq_true rfl⟩
theorem in_lD {ks : List Lk} {k : Lk} : ((ks.map lD).any fun z => PyData.eqv z (lD k)) = true ↔ k ∈ ks := by
  rw [List.any_eq_true]
  constructor
  · rintro ⟨z, hz, e⟩
    obtain ⟨y, hy, rfl⟩ := List.mem_map.mp hz
    rw [lD_eqv] at e
    rw [← of_decide_eq_true e]
    exact hy
  · intro h
    exact ⟨lD k, List.mem_map.mpr ⟨k, h, rfl⟩, by rw [lD_eqv]; exact decide_eq_true rfl⟩
/-- what the drawn spots are -/
structure SpotsAt (H : Hp) (S : Addr) (ks : List (List Key)) : Prop where
  l : ∃ xs, H S = some (.lst xs) ∧ TKs H xs ks
  nd : ks.Nodup
  g : ks[0]? = some groundK
  sp : ∀ k ∈ ks, IsSp k
theorem SpotsAt.keep {H H' : Hp} {S : Addr} {ks : List (List Key)} (h : SpotsAt H S ks) (k : ∀ o, H S = some o → H' S = some o) (t : TP H H') : SpotsAt H' S ks := by
  obtain ⟨⟨xs, e, r⟩, h2, h3, h4⟩ := h
  exact ⟨⟨xs, k _ e, tks_mono r t⟩, h2, h3, h4⟩
theorem SpotsAt.fb {H H' : Hp} {S : Addr} {ks : List (List Key)} (h : SpotsAt H S ks) (k : FB H H') : SpotsAt H' S ks := by
  obtain ⟨⟨xs, e, r⟩, h2, h3, h4⟩ := h
  exact ⟨⟨xs, fb_free k e True.intro, tks_mono r (fb_tp k)⟩, h2, h3, h4⟩
theorem SpotsAt.same {H H' : Hp} {S : Addr} {ks : List (List Key)} (h : SpotsAt H S ks) (k : Same H H') : SpotsAt H' S ks := h.keep (fun o e => k _ _ e) (same_tp k)
def spSomeSpots : Sp := fun vs H Q _ => ∃ (b c : Addr) (n : Nat), vs = [.ref b, .int (n : Nat)] ∧ Bag H b c ∧ n ≤ 10 ∧
  ∀ (S : Addr) (ks : List (List Key)) (H' : Hp), FB H H' → Bag H' b c → H S = none → SpotsAt H' S ks → ks.length = n + 1 → Q (.ref S) H'
/-- a spot that is none of these -/
def spStranger : Sp := fun vs H Q _ => ∃ (b c S : Addr) (ks : List (List Key)), vs = [.ref b, .ref S] ∧ Bag H b c ∧ SpotsAt H S ks ∧ ks.length ≤ 1000 ∧
  ∀ (v : V) (k : List Key) (H' : Hp), FB H H' → Bag H' b c → TK H' v k → IsSp k → k ∉ ks → Q v H'
theorem inc_inj {nm : Str} {a d : Int} : ∀ i j : Nat, ([.inr nm, .inl a, .inl (d + i)] : List Key) = [.inr nm, .inl a, .inl (d + j)] → i = j := fun i j e => by
  injection e with _ e
  injection e with _ e
  injection e with e _
  injection e with e
  omega
theorem inc_inj2 {nm : Str} {a d : Int} : ∀ i j : Nat, ([.inr nm, .inl (a + i), .inl d] : List Key) = [.inr nm, .inl (a + j), .inl d] → i = j := fun i j e => by
  injection e with _ e
  injection e with e _
  injection e with e
  omega
section
variable {P : Program} {w : World} {K : PySem.W.Frag} {mg : Str → Option Value} {base : Heap}
theorem ok_some_spots (T : Tx K mg) (c_l_pick : Cal P w K mg base CX0 1 "_law_pick" ["_law_bag", "_law_many"] [] spPick) (c_l_ground : Cal P w K mg base CX0 1 "_law_ground" [] [] spGround)
    (c_l_word_drawn : Cal P w K mg base CX0 3 "_law_word_drawn" ["_law_bag"] [] spWord) (c_l_whole : Cal P w K mg base CX0 2 "_law_whole" ["_law_bag"] [] spAny) :
    Cal P w K mg base CX0 4 "_law_some_spots" ["_law_bag", "_law_many"] [] spSomeSpots := by
  obtain ⟨fd, F⟩ := T.f_l_some_spots
  refine ⟨_, fd, [], F.ok sc_l_some_spots (fun vs H Q E h => ?_) (fun cdv A outer s H vs Q E hr h => ?_), T.g_l_some_spots, F.kp, F.bindsN fun _ _ _ _ _ _ us hl => match us, hl with | [_, _], _ => rfl, .nil⟩
  · obtain ⟨b, c, n, rfl, _⟩ := h
    rfl
  obtain ⟨b, c, n, rfl, hb, hn, kk⟩ := h
  have hu65 := hu65_of hr
  refine ⟨_, PSs.nox ((pss_cons (ps_set (i := 2) sc_l_some_spots.nd rfl (Or.inl rfl) (pe_lst (pa_cons (pcall0 c_l_ground hr) pa_nil)))
        (pss_cons (ps_for PassesOwn.never rfl (pi_range1 (by rfl) T.b_range (pa_cons (pv 1) pa_nil)) (pg_name (i := 3) sc_l_some_spots.nd rfl (Or.inl rfl))
          (pss_cons (ps_set (i := 4) sc_l_some_spots.nd rfl (Or.inl rfl) (pcall c_l_word_drawn hr (pa_cons (pv 0) pa_nil)))
          (pss_cons (ps_set (i := 5) sc_l_some_spots.nd rfl (Or.inl rfl) (pcall c_l_pick hr (pa_cons (pv 0) (pa_cons pe_int pa_nil))))
          (Evl.pss_cut (ps_if (pt_cmpR op_eq (pv 5) pe_int (nomark _)) (pss_one (ps_set (i := 4) sc_l_some_spots.nd rfl (Or.inl rfl) pe_str)) pss_nil)
          (Evl.pss_cut (ps_if (PW.pt (pw_or (pt_cmpR op_eq (pv 5) pe_int (nomark _)) (pw_or1 (pt_cmpR op_eq (pv 5) pe_int (nomark _))))) (pss_one (ps_set (i := 4) sc_l_some_spots.nd rfl (Or.inl rfl) (pe_ix (ix_tupK K) (pe_ix (ix_listK K) (pv 2) (pe_un un_neg pe_int) (fun _ _ => rfl)) pe_int (fun _ _ => rfl)))) pss_nil)
          (pss_cons (ps_set (i := 6) sc_l_some_spots.nd rfl (Or.inl rfl) (pe_tup (pa_cons (pv 4) (pa_cons (pcall c_l_whole hr (pa_cons (pv 0) pa_nil)) (pa_cons (pcall c_l_whole hr (pa_cons (pv 0) pa_nil)) pa_nil)))))
          (pss_cons (ps_for PassesOwn.never rfl (pi_range1 (by rfl) T.b_range (pa_cons (pe_op op_add (pv 1) pe_int) pa_nil)) (pg_name (i := 7) sc_l_some_spots.nd rfl (Or.inl rfl))
            (pss_cons (ps_if (pt_cmpR (notInDK K hu65) (pv 6) (pv 2) rfl) (pss_one ps_break) pss_nil)
            (pss_one (ps_set (i := 6) sc_l_some_spots.nd rfl (Or.inl rfl) (pe_tup (pa_cons (pv 4) (pa_cons (pe_ix (ix_tupK K) (pv 6) pe_int (fun _ _ => rfl)) (pa_cons (pe_op op_add (pe_ix (ix_tupK K) (pv 6) pe_int (fun _ _ => rfl)) pe_int) pa_nil))))))))
          (pss_one (ps_expr (bmK K PySem.F.plainAttrs_list PySem.F.slot_list_append PySem.F.type_list_append mt_append (pv 2) (pa_cons (pv 6) pa_nil)))))))))))
        (pss_one (ps_ret (pv 2)))))), ?_⟩
  refine ⟨rfl, fun p hp => ⟨(show 1 ≤ sizeLine by decide), fun S hS => ?_⟩⟩
  have hS0 : H S = none := upd_fr _ hS
  have hcS : c ≠ S := ne_of_none hb.cells.choose_spec hS0
  -- the invariant of the outer loop
  refine ⟨_, rfl, (n : Int), rfl, by omega, by omega, for_range (fun i σ H2 => ∃ (ks : List (List Key)) (o3 o4 o5 o6 o7 : Option V), σ = [some (.ref b), some (.int n), some (.ref S), o3, o4, o5, o6, o7] ∧ FB H H2 ∧ Bag H2 b c ∧ SpotsAt H2 S ks ∧ ks.length = i + 1) ?_ ?_ ?_⟩
  · refine ⟨[groundK], none, none, none, none, none, rfl, (Pres.new hp).then_new hS, (hb.same (same_new hp)).same (same_new hS), ⟨⟨_, upd_same, .cons ((tk_new groundK (by decide +kernel)).mono (new_tp hS)) .nil⟩, by simp, rfl, fun k hk => ?_⟩, rfl⟩
    cases List.mem_singleton.mp hk
    exact ground_sp
  · rintro i σ H2 hi ⟨ks, o3, o4, o5, o6, o7, rfl, k2, b2, s2, hl⟩
    refine ⟨_, rfl, b, c, rfl, b2, fun z H3 k3 b3 oz => ?_⟩
    refine ⟨_, rfl, b, c, _, rfl, b3, by decide, by decide, fun r H4 r0 r1 k4 b4 => ?_⟩
    have k24 : FB H2 H4 := k3.trans k4
    have s4 := s2.fb k24
    -- the name
    refine ⟨fun σ' H5 => H5 = H4 ∧ ∃ z : Str, PyData.strOk z = true ∧ σ' = [some (.ref b), some (.int n), some (.ref S), some (.int (0 + (i : Int))), some (.str z), some (.int r), o6, o7], ?_, ?_⟩
    · refine ⟨_, rfl, rfl, _, rfl, ite2 (fun _ => ⟨rfl, _, by decide +kernel, rfl⟩) (fun _ => ⟨rfl, _, oz, rfl⟩)⟩
    rintro σ' H5 ⟨rfl, z1, oz1, rfl⟩
    obtain ⟨⟨xs, e4, r4⟩, nd4, g4, sp4⟩ := id s4
    have hlast : ∃ (q : Addr) (nm : Str) (a d : Int), xs[xs.length - 1]? = some (.ref q) ∧ H5 q = some (.tup [.str nm, .int a, .int d]) ∧ PyData.strOk nm = true := by
      have hlen := pr_len r4
      have h1 : xs.length - 1 < xs.length := by omega
      obtain ⟨k, hk, p', hp', hq', ok'⟩ := pr_get r4 (List.getElem?_eq_getElem h1)
      obtain ⟨nm, a, d, rfl⟩ := sp4 k (List.mem_of_getElem? hk)
      refine ⟨p', nm, a, d, ?_, hq', ?_⟩
      · rw [List.getElem?_eq_getElem h1, hp']
      · have o : (PyData.strOk nm && true) = true := ok'
        rw [Bool.and_true] at o
        exact o
    refine ⟨fun σ' H6 => H6 = H5 ∧ ∃ z : Str, PyData.strOk z = true ∧ σ' = [some (.ref b), some (.int n), some (.ref S), some (.int (0 + (i : Int))), some (.str z), some (.int r), o6, o7], ?_, ?_⟩
    · have nameS : ∀ D : Ends, (∀ z : Str, PyData.strOk z = true → D.nx [some (.ref b), some (.int n), some (.ref S), some (.int (0 + (i : Int))), some (.str z), some (.int r), o6, o7] H5) →
          tAsg (tOp (rIxT K) (tOp (rIxL K) (tVar 2) (tUn (rU fun i => V.int (-i)) (tC (.int 1)))) (tC (.int 0))) (gName 4) D [some (.ref b), some (.int n), some (.ref S), some (.int (0 + (i : Int))), some (.str z1), some (.int r), o6, o7] H5 := by
        intro D hD
        obtain ⟨q, nm, a, d, h1, h2, h3⟩ := hlast
        refine ⟨_, rfl, _, rfl, S, xs, _, .ref q, rfl, rfl, SqL.of e4, ?_, q, _, _, .str nm, rfl, rfl, SqT.of h2, atI_nat (j := 0) rfl, hD nm h3⟩
        unfold atI ixN
        have hlen := pr_len r4
        rw [if_neg (by decide), if_pos (by omega)]
        show xs[((-1 : Int) + (xs.length : Int)).toNat]? = _
        rw [show ((-1 : Int) + (xs.length : Int)).toNat = xs.length - 1 by omega]
        exact h1
      refine ⟨_, rfl, rfl, _, rfl, ite2 (fun _ => ?_) (fun _ => ?_)⟩
      · exact nameS _ fun z hz => ⟨rfl, z, hz, rfl⟩
      · refine ⟨_, rfl, rfl, _, rfl, ite2 (fun _ => ?_) (fun _ => ?_)⟩
        · exact nameS _ fun z hz => ⟨rfl, z, hz, rfl⟩
        · exact ⟨rfl, _, oz1, rfl⟩
    rintro σ' H6 ⟨rfl, nm, onm, rfl⟩
    -- the spot
    refine ⟨_, rfl, _, rfl, b, c, rfl, b4, fun a H7 k7 b7 => ?_⟩
    refine ⟨_, rfl, b, c, rfl, b7, fun d H8 k8 b8 => ⟨(show 3 ≤ sizeLine by decide), fun q hq => ?_⟩⟩
    have k28 : FB H2 H8 := (k24.trans k7).trans k8
    have s9 : SpotsAt (upd H8 q (.tup [.str nm, .int a, .int d])) S ks := (s2.fb k28).same (same_new hq)
    have b9 := b8.same (same_new (o := .tup [.str nm, .int a, .int d]) hq)
    have k9 : FB H (upd H8 q (.tup [.str nm, .int a, .int d])) := (k2.trans k28).then_new hq
    -- the inner loop
    refine ⟨_, rfl, _, _, rfl, rfl, ((n : Int) + 1), rfl, by omega, by omega, for_range (fun j σ H10 => ∃ (v : V) (o7 : Option V), σ = [some (.ref b), some (.int n), some (.ref S), some (.int (0 + (i : Int))), some (.str nm), some (.int r), some v, o7] ∧ FB H H10 ∧ Bag H10 b c ∧ SpotsAt H10 S ks ∧ TK H10 v [.inr nm, .inl a, .inl (d + j)] ∧ ∀ m, m < j → ([.inr nm, .inl a, .inl (d + (m : Nat))] : List Key) ∈ ks) ?_ ?_ ?_⟩
    · refine ⟨.ref q, o7, rfl, k9, b9, s9, ?_, fun m hm => by omega⟩
      have e : ([.inr nm, .inl a, .inl (d + ((0 : Nat) : Int))] : List Key) = [.inr nm, .inl a, .inl d] := by simp
      rw [e]
      exact tk_new [.inr nm, .inl a, .inl d] (kok_s onm rfl)
    · rintro j σ H10 hj ⟨v, o7', rfl, k10, b10, s10, t10, m10⟩
      obtain ⟨xs10, e10, r10⟩ := s10.l
      refine ⟨_, rfl, _, rfl, _, _, t10.dp, tks_dp (SqL.of e10) r10, t10.sh, tks_sh r10, _, rfl, ?_⟩
      refine ite2 (fun hn => ?_) (fun hn => ?_)
      · -- break
        have nin : ([.inr nm, .inl a, .inl (d + (j : Int))] : List Key) ∉ ks := by
          intro h
          rw [in_kD.mpr h] at hn
          cases hn
        refine ⟨_, rfl, .inl ⟨rfl, _, SqL.of e10⟩, _, rfl, S, xs10, v, rfl, rfl, e10, by have := pr_len r10; exact small1000 (by omega), ?_⟩
        refine ⟨ks ++ [[.inr nm, .inl a, .inl (d + (j : Int))]], _, _, _, _, _, rfl, k10.then_put hS0, b10.putL e10 hcS, ⟨⟨_, upd_same, ?_⟩, nd_snoc' s10.nd nin, ?_, fun k hk => ?_⟩, by rw [List.length_append, hl]; rfl⟩
        · exact pr_snoc (tks_mono r10 (put_tp e10 (fun _ z => by cases z))) (t10.mono (put_tp e10 (fun _ z => by cases z)))
        · rw [List.getElem?_append_left (by omega)]
          exact s10.g
        · rcases List.mem_append.mp hk with hk | hk
          · exact s10.sp k hk
          · cases List.mem_singleton.mp hk
            exact ⟨_, _, _, rfl⟩
      · have hin : ([.inr nm, .inl a, .inl (d + (j : Int))] : List Key) ∈ ks := by
          cases hd : (ks.map kD).any fun z => PyData.eqv z (kD [.inr nm, .inl a, .inl (d + (j : Int))]) with
          | true => exact in_kD.mp hd
          | false => rw [hd] at hn; exact absurd rfl hn
        obtain ⟨q', rfl, hq', _⟩ := t10
        refine ⟨_, rfl, _, rfl, q', _, _, _, rfl, rfl, SqT.of hq', atI_nat (j := 1) rfl, _, rfl, q', _, _, _, rfl, rfl, SqT.of hq', atI_nat (j := 2) rfl, _, _, rfl, rfl, (show 3 ≤ sizeLine by decide), fun p' hp' => ?_⟩
        refine ⟨_, _, rfl, k10.then_new hp', b10.same (same_new hp'), s10.same (same_new hp'), ?_, fun m hm => ?_⟩
        · have e : d + (j : Int) + 1 = d + ((j + 1 : Nat) : Int) := by omega
          show TK (upd H10 p' (.tup [.str nm, .int a, .int (d + (j : Int) + 1)])) _ _
          rw [e]
          exact tk_new [.inr nm, .inl a, .inl (d + ((j + 1 : Nat) : Int))] (kok_s onm rfl)
        · by_cases e : m = j
          · subst e; exact hin
          · exact m10 m (by omega)
    · rintro σ H10 ⟨v, o7', rfl, k10, b10, s10, t10, m10⟩
      exfalso
      have := pigeon (f := fun m : Nat => ([.inr nm, .inl a, .inl (d + (m : Int))] : List Key)) inc_inj (l := ks) (n := n + 1) fun m hm => m10 m (by omega)
      omega
  · rintro σ H2 ⟨ks, o3, o4, o5, o6, o7, rfl, k2, b2, s2, hl⟩
    exact ⟨_, rfl, kk S ks H2 k2 b2 hS0 s2 (by omega)⟩
end
end Ell
set_option maxHeartbeats 4000000
namespace Ell
open PySem PySem.Spec PyProof.Rows L2
theorem sp_get {H : Hp} {S : Addr} {ks : List (List Key)} (h : SpotsAt H S ks) {i : Nat} (hi : i < ks.length) : ∃ (xs : List V) (q : Addr) (nm : Str) (a d : Int), H S = some (.lst xs) ∧ xs[i]? = some (.ref q) ∧ ks[i]? = some [.inr nm, .inl a, .inl d] ∧ H q = some (.tup [.str nm, .int a, .int d]) ∧ PyData.strOk nm = true := by
  obtain ⟨⟨xs, e, r⟩, nd, g, sp⟩ := h
  have hk : ks[i]? = some ks[i] := List.getElem?_eq_getElem hi
  obtain ⟨v, hv, p', hp', hq', ok'⟩ := pr_get2 r hk
  obtain ⟨nm, a, d, hs⟩ := sp ks[i] (List.getElem_mem hi)
  rw [hs] at hq' ok' hk
  refine ⟨xs, p', nm, a, d, e, by rw [hv, hp'], hk, hq', ?_⟩
  have o : (PyData.strOk nm && true) = true := ok'
  rw [Bool.and_true] at o
  exact o
section
variable {P : Program} {w : World} {K : PySem.W.Frag} {mg : Str → Option Value} {base : Heap}
theorem ok_stranger (T : Tx K mg) (c_l_choice : Cal P w K mg base CX0 2 "_law_choice" ["_law_bag", "_law_things"] [] (spChoice K)) (c_l_whole : Cal P w K mg base CX0 2 "_law_whole" ["_law_bag"] [] spAny) :
    Cal P w K mg base CX0 4 "_law_stranger" ["_law_bag", "_law_spots"] [] spStranger := by
  obtain ⟨fd, F⟩ := T.f_l_stranger
  refine ⟨_, fd, [], F.ok sc_l_stranger (fun vs H Q E h => ?_) (fun cdv A outer s H vs Q E hr h => ?_), T.g_l_stranger, F.kp, F.bindsN fun _ _ _ _ _ _ us hl => match us, hl with | [_, _], _ => rfl, .nil⟩
  · obtain ⟨b, c, S, ks, rfl, _⟩ := h
    rfl
  obtain ⟨b, c, S, ks, rfl, hb, hs, hn, kk⟩ := h
  have hu65 := hu65_of hr
  obtain ⟨xs, eS, rS⟩ := hs.l
  have hlen := pr_len rS
  have hpos : 0 < ks.length := (List.getElem?_eq_some_iff.mp hs.g).1
  refine ⟨_, PSs.nox ((pss_cons (ps_set (i := 2) sc_l_stranger.nd rfl (Or.inl rfl) (pe_tup (pa_cons (pe_ix (ix_tupK K) (pcall c_l_choice hr (pa_cons (pv 0) (pa_cons (pv 1) pa_nil))) pe_int (fun _ _ => rfl)) (pa_cons (pcall c_l_whole hr (pa_cons (pv 0) pa_nil)) (pa_cons (pcall c_l_whole hr (pa_cons (pv 0) pa_nil)) pa_nil)))))
        (pss_cons (ps_for PassesOwn.never rfl (pi_range1 (by rfl) T.b_range (pa_cons (pe_op op_add (pe_callB (call_lenK K) (by rfl) T.b_len PySem.boot_len (pa_cons (pv 1) pa_nil)) pe_int) pa_nil)) (pg_name (i := 3) sc_l_stranger.nd rfl (Or.inl rfl))
          (pss_cons (ps_if (pt_cmpR (notInDK K hu65) (pv 2) (pv 1) rfl) (pss_one ps_break) pss_nil)
          (pss_one (ps_set (i := 2) sc_l_stranger.nd rfl (Or.inl rfl) (pe_tup (pa_cons (pe_ix (ix_tupK K) (pv 2) pe_int (fun _ _ => rfl)) (pa_cons (pe_op op_add (pe_ix (ix_tupK K) (pv 2) pe_int (fun _ _ => rfl)) pe_int) (pa_cons (pe_ix (ix_tupK K) (pv 2) pe_int (fun _ _ => rfl)) pa_nil))))))))
        (pss_one (ps_ret (pv 2)))))), ?_⟩
  refine ⟨_, rfl, _, rfl, b, c, _, rfl, hb, .inl ⟨S, xs, rfl, .inl (SqL.of eS), by omega, by omega, fun i v H1 hv k1 b1 => ?_⟩⟩
  have hi : i < ks.length := by have := (List.getElem?_eq_some_iff.mp hv).1; omega
  obtain ⟨xs1, q, nm, a0, d0, e1, hq1, hk1, hq2, onm⟩ := sp_get (hs.fb k1) hi
  have ev : v = .ref q := by
    rw [fb_free k1 eS True.intro] at e1
    cases e1
    rw [hv] at hq1
    exact Option.some.inj hq1
  subst ev
  refine ⟨q, _, _, .str nm, rfl, rfl, SqT.of hq2, atI_nat (j := 0) rfl, _, rfl, b, c, rfl, b1, fun a H7 k7 b7 => ?_⟩
  refine ⟨_, rfl, b, c, rfl, b7, fun d H8 k8 b8 => ⟨(show 3 ≤ sizeLine by decide), fun q hq => ?_⟩⟩
  have k28 : FB H H8 := (k1.trans k7).trans k8
  have e8 : H8 S = some (.lst xs) := fb_free k28 eS True.intro
  refine ⟨_, rfl, _, ks.length, rfl, .inl ⟨_, SqL.of ((same_new hq) _ _ e8), hlen.symm⟩, _, _, rfl, rfl, ((ks.length : Int) + 1), rfl, by omega, by omega, for_range (fun j σ H10 => ∃ (v : V) (o7 : Option V), σ = [some (.ref b), some (.ref S), some v, o7] ∧ FB H H10 ∧ Bag H10 b c ∧ TK H10 v [.inr nm, .inl (a + j), .inl d] ∧ ∀ m, m < j → ([.inr nm, .inl (a + (m : Nat)), .inl d] : List Key) ∈ ks) ?_ ?_ ?_⟩
  · refine ⟨.ref q, none, rfl, k28.then_new hq, b8.same (same_new hq), ?_, fun m hm => by omega⟩
    have e : ([.inr nm, .inl (a + ((0 : Nat) : Int)), .inl d] : List Key) = [.inr nm, .inl a, .inl d] := by simp
    rw [e]
    exact tk_new [.inr nm, .inl a, .inl d] (kok_s onm rfl)
  · rintro j σ H10 hj ⟨v, o7', rfl, k10, b10, t10, m10⟩
    obtain ⟨xs10, e10, r10⟩ := (hs.fb k10).l
    refine ⟨_, rfl, _, rfl, _, _, t10.dp, tks_dp (SqL.of e10) r10, t10.sh, tks_sh r10, _, rfl, ?_⟩
    refine ite2 (fun hn => ?_) (fun hn => ?_)
    · have nin : ([.inr nm, .inl (a + (j : Int)), .inl d] : List Key) ∉ ks := by
        intro h
        rw [in_kD.mpr h] at hn
        cases hn
      exact ⟨_, rfl, kk v _ H10 k10 b10 t10 ⟨_, _, _, rfl⟩ nin⟩
    · have hin : ([.inr nm, .inl (a + (j : Int)), .inl d] : List Key) ∈ ks := by
        cases hd : (ks.map kD).any fun z => PyData.eqv z (kD [.inr nm, .inl (a + (j : Int)), .inl d]) with
        | true => exact in_kD.mp hd
        | false => rw [hd] at hn; exact absurd rfl hn
      obtain ⟨q', rfl, hq', _⟩ := t10
      refine ⟨_, rfl, q', _, _, _, rfl, rfl, SqT.of hq', atI_nat (j := 0) rfl, _, rfl, q', _, _, _, rfl, rfl, SqT.of hq', atI_nat (j := 1) rfl, _, _, rfl, rfl, _, rfl, q', _, _, _, rfl, rfl, SqT.of hq', atI_nat (j := 2) rfl, (show 3 ≤ sizeLine by decide), fun p' hp' => ?_⟩
      refine ⟨_, _, rfl, k10.then_new hp', b10.same (same_new hp'), ?_, fun m hm => ?_⟩
      · have e : a + (j : Int) + 1 = a + ((j + 1 : Nat) : Int) := by omega
        show TK (upd H10 p' (.tup [.str nm, .int (a + (j : Int) + 1), .int d])) _ _
        rw [e]
        exact tk_new [.inr nm, .inl (a + ((j + 1 : Nat) : Int)), .inl d] (kok_s onm rfl)
      · by_cases e : m = j
        · subst e; exact hin
        · exact m10 m (by omega)
  · rintro σ H10 ⟨v, o7', rfl, k10, b10, t10, m10⟩
    exfalso
    have := pigeon (f := fun m : Nat => ([.inr nm, .inl (a + (m : Int)), .inl d] : List Key)) inc_inj2 (l := ks) (n := ks.length + 1) fun m hm => m10 m (by omega)
    omega
end
end Ell
set_option maxHeartbeats 4000000
namespace Ell
open PySem PySem.Spec PyProof.Rows L2
/-! ### nets -/
/-- links between the spots -/
structure WF (ks : List (List Key)) (ls : List Lk) : Prop where
  a : ∀ l ∈ ls, l.a ∈ ks
  b : ∀ l ∈ ls, l.b ∈ ks
  ne : ∀ l ∈ ls, l.a ≠ l.b
  y : ∀ l ∈ ls, l.y ≠ []
/-- each spot is joined with an earlier one, both ways -/
def Tied (ks : List (List Key)) (ls : List Lk) : Prop := ∀ k, 1 ≤ k → k < ks.length →
  (∃ j l, j < k ∧ l ∈ ls ∧ ks[j]? = some l.a ∧ ks[k]? = some l.b) ∧ (∃ j l, j < k ∧ l ∈ ls ∧ ks[k]? = some l.a ∧ ks[j]? = some l.b)
theorem WF.sub {ks : List (List Key)} {ls ms : List Lk} (h : WF ks ls) (s : ∀ m ∈ ms, m ∈ ls) : WF ks ms := ⟨fun l m => h.a l (s l m), fun l m => h.b l (s l m), fun l m => h.ne l (s l m), fun l m => h.y l (s l m)⟩
theorem WF.perm {ks : List (List Key)} {ls ms : List Lk} (h : WF ks ls) (p : ls.Perm ms) : WF ks ms := h.sub fun _ m => p.mem_iff.mpr m
theorem WF.snoc {ks : List (List Key)} {ls : List Lk} {l : Lk} (h : WF ks ls) (ha : l.a ∈ ks) (hb : l.b ∈ ks) (hn : l.a ≠ l.b) (hy : l.y ≠ []) : WF ks (ls ++ [l]) := by
  refine ⟨fun m hm => ?_, fun m hm => ?_, fun m hm => ?_, fun m hm => ?_⟩ <;> rcases List.mem_append.mp hm with q | q
  · exact h.a m q
  · cases List.mem_singleton.mp q; exact ha
  · exact h.b m q
  · cases List.mem_singleton.mp q; exact hb
  · exact h.ne m q
  · cases List.mem_singleton.mp q; exact hn
  · exact h.y m q
  · cases List.mem_singleton.mp q; exact hy
theorem Tied.mono {ks : List (List Key)} {ls ms : List Lk} (h : Tied ks ls) (s : ∀ l ∈ ls, ∃ m ∈ ms, m.a = l.a ∧ m.b = l.b) : Tied ks ms := fun k h1 h2 => by
  obtain ⟨⟨j, l, q1, q2, q3, q4⟩, ⟨j', l', r1, r2, r3, r4⟩⟩ := h k h1 h2
  obtain ⟨m, m1, m2, m3⟩ := s l q2
  obtain ⟨m', m1', m2', m3'⟩ := s l' r2
  exact ⟨⟨j, m, q1, m1, by rw [m2]; exact q3, by rw [m3]; exact q4⟩, ⟨j', m', r1, m1', by rw [m2']; exact r3, by rw [m3']; exact r4⟩⟩
theorem Tied.perm {ks : List (List Key)} {ls ms : List Lk} (h : Tied ks ls) (p : ls.Perm ms) : Tied ks ms := h.mono fun l m => ⟨l, p.mem_iff.mp m, rfl, rfl⟩
theorem Tied.app {ks : List (List Key)} {ls : List Lk} (h : Tied ks ls) (ms : List Lk) : Tied ks (ls ++ ms) := h.mono fun l m => ⟨l, List.mem_append_left _ m, rfl, rfl⟩
/-- a list of links -/
def LinksAt (H : Hp) (R : Addr) (ls : List Lk) : Prop := ∃ xs, H R = some (.lst xs) ∧ LVs H xs ls
theorem LinksAt.fb {H H' : Hp} {R : Addr} {ls : List Lk} (h : LinksAt H R ls) (k : FB H H') : LinksAt H' R ls := by
  obtain ⟨xs, e, r⟩ := h
  exact ⟨xs, fb_free k e True.intro, lvs_mono r (fb_tp k)⟩
theorem LinksAt.same {H H' : Hp} {R : Addr} {ls : List Lk} (h : LinksAt H R ls) (k : Same H H') : LinksAt H' R ls := by
  obtain ⟨xs, e, r⟩ := h
  exact ⟨xs, k _ _ e, lvs_mono r (same_tp k)⟩
/-- a list of numbers -/
def IntsAt (H : Hp) (L : Addr) (n : Nat) : Prop := ∃ vs : List Int, H L = some (.lst (vs.map V.int)) ∧ vs.length = n
theorem IntsAt.fb {H H' : Hp} {L : Addr} {n : Nat} (h : IntsAt H L n) (k : FB H H') : IntsAt H' L n := by
  obtain ⟨xs, e, r⟩ := h
  exact ⟨xs, fb_free k e True.intro, r⟩
theorem IntsAt.same {H H' : Hp} {L : Addr} {n : Nat} (h : IntsAt H L n) (k : Same H H') : IntsAt H' L n := by
  obtain ⟨xs, e, r⟩ := h
  exact ⟨xs, k _ _ e, r⟩
theorem IntsAt.get {H : Hp} {L : Addr} {n i : Nat} (h : IntsAt H L n) (hi : i < n) : ∃ (xs : List V) (z : Int), H L = some (.lst xs) ∧ xs[i]? = some (.int z) := by
  obtain ⟨vs, e, r⟩ := h
  refine ⟨_, vs[i]'(by omega), e, ?_⟩
  rw [List.getElem?_map, List.getElem?_eq_getElem (by omega)]
  rfl
def spNet : Sp := fun vs H Q _ => ∃ (b c : Addr) (n : Nat), vs = [.ref b, .int (n : Nat), .int 1] ∧ Bag H b c ∧ n ≤ 10 ∧
  ∀ (p S Lv R : Addr) (ks : List (List Key)) (ls : List Lk) (H' : Hp), FB H H' → Bag H' b c → H' p = some (.tup [.ref S, .ref Lv, .ref R]) → SpotsAt H' S ks → ks.length = n + 1 → IntsAt H' Lv (n + 1) → LinksAt H' R ls → ls.length ≤ 40 → WF ks ls → Tied ks ls → Q (.ref p) H'
theorem four_ints {j : Nat} {z : Int} (h : j < 4) : ∃ y : Int, ([.int 1, .int 1, .int 1, .int z] : List V)[j]? = some (.int y) := by
  rcases j with _ | _ | _ | _ | j
  · exact ⟨_, rfl⟩
  · exact ⟨_, rfl⟩
  · exact ⟨_, rfl⟩
  · exact ⟨_, rfl⟩
  · omega
/-- a list of places below m -/
def Below (xs : List V) (m : Nat) : Prop := ∀ v ∈ xs, ∃ j : Nat, v = .int (j : Nat) ∧ j < m
def Fwd (ks : List (List Key)) (ls : List Lk) (k : Nat) : Prop := ∃ j l, j < k ∧ l ∈ ls ∧ ks[j]? = some l.a ∧ ks[k]? = some l.b
def Bwd (ks : List (List Key)) (ls : List Lk) (k : Nat) : Prop := ∃ j l, j < k ∧ l ∈ ls ∧ ks[k]? = some l.a ∧ ks[j]? = some l.b
def TiedTo (ks : List (List Key)) (ls : List Lk) (m : Nat) : Prop := ∀ k, 1 ≤ k → k ≤ m → Fwd ks ls k ∧ Bwd ks ls k
theorem Fwd.app {ks : List (List Key)} {ls ms : List Lk} {k : Nat} (h : Fwd ks ls k) : Fwd ks (ls ++ ms) k := by
  obtain ⟨j, l, h1, h2, h3⟩ := h
  exact ⟨j, l, h1, List.mem_append_left _ h2, h3⟩
theorem Bwd.app {ks : List (List Key)} {ls ms : List Lk} {k : Nat} (h : Bwd ks ls k) : Bwd ks (ls ++ ms) k := by
  obtain ⟨j, l, h1, h2, h3⟩ := h
  exact ⟨j, l, h1, List.mem_append_left _ h2, h3⟩
theorem TiedTo.app {ks : List (List Key)} {ls ms : List Lk} {k : Nat} (h : TiedTo ks ls k) : TiedTo ks (ls ++ ms) k := fun j h1 h2 => ⟨(h j h1 h2).1.app, (h j h1 h2).2.app⟩
/-- (spots[a], spots[b], levels[b] - levels[a] + slack, why) -/
def rowTE (K : PySem.W.Frag) : TE := tTup (tCons (tOp (rIxL K) (tVar 3) (tVar 12)) (tCons (tOp (rIxL K) (tVar 3) (tVar 13))
  (tCons (tOp (rI0 fun i j => V.int (i + j)) (tOp (rI0 fun i j => V.int (i - j)) (tOp (rIxL K) (tVar 5) (tVar 13)) (tOp (rIxL K) (tVar 5) (tVar 12))) (tCall spAny [] E0 (tCons (tVar 0) tNil)))
  (tCons (tCall spWhy [] E0 (tCons (tVar 0) tNil)) tNil))))
theorem row_ok {K : PySem.W.Frag} {σ : L2.St} {H : Hp} {Q : VK} {b c S Lv : Addr} {ks : List (List Key)} {n ia ib : Nat} (v0 : σ[0]? = some (some (.ref b))) (v3 : σ[3]? = some (some (.ref S))) (v5 : σ[5]? = some (some (.ref Lv)))
    (va : σ[12]? = some (some (.int (ia : Nat)))) (vb : σ[13]? = some (some (.int (ib : Nat)))) (hb : Bag H b c) (hs : SpotsAt H S ks) (hi : IntsAt H Lv n) (hk : ks.length = n) (a1 : ia < n) (b1 : ib < n)
    (q : ∀ (p : Addr) (l : Lk) (H' : Hp), FB H H' → Bag H' b c → LV H' (.ref p) l → ks[ia]? = some l.a → ks[ib]? = some l.b → l.y ≠ [] → Q (.ref p) H') : rowTE K σ H Q := by
  obtain ⟨xs, qa, na, xa, da, e1, g1, k1, t1, o1⟩ := sp_get hs (i := ia) (by omega)
  obtain ⟨xs', qb, nb, xb, db, e2, g2, k2, t2, o2⟩ := sp_get hs (i := ib) (by omega)
  rw [e1] at e2
  cases e2
  obtain ⟨lv, za, f1, z1⟩ := hi.get a1
  obtain ⟨lv', zb, f2, z2⟩ := hi.get b1
  rw [f1] at f2
  cases f2
  refine ⟨_, v3, _, va, S, xs, _, .ref qa, rfl, rfl, SqL.of e1, atI_nat g1, ?_⟩
  refine ⟨_, v3, _, vb, S, xs, _, .ref qb, rfl, rfl, SqL.of e1, atI_nat g2, ?_⟩
  refine ⟨_, v5, _, vb, Lv, lv, _, .int zb, rfl, rfl, SqL.of f1, atI_nat z2, ?_⟩
  refine ⟨_, v5, _, va, Lv, lv, _, .int za, rfl, rfl, SqL.of f1, atI_nat z1, _, _, rfl, rfl, ?_⟩
  refine ⟨_, v0, b, c, rfl, hb, fun z H1 k1' b1' => ⟨_, _, rfl, rfl, ?_⟩⟩
  refine ⟨_, v0, b, c, rfl, b1', fun v y H2 k2' b2' ty ny => ⟨(show 4 ≤ sizeLine by decide), fun p hp => ?_⟩⟩
  have k02 : FB H H2 := k1'.trans k2'
  refine q p ⟨[.inr na, .inl xa, .inl da], [.inr nb, .inl xb, .inl db], zb - za + z, y⟩ _ (k02.then_new hp) (b2'.same (same_new hp)) ⟨p, .ref qa, .ref qb, v, rfl, upd_same, ?_, ?_, ty.mono (new_tp hp)⟩ k1 k2 ny
  · exact ⟨qa, rfl, (new_tp hp) _ _ (fb_tp k02 _ _ t1), kok_s o1 rfl⟩
  · exact ⟨qb, rfl, (new_tp hp) _ _ (fb_tp k02 _ _ t2), kok_s o2 rfl⟩
theorem nd_ne {ks : List (List Key)} (h : ks.Nodup) {i j : Nat} {x y : List Key} (hi : ks[i]? = some x) (hj : ks[j]? = some y) (e : i ≠ j) : x ≠ y := fun z => by
  subst z
  exact e (nd_ix h hi hj)
section
variable {P : Program} {w : World} {K : PySem.W.Frag} {mg : Str → Option Value} {base : Heap}
theorem ok_net (T : Tx K mg) (c_l_pick : Cal P w K mg base CX0 1 "_law_pick" ["_law_bag", "_law_many"] [] spPick) (c_l_choice : Cal P w K mg base CX0 2 "_law_choice" ["_law_bag", "_law_things"] [] (spChoice K))
    (c_l_one_in : Cal P w K mg base CX0 2 "_law_one_in" ["_law_bag", "_law_many"] [] spOneIn) (c_l_shuffled : Cal P w K mg base CX0 2 "_law_shuffled" ["_law_bag", "_law_things"] [] (spShuf K))
    (c_l_slack : Cal P w K mg base CX0 2 "_law_slack" ["_law_bag"] [] spAny) (c_l_why : Cal P w K mg base CX0 4 "_law_why" ["_law_bag"] [] spWhy)
    (c_l_some_spots : Cal P w K mg base CX0 4 "_law_some_spots" ["_law_bag", "_law_many"] [] spSomeSpots) :
    Cal P w K mg base CX0 5 "_law_net" ["_law_bag", "_law_many", "_law_groups"] [] spNet := by
  obtain ⟨fd, F⟩ := T.f_l_net
  refine ⟨_, fd, [], F.ok sc_l_net (fun vs H Q E h => ?_) (fun cdv A outer s H vs Q E hr h => ?_), T.g_l_net, F.kp, F.bindsN fun _ _ _ _ _ _ us hl => match us, hl with | [_, _, _], _ => rfl, .nil⟩
  · obtain ⟨b, c, n, rfl, _⟩ := h
    rfl
  obtain ⟨b, c, n, rfl, hb, hn, kk⟩ := h
  refine ⟨_, PSs.nox ((pss_cons (ps_set (i := 3) sc_l_net.nd rfl (Or.inl rfl) (pcall c_l_some_spots hr (pa_cons (pv 0) (pa_cons (pv 1) pa_nil))))
        (pss_cons (ps_set (i := 4) sc_l_net.nd rfl (Or.inr rfl) (pe_ix (ix_listK K) (pe_lst (pa_cons pe_int (pa_cons pe_int (pa_cons pe_int (pa_cons (pe_op op_add (pe_op op_pow pe_int pe_int) pe_int) pa_nil))))) (pcall c_l_pick hr (pa_cons (pv 0) (pa_cons pe_int pa_nil))) (fun _ _ => rfl)))
        (pss_cons (ps_set (i := 5) sc_l_net.nd rfl (Or.inl rfl) (pe_op op_cat (pe_lst (pa_cons pe_int pa_nil)) (pe_lc (own := [("_law_k", 8)]) (g := gName 8) (tt := tYes) rfl sc_l_net.nd (pi_range1 (by rfl) T.b_range (pa_cons (pv 1) pa_nil)) (blkOk_by (N := N_l_net) (sc := defScope s_l_net) (by decide +kernel)) (fun _ _ _ _ _ => (pg_name (i := 8) sc_l_net.nd rfl (Or.inl rfl))) (fun _ _ _ _ _ => pts_nil) (fun _ _ _ _ _ => (pe_op op_mul (pe_op op_sub (pcall c_l_pick hr (pa_cons (pv 0) (pa_cons pe_int pa_nil))) pe_int) (pv 4))))))
        (pss_cons (ps_set (i := 6) sc_l_net.nd rfl (Or.inr rfl) (pe_op op_cat (pe_lst (pa_cons pe_int pa_nil)) (pe_lc (own := [("_law_k", 8)]) (g := gName 8) (tt := tYes) rfl sc_l_net.nd (pi_range1 (by rfl) T.b_range (pa_cons (pv 1) pa_nil)) (blkOk_by (N := N_l_net) (sc := defScope s_l_net) (by decide +kernel)) (fun _ _ _ _ _ => (pg_name (i := 8) sc_l_net.nd rfl (Or.inl rfl))) (fun _ _ _ _ _ => pts_nil) (fun _ _ _ _ _ => (pcall c_l_pick hr (pa_cons (pv 0) (pa_cons (pv 2) pa_nil)))))))
        (pss_cons (ps_set (i := 7) sc_l_net.nd rfl (Or.inl rfl) (pe_lst pa_nil))
        (pss_cons (ps_for PassesOwn.never rfl (pi_range2 (by rfl) T.b_range (pa_cons pe_int (pa_cons (pe_op op_add (pv 1) pe_int) pa_nil))) (pg_name (i := 8) sc_l_net.nd rfl (Or.inr rfl))
          (pss_cons (ps_set (i := 9) sc_l_net.nd rfl (Or.inl rfl) (pe_op op_cat (pe_lst (pa_cons pe_int pa_nil)) (pe_lc (own := [("_law_j", 16)]) (g := gName 16) rfl sc_l_net.nd (pi_range2 (by rfl) T.b_range (pa_cons pe_int (pa_cons (pv 8) pa_nil))) (blkOk_by (N := N_l_net) (sc := defScope s_l_net) (by decide +kernel)) (fun _ _ _ _ _ => (pg_name (i := 16) sc_l_net.nd rfl (Or.inl rfl))) (fun _ _ _ _ _ => (pts_one (pt_cmpR op_eq (pe_ix (ix_listK K) (pv 6) (pv 16) (fun _ _ => rfl)) (pe_ix (ix_listK K) (pv 6) (pv 8) (fun _ _ => rfl)) (nomark _)))) (fun _ _ _ _ _ => (pv 16)))))
          (pss_one (ps_for PassesOwn.never rfl (pi_range1 (by rfl) T.b_range (pa_cons pe_int pa_nil)) (pg_name (i := 10) sc_l_net.nd rfl (Or.inl rfl))
            (pss_cons (ps_set (i := 11) sc_l_net.nd rfl (Or.inl rfl) (pcall c_l_choice hr (pa_cons (pv 0) (pa_cons (pv 9) pa_nil))))
            (pss_cons (ps_set (i := 12) sc_l_net.nd rfl (Or.inr rfl) (pe_ix (ix_listK K) (pe_lst (pa_cons (pv 11) (pa_cons (pv 8) pa_nil))) (pv 10) (fun _ _ => rfl)))
            (pss_cons (ps_set (i := 13) sc_l_net.nd rfl (Or.inl rfl) (pe_ix (ix_listK K) (pe_lst (pa_cons (pv 8) (pa_cons (pv 11) pa_nil))) (pv 10) (fun _ _ => rfl)))
            (pss_one (ps_expr (bmK K PySem.F.plainAttrs_list PySem.F.slot_list_append PySem.F.type_list_append mt_append (pv 7) (pa_cons (pe_tup (pa_cons (pe_ix (ix_listK K) (pv 3) (pv 12) (fun _ _ => rfl)) (pa_cons (pe_ix (ix_listK K) (pv 3) (pv 13) (fun _ _ => rfl)) (pa_cons (pe_op op_add (pe_op op_sub (pe_ix (ix_listK K) (pv 5) (pv 13) (fun _ _ => rfl)) (pe_ix (ix_listK K) (pv 5) (pv 12) (fun _ _ => rfl))) (pcall c_l_slack hr (pa_cons (pv 0) pa_nil))) (pa_cons (pcall c_l_why hr (pa_cons (pv 0) pa_nil)) pa_nil))))) pa_nil)))))))))))
        (pss_cons (ps_for PassesOwn.never rfl (pi_range1 (by rfl) T.b_range (pa_cons (pe_callB (call_min2 rfl) (by rfl) T.b_min (by decide +kernel) (pa_cons (pcall c_l_pick hr (pa_cons (pv 0) (pa_cons pe_int pa_nil))) (pa_cons (pe_op op_mul pe_int (pv 1)) pa_nil))) pa_nil)) (pg_name (i := 14) sc_l_net.nd rfl (Or.inl rfl))
          (pss_cons (ps_set (i := 12) sc_l_net.nd rfl (Or.inr rfl) (pe_op op_add pe_int (pcall c_l_pick hr (pa_cons (pv 0) (pa_cons (pv 1) pa_nil)))))
          (pss_cons (ps_setLc (i := 9) (own := [("_law_j", 16)]) (g := gName 16) rfl sc_l_net.nd rfl rfl (sw_true rfl rfl rfl (by decide +kernel)) (pi_range1 (by rfl) T.b_range (pa_cons (pe_op op_add (pv 1) pe_int) pa_nil)) (blkOk_by (N := N_l_net) (sc := defScope s_l_net) (by decide +kernel)) (fun _ _ _ _ _ => (pg_name (i := 16) sc_l_net.nd rfl (Or.inl rfl))) (fun _ _ _ _ _ => (pts_one (PW.pt (pw_and (pt_cmpR op_ne (pv 16) (pv 12) (nomark _)) (pw_and1 (PW.pt (pw_or (pt_cmpR op_eq (pv 16) pe_int (nomark _)) (pw_or1 (pt_cmpR op_eq (pe_ix (ix_listK K) (pv 6) (pv 16) (fun _ _ => rfl)) (pe_ix (ix_listK K) (pv 6) (pv 12) (fun _ _ => rfl)) (nomark _)))))))))) (fun _ _ _ _ _ => (pv 16)))
          (pss_cons (ps_set (i := 13) sc_l_net.nd rfl (Or.inl rfl) (pcall c_l_choice hr (pa_cons (pv 0) (pa_cons (pv 9) pa_nil))))
          (Evl.pss_cut (ps_if (pt_val (pcall c_l_one_in hr (pa_cons (pv 0) (pa_cons pe_int pa_nil)))) (pss_cons (ps_set (i := 9) sc_l_net.nd rfl (Or.inl rfl) (pe_lst (pa_cons (pv 12) (pa_cons (pv 13) pa_nil))))
            (pss_cons (ps_set (i := 12) sc_l_net.nd rfl (Or.inr rfl) (pe_ix (ix_listK K) (pv 9) pe_int (fun _ _ => rfl)))
            (pss_one (ps_set (i := 13) sc_l_net.nd rfl (Or.inl rfl) (pe_ix (ix_listK K) (pv 9) pe_int (fun _ _ => rfl)))))) pss_nil)
          (pss_cons (ps_set (i := 15) sc_l_net.nd rfl (Or.inl rfl) (pe_tup (pa_cons (pe_ix (ix_listK K) (pv 3) (pv 12) (fun _ _ => rfl)) (pa_cons (pe_ix (ix_listK K) (pv 3) (pv 13) (fun _ _ => rfl)) (pa_cons (pe_op op_add (pe_op op_sub (pe_ix (ix_listK K) (pv 5) (pv 13) (fun _ _ => rfl)) (pe_ix (ix_listK K) (pv 5) (pv 12) (fun _ _ => rfl))) (pcall c_l_slack hr (pa_cons (pv 0) pa_nil))) (pa_cons (pcall c_l_why hr (pa_cons (pv 0) pa_nil)) pa_nil))))))
          (pss_cons (ps_expr (bmK K PySem.F.plainAttrs_list PySem.F.slot_list_append PySem.F.type_list_append mt_append (pv 7) (pa_cons (pv 15) pa_nil)))
          (pss_one (ps_if (pt_val (pcall c_l_one_in hr (pa_cons (pv 0) (pa_cons pe_int pa_nil)))) (pss_one (ps_expr (bmK K PySem.F.plainAttrs_list PySem.F.slot_list_append PySem.F.type_list_append mt_append (pv 7) (pa_cons (pe_tup (pa_cons (pe_ix (ix_tupK K) (pv 15) pe_int (fun _ _ => rfl)) (pa_cons (pe_ix (ix_tupK K) (pv 15) pe_int (fun _ _ => rfl)) (pa_cons (pe_op op_add (pe_ix (ix_tupK K) (pv 15) pe_int (fun _ _ => rfl)) (pcall c_l_pick hr (pa_cons (pv 0) (pa_cons pe_int pa_nil)))) (pa_cons (pcall c_l_choice hr (pa_cons (pv 0) (pa_cons (pe_lst (pa_cons (pe_ix (ix_tupK K) (pv 15) pe_int (fun _ _ => rfl)) (pa_cons (pcall c_l_why hr (pa_cons (pv 0) pa_nil)) pa_nil))) pa_nil))) pa_nil))))) pa_nil)))) pss_nil)))))))))
        (pss_one (ps_ret (pe_tup (pa_cons (pv 3) (pa_cons (pv 5) (pa_cons (pcall c_l_shuffled hr (pa_cons (pv 0) (pa_cons (pv 7) pa_nil))) pa_nil)))))))))))))), ?_⟩
  -- spots
  refine ⟨_, rfl, _, rfl, b, c, n, rfl, hb, hn, fun S ks H1 k1 b1 fS s1 hks => ?_⟩
  -- unit
  refine ⟨_, _, rfl, rfl, ⟨by decide, by decide, by decide⟩, _, _, rfl, rfl, (show 4 ≤ sizeLine by decide), fun pu hpu => ?_⟩
  refine ⟨_, rfl, b, c, _, rfl, b1.same (same_new hpu), by decide, by decide, fun r H2 r0 r1 k2 b2 => ?_⟩
  obtain ⟨ju, rfl, hju⟩ := pos_nat r0 r1
  obtain ⟨unit, hunit⟩ := four_ints (z := 10 ^ Int.toNat 24 + 7) (show ju < 4 by omega)
  refine ⟨pu, _, _, .int unit, rfl, rfl, SqL.of (fb_free k2 upd_same True.intro), atI_nat hunit, ?_⟩
  have k02 : FB H H2 := (k1.then_new hpu).trans k2
  have s2 : SpotsAt H2 S ks := (s1.same (same_new hpu)).fb k2
  -- levels
  refine ⟨(show 1 ≤ sizeLine by decide), fun q0 hq0 => ?_⟩
  have b3 := b2.same (same_new (o := .lst [.int 0]) hq0)
  refine ⟨_, rfl, (n : Int), rfl, by omega, by omega, fun D hD => lc_range (fun i H3 => ∃ vs : List Int, H3 D = some (.lst (vs.map V.int)) ∧ vs.length = i ∧ FB (upd H2 q0 (.lst [.int 0])) H3 ∧ Bag H3 b c) ⟨[], upd_same, rfl, Pres.new hD, b3.same (same_new hD)⟩ ?_ ?_⟩
  · rintro i H3 hi ⟨vs, h3, hl, k3, b3'⟩
    refine ⟨rfl, _, rfl, b, c, _, rfl, b3', by decide, by decide, fun r H4 r0 r1 k4 b4 => ?_⟩
    have e4 := fb_free k4 h3 True.intro
    refine ⟨_, _, rfl, rfl, _, rfl, _, _, rfl, rfl, .inl ⟨by omega, by omega⟩, _, e4, by rw [List.length_map]; exact small1000 (by omega), vs ++ [(r - 6) * unit], by rw [upd_same, List.map_append]; rfl, by rw [List.length_append, hl]; rfl, (k3.trans k4).then_put hD, b4.putL e4 (ne_of_none b3.cells.choose_spec hD)⟩
  rintro H3 ⟨lv, hD3, hlv, k3, b3'⟩
  have q03 : H3 q0 = some (.lst [.int 0]) := fb_free k3 upd_same True.intro
  refine ⟨q0, D, _, _, rfl, rfl, q03, hD3, by rw [List.length_map]; show 1 + lv.length ≤ sizeLine; exact sl1000 (by omega), fun Lv hLv => ?_⟩
  have k13 : FB H1 H3 := ((Pres.new hpu).trans k2).trans ((Pres.new hq0).trans k3)
  have k03 : FB H H3 := k1.trans k13
  have iLv : IntsAt (upd H3 Lv (.lst ([.int 0] ++ lv.map V.int))) Lv (n + 1) := ⟨0 :: lv, upd_same, by rw [List.length_cons, hlv]; omega⟩
  have k0L := k03.then_new (o := .lst ([.int 0] ++ lv.map V.int)) hLv
  have k1L := k13.then_new (o := .lst ([.int 0] ++ lv.map V.int)) hLv
  have bL := b3'.same (same_new (o := .lst ([.int 0] ++ lv.map V.int)) hLv)
  generalize hHL : upd H3 Lv (.lst ([.int 0] ++ lv.map V.int)) = HL at iLv k0L k1L bL ⊢
  have sL : SpotsAt HL S ks := s1.fb k1L
  -- groups
  refine ⟨(show 1 ≤ sizeLine by decide), fun q1 hq1 => ?_⟩
  have b5 := bL.same (same_new (o := .lst [.int 0]) hq1)
  refine ⟨_, rfl, (n : Int), rfl, by omega, by omega, fun D5 hD5 => lc_range (fun i H5 => ∃ vs : List Int, H5 D5 = some (.lst (vs.map V.int)) ∧ vs.length = i ∧ FB (upd HL q1 (.lst [.int 0])) H5 ∧ Bag H5 b c) ⟨[], upd_same, rfl, Pres.new hD5, b5.same (same_new hD5)⟩ ?_ ?_⟩
  · rintro i H5 hi ⟨vs, h5, hl, k5, b5'⟩
    refine ⟨rfl, _, rfl, _, rfl, b, c, _, rfl, b5', by decide, by decide, fun r H6 r0 r1 k6 b6 => ?_⟩
    have e6 := fb_free k6 h5 True.intro
    refine ⟨_, e6, by rw [List.length_map]; exact small1000 (by omega), vs ++ [r], by rw [upd_same, List.map_append]; rfl, by rw [List.length_append, hl]; rfl, (k5.trans k6).then_put hD5, b6.putL e6 (ne_of_none b5.cells.choose_spec hD5)⟩
  rintro H5 ⟨gv, hD55, hgv, k5, b5'⟩
  have q15 : H5 q1 = some (.lst [.int 0]) := fb_free k5 upd_same True.intro
  refine ⟨q1, D5, _, _, rfl, rfl, q15, hD55, by rw [List.length_map]; show 1 + gv.length ≤ sizeLine; exact sl1000 (by omega), fun Gp hGp => ?_⟩
  have iG : IntsAt (upd H5 Gp (.lst ([.int 0] ++ gv.map V.int))) Gp (n + 1) := ⟨0 :: gv, upd_same, by rw [List.length_cons, hgv]; omega⟩
  have kLG : FB HL (upd H5 Gp (.lst ([.int 0] ++ gv.map V.int))) := ((Pres.new hq1).trans k5).then_new hGp
  have bG := b5'.same (same_new (o := .lst ([.int 0] ++ gv.map V.int)) hGp)
  generalize hHG : upd H5 Gp (.lst ([.int 0] ++ gv.map V.int)) = HG at iG kLG bG ⊢
  have k0G : FB H HG := k0L.trans kLG
  have iLG : IntsAt HG Lv (n + 1) := iLv.fb kLG
  have sG : SpotsAt HG S ks := sL.fb kLG
  -- rows
  refine ⟨Nat.zero_le _, fun R hR => ?_⟩
  have fR : H R = none := k0G.fr R hR
  have hcR : c ≠ R := ne_of_none bG.cells.choose_spec hR
  have bR := bG.same (same_new (o := .lst []) hR)
  have k0R : FB H (upd HG R (.lst [])) := k0G.then_new hR
  have kR : FB HG (upd HG R (.lst [])) := Pres.new hR
  -- rows grown
  have grow : ∀ {H2 : Hp} {ls : List Lk} {p : Addr} {l : Lk}, FB HG H2 → Bag H2 b c → LinksAt H2 R ls → LV H2 (.ref p) l → ls.length ≤ 1000 → ∃ xs, H2 R = some (.lst xs) ∧ xs.length < sizeLine ∧ FB HG (upd H2 R (.lst (xs ++ [.ref p]))) ∧ Bag (upd H2 R (.lst (xs ++ [.ref p]))) b c ∧ LinksAt (upd H2 R (.lst (xs ++ [.ref p]))) R (ls ++ [l]) := by
    intro H2 ls p l k2 b2 hl hv hn
    obtain ⟨xs, e, r⟩ := hl
    have tp : TP H2 (upd H2 R (.lst (xs ++ [.ref p]))) := put_tp e (fun _ z => by cases z)
    exact ⟨xs, e, small1000 (by rw [pr_len r]; exact hn), k2.then_put hR, b2.putL e hcR, _, upd_same, pr_snoc (lvs_mono r tp) (hv.mono tp)⟩
  -- the first loop
  refine ⟨_, rfl, _, _, rfl, rfl, 1, ((n : Int) + 1), rfl, ⟨by omega, by omega, by omega, by omega⟩, for_range (fun i σ H2 => ∃ (o8 o9 o10 o11 o12 o13 o14 o15 o16 : Option V) (ls : List Lk),
    σ = [some (.ref b), some (.int n), some (.int 1), some (.ref S), some (.int unit), some (.ref Lv), some (.ref Gp), some (.ref R), o8, o9, o10, o11, o12, o13, o14, o15, o16] ∧
    FB HG H2 ∧ Bag H2 b c ∧ LinksAt H2 R ls ∧ ls.length = 2 * i ∧ WF ks ls ∧ TiedTo ks ls i) ?_ ?_ ?_⟩
  · exact ⟨none, none, none, none, none, none, none, none, none, [], rfl, kR, bR, ⟨[], upd_same, .nil⟩, rfl, ⟨fun l m => (by cases m), fun l m => (by cases m), fun l m => (by cases m), fun l m => (by cases m)⟩, fun k h1 h2 => by omega⟩
  · rintro i σ H2 hi ⟨o8, o9, o10, o11, o12, o13, o14, o15, o16, ls, rfl, k2', b2', l2, hn2, w2, t2⟩
    have hin : i < n := by omega
    -- near
    refine ⟨(show 1 ≤ sizeLine by decide), fun q2 hq2 => ?_⟩
    have b6 := b2'.same (same_new (o := .lst [.int 0]) hq2)
    have iG6 : IntsAt (upd H2 q2 (.lst [.int 0])) Gp (n + 1) := (iG.fb k2').same (same_new hq2)
    obtain ⟨gs, eg, lg⟩ := iG6
    refine ⟨_, rfl, 1, ((1 : Int) + (i : Int)), rfl, ⟨by omega, by omega, by omega, by omega⟩, fun D6 hD6 => lc_range (fun j H6 => ∃ acc : List V, H6 D6 = some (.lst acc) ∧ acc.length ≤ j ∧ Below acc (i + 1) ∧ Same (upd H2 q2 (.lst [.int 0])) H6) ⟨[], upd_same, Nat.le_refl _, fun v hv => (by cases hv), same_new hD6⟩ ?_ ?_⟩
    · rintro j H6 hj ⟨acc, h6, hl6, hb6, k6⟩
      have eg6 := k6 _ _ eg
      have hj1 : j + 1 < gs.length := by omega
      have hi1 : i + 1 < gs.length := by omega
      refine ⟨rfl, _, rfl, _, rfl, Gp, _, _, .int gs[j + 1], rfl, rfl, SqL.of eg6, at_of (j := j + 1) (by omega) (by rw [List.getElem?_map, List.getElem?_eq_getElem hj1]; rfl), _, rfl, _, rfl, Gp, _, _, .int gs[i + 1], rfl, rfl, SqL.of eg6, at_of (j := i + 1) (by omega) (by rw [List.getElem?_map, List.getElem?_eq_getElem hi1]; rfl), rfl, _, rfl, ?_⟩
      refine ite2 (fun _ => ?_) (fun _ => ⟨acc, h6, by omega, hb6, k6⟩)
      refine ⟨_, rfl, acc, h6, small1000 (by omega), acc ++ [.int (1 + (j : Int))], upd_same, by rw [List.length_append]; exact Nat.succ_le_succ hl6, fun v hv => ?_, fun cc o e => ?_⟩
      · rcases List.mem_append.mp hv with h | h
        · exact hb6 v h
        · cases List.mem_singleton.mp h
          exact ⟨j + 1, by congr 1; omega, by omega⟩
      · rw [upd_ne (ne_of_none e hD6)]
        exact k6 _ _ e
    rintro H6 ⟨acc, h6, hl6, hb6, k6⟩
    have q26 : H6 q2 = some (.lst [.int 0]) := k6 _ _ upd_same
    refine ⟨q2, D6, _, _, rfl, rfl, q26, h6, sl1000 (show 1 + acc.length ≤ 1000 by omega), fun Nr hNr => ?_⟩
    have near : Below ([.int 0] ++ acc) (i + 1) := fun v hv => by
      rcases List.mem_append.mp hv with h | h
      · cases List.mem_singleton.mp h
        exact ⟨0, rfl, by omega⟩
      · exact hb6 v h
    have s27 : Same H2 (upd H6 Nr (.lst ([.int 0] ++ acc))) := ((same_new hq2).trans k6).trans (same_new hNr)
    have k7 : FB HG (upd H6 Nr (.lst ([.int 0] ++ acc))) := k2'.trans (Pres.same s27)
    have fNr : H2 Nr = none := ((same_new hq2).trans k6).free hNr
    -- both ways
    refine ⟨2, rfl, by decide, by decide, for_range (n := 2) (fun j σ H8 => ∃ (o10 o11 o12 o13 o14 o15 o16 : Option V) (ls : List Lk),
      σ = [some (.ref b), some (.int n), some (.int 1), some (.ref S), some (.int unit), some (.ref Lv), some (.ref Gp), some (.ref R), some (.int (1 + (i : Int))), some (.ref Nr), o10, o11, o12, o13, o14, o15, o16] ∧
      FB HG H8 ∧ Bag H8 b c ∧ H8 Nr = some (.lst ([.int 0] ++ acc)) ∧ Nr ≠ R ∧ LinksAt H8 R ls ∧ ls.length = 2 * i + j ∧ WF ks ls ∧ TiedTo ks ls i ∧ (1 ≤ j → Fwd ks ls (i + 1)) ∧ (2 ≤ j → Bwd ks ls (i + 1))) ?_ ?_ ?_⟩
    · obtain ⟨xs, eR, rR⟩ := l2
      have nNR : Nr ≠ R := (ne_of_none eR fNr).symm
      exact ⟨o10, o11, o12, o13, o14, o15, o16, ls, rfl, k7, b2'.same s27, upd_same, nNR, ⟨xs, s27 _ _ eR, lvs_mono rR (same_tp s27)⟩, hn2, w2, t2, fun h => by omega, fun h => by omega⟩
    · rintro j σ H8 hj ⟨o10, o11, o12, o13, o14, o15, o16, ls, rfl, k8, b8, hNr8, nNR, l8, hn8, w8, t8, f8, g8⟩
      refine ⟨_, rfl, _, rfl, b, c, _, rfl, b8, .inl ⟨Nr, _, rfl, .inl (SqL.of hNr8), by rw [List.length_append]; exact Nat.le_add_right 1 _, by rw [List.length_append]; show 1 + acc.length ≤ 1000; omega, fun iv v H9 hv k9 b9 => ?_⟩⟩
      obtain ⟨jo, rfl, hjo⟩ := near v (List.mem_of_getElem? hv)
      have ei : some (some (V.int (1 + (i : Int)))) = some (some (V.int ((i + 1 : Nat) : Int))) := congrArg (fun z => some (some (V.int z))) (by omega)
      have l9 := l8.fb k9
      have n9 : H9 Nr = some (.lst ([.int 0] ++ acc)) := fb_free k9 hNr8 True.intro
      refine ⟨_, rfl, _, rfl, (show 2 ≤ sizeLine by decide), fun pa hpa => ?_⟩
      -- a row put in
      have fin : ∀ (H10 : Hp) (ia ib : Nat) (σ : L2.St) (Q' : VK), Same H9 H10 → σ[0]? = some (some (.ref b)) → σ[3]? = some (some (.ref S)) → σ[5]? = some (some (.ref Lv)) → σ[12]? = some (some (.int (ia : Nat))) → σ[13]? = some (some (.int (ib : Nat))) →
          ia < n + 1 → ib < n + 1 → ia ≠ ib → (∀ (p : Addr) (H' : Hp) (l : Lk) (xs : List V), ks[ia]? = some l.a → ks[ib]? = some l.b → H' R = some (.lst xs) → xs.length < sizeLine → FB HG (upd H' R (.lst (xs ++ [.ref p]))) → Bag (upd H' R (.lst (xs ++ [.ref p]))) b c →
            (upd H' R (.lst (xs ++ [.ref p]))) Nr = some (.lst ([.int 0] ++ acc)) → LinksAt (upd H' R (.lst (xs ++ [.ref p]))) R (ls ++ [l]) → WF ks (ls ++ [l]) → Q' (.ref p) H') → rowTE K σ H10 Q' := by
        intro H10 ia ib σ Q' s10 v0 v3 v5 va vb a1 b1 hne q
        have k10 : FB HG H10 := (k8.trans k9).trans (Pres.same s10)
        refine row_ok v0 v3 v5 va vb (b9.same s10) (sG.fb k10) (iLG.fb k10) hks a1 b1 fun p l H' k b' lv e1 e2 ny => ?_
        obtain ⟨xs, e, sm, kk1, bb1, ll1⟩ := grow (k10.trans k) b' ((l9.same s10).fb k) lv (by omega)
        refine q p H' l xs e1 e2 e sm kk1 bb1 ?_ ll1 (w8.snoc (List.mem_of_getElem? e1) (List.mem_of_getElem? e2) (nd_ne s1.nd e1 e2 hne) ny)
        rw [upd_ne nNR]
        exact fb_free k (s10 _ _ n9) True.intro
      obtain rfl | rfl : j = 0 ∨ j = 1 := by omega
      · refine ⟨_, rfl, pa, _, _, .int (jo : Nat), rfl, rfl, SqL.of upd_same, at_of (j := 0) (by omega) rfl, ?_⟩
        refine ⟨_, rfl, _, rfl, (show 2 ≤ sizeLine by decide), fun pb hpb => ⟨_, rfl, pb, _, _, .int (1 + (i : Int)), rfl, rfl, SqL.of upd_same, at_of (j := 0) (by omega) rfl, ?_⟩⟩
        have s11 := (same_new (o := .lst [.int jo, .int (1 + (i : Int))]) hpa).trans (same_new (o := .lst [.int (1 + (i : Int)), .int jo]) hpb)
        obtain ⟨xs, eR, rR⟩ := l9.same s11
        refine ⟨_, rfl, .inl ⟨rfl, _, SqL.of eR⟩, ?_⟩
        refine fin _ jo (i + 1) _ _ s11 rfl rfl rfl rfl ei (by omega) (by omega) (by omega) fun p H' l xs e1 e2 e sm k b' nr ll w => ?_
        refine ⟨R, xs, .ref p, rfl, rfl, e, sm, _, _, _, _, _, _, _, _, rfl, k, b', nr, nNR, ll, by rw [List.length_append]; exact congrArg Nat.succ hn8, w, t8.app, fun _ => ⟨jo, l, hjo, List.mem_append_right _ (List.mem_singleton.mpr rfl), e1, e2⟩, fun h => absurd h (by omega)⟩
      · refine ⟨_, rfl, pa, _, _, .int (1 + (i : Int)), rfl, rfl, SqL.of upd_same, at_of (j := 1) (by omega) rfl, ?_⟩
        refine ⟨_, rfl, _, rfl, (show 2 ≤ sizeLine by decide), fun pb hpb => ⟨_, rfl, pb, _, _, .int (jo : Nat), rfl, rfl, SqL.of upd_same, at_of (j := 1) (by omega) rfl, ?_⟩⟩
        have s11 := (same_new (o := .lst [.int jo, .int (1 + (i : Int))]) hpa).trans (same_new (o := .lst [.int (1 + (i : Int)), .int jo]) hpb)
        obtain ⟨xs, eR, rR⟩ := l9.same s11
        refine ⟨_, rfl, .inl ⟨rfl, _, SqL.of eR⟩, ?_⟩
        refine fin _ (i + 1) jo _ _ s11 rfl rfl rfl ei rfl (by omega) (by omega) (by omega) fun p H' l xs e1 e2 e sm k b' nr ll w => ?_
        refine ⟨R, xs, .ref p, rfl, rfl, e, sm, _, _, _, _, _, _, _, _, rfl, k, b', nr, nNR, ll, by rw [List.length_append]; exact congrArg Nat.succ hn8, w, t8.app, fun _ => (f8 (by omega)).app, fun _ => ⟨jo, l, hjo, List.mem_append_right _ (List.mem_singleton.mpr rfl), e1, e2⟩⟩
    · rintro σ H8 ⟨o10, o11, o12, o13, o14, o15, o16, ls, rfl, k8, b8, hNr8, nNR, l8, hn8, w8, t8, f8, g8⟩
      refine ⟨_, _, _, _, _, _, _, _, _, ls, rfl, k8, b8, l8, by omega, w8, fun k h1 h2 => ?_⟩
      by_cases e : k = i + 1
      · subst e
        exact ⟨f8 (by omega), g8 (by omega)⟩
      · exact t8 k h1 (by omega)
  · rintro σ H2 ⟨o8, o9, o10, o11, o12, o13, o14, o15, o16, ls, rfl, k2', b2', l2, hn2, w2, t2⟩
    have en : ((n : Int) + 1 - 1).toNat = n := by omega
    rw [en] at hn2 t2
    -- the second loop
    refine ⟨_, rfl, b, c, _, rfl, b2', by decide, by decide, fun r H3 r0 r1 k3 b3 => ⟨_, rfl, _, _, rfl, rfl, ?_⟩⟩
    refine ⟨.inl ⟨by decide, by decide⟩, _, _, rfl, ?_⟩
    have hm : (if (4 : Int) * (n : Int) < r then (4 : Int) * (n : Int) else r) ≤ 4 * (n : Int) ∧ (if (4 : Int) * (n : Int) < r then (4 : Int) * (n : Int) else r) ≤ 10 ∧ 0 ≤ (if (4 : Int) * (n : Int) < r then (4 : Int) * (n : Int) else r) := by
      split <;> omega
    generalize hM : (if (4 : Int) * (n : Int) < r then (4 : Int) * (n : Int) else r) = M at hm ⊢
    obtain ⟨M1, M2, M0⟩ := hm
    refine ⟨M, rfl, by omega, by omega, for_range (fun i σ H2 => ∃ (o8 o9 o10 o11 o12 o13 o14 o15 o16 : Option V) (ls : List Lk),
      σ = [some (.ref b), some (.int n), some (.int 1), some (.ref S), some (.int unit), some (.ref Lv), some (.ref Gp), some (.ref R), o8, o9, o10, o11, o12, o13, o14, o15, o16] ∧
      FB HG H2 ∧ Bag H2 b c ∧ LinksAt H2 R ls ∧ ls.length ≤ 2 * n + 2 * i ∧ WF ks ls ∧ TiedTo ks ls n) ?_ ?_ ?_⟩
    · exact ⟨o8, o9, o10, o11, o12, o13, o14, o15, o16, ls, rfl, k2'.trans k3, b3, l2.fb k3, by omega, w2, t2⟩
    · clear l2 hn2 w2 t2 k2' b2' k3 b3
      rintro i σ H4 hi ⟨o8, o9, o10, o11, o12, o13, o14, o15, o16, ls, rfl, k4, b4, l4, hn4, w4, t4⟩
      -- a
      refine ⟨_, rfl, _, rfl, b, c, _, rfl, b4, by omega, by omega, fun ra H5 ra0 ra1 k5 b5 => ⟨_, _, rfl, rfl, ?_⟩⟩
      obtain ⟨ia, ea, ia0, ia1⟩ : ∃ ia : Nat, 1 + ra = (ia : Int) ∧ 1 ≤ ia ∧ ia ≤ n := ⟨(1 + ra).toNat, by omega, by omega, by omega⟩
      have ea' : V.int (1 + ra) = V.int (ia : Nat) := congrArg V.int ea
      -- near
      obtain ⟨gs, eg, lg⟩ := iG.fb (k4.trans k5)
      have k45 : FB HG H5 := k4.trans k5
      refine ⟨_, rfl, _, _, rfl, rfl, _, rfl, by omega, by omega, fun D hD => lc_range (fun j H6 => ∃ acc : List V, H6 D = some (.lst acc) ∧ acc.length ≤ j ∧ (1 ≤ j → acc ≠ []) ∧ (∀ v ∈ acc, ∃ j : Nat, v = .int (j : Nat) ∧ j < n + 1 ∧ j ≠ ia) ∧ Same H5 H6) ⟨[], upd_same, Nat.le_refl _, fun h => by omega, fun v hv => (by cases hv), same_new hD⟩ ?_ ?_⟩
      · rintro j H6 hj ⟨acc, h6, hl6, hn6, hb6, k6⟩
        have eg6 := k6 _ _ eg
        have hj1 : j < gs.length := by omega
        have hi1 : ia < gs.length := by omega
        have put : j ≠ ia → ∃ acc' : List V, upd H6 D (.lst (acc ++ [.int (0 + (j : Int))])) D = some (.lst acc') ∧ acc'.length ≤ j + 1 ∧ (1 ≤ j + 1 → acc' ≠ []) ∧ (∀ v ∈ acc', ∃ j : Nat, v = .int (j : Nat) ∧ j < n + 1 ∧ j ≠ ia) ∧ Same H5 (upd H6 D (.lst (acc ++ [.int (0 + (j : Int))]))) := fun ne => by
          refine ⟨acc ++ [.int (0 + (j : Int))], upd_same, by rw [List.length_append]; exact Nat.succ_le_succ hl6, fun _ z => ?_, fun v hv => ?_, fun cc o e => ?_⟩
          · have := congrArg List.length z
            rw [List.length_append] at this
            cases this
          · rcases List.mem_append.mp hv with h | h
            · exact hb6 v h
            · cases List.mem_singleton.mp h
              exact ⟨j, by congr 1; omega, by omega, ne⟩
          · rw [upd_ne (ne_of_none e hD)]
            exact k6 _ _ e
        refine ⟨rfl, _, rfl, _, rfl, rfl, _, rfl, ?_⟩
        refine ite2 (fun hne => ?_) (fun hne => ⟨acc, h6, by omega, fun _ => hn6 ?_, hb6, k6⟩)
        · have ne : j ≠ ia := by
            intro z
            have e : V.int (0 + (j : Int)) = V.int (1 + ra) := congrArg V.int (by omega)
            have hne' : (!decide (V.int (0 + (j : Int)) = V.int (1 + ra))) = true := hne
            rw [decide_eq_true e] at hne'
            cases hne'
          refine ⟨_, rfl, rfl, _, rfl, ite2 (fun _ => ?_) (fun hz => ?_)⟩
          · exact ⟨_, rfl, acc, h6, small1000 (by omega), put ne⟩
          · refine ⟨_, rfl, _, rfl, Gp, _, _, .int gs[j], rfl, rfl, SqL.of eg6, at_of (j := j) (by omega) (by rw [List.getElem?_map, List.getElem?_eq_getElem hj1]; rfl), _, rfl, _, rfl, Gp, _, _, .int gs[ia], rfl, rfl, SqL.of eg6, at_of (j := ia) (by omega) (by rw [List.getElem?_map, List.getElem?_eq_getElem hi1]; rfl), rfl, _, rfl, ?_⟩
            have j1 : 1 ≤ j := Nat.pos_of_ne_zero fun z => hz (by subst z; exact decide_eq_true rfl)
            exact ite2 (fun _ => ⟨_, rfl, acc, h6, small1000 (by omega), put ne⟩) (fun _ => ⟨acc, h6, by omega, fun _ => hn6 j1, hb6, k6⟩)
        · refine Nat.pos_of_ne_zero fun z => hne ?_
          subst z
          show (!decide (V.int (0 + ((0 : Nat) : Int)) = V.int (1 + ra))) = true
          rw [decide_eq_false (fun e => by injection e with e; omega)]
          rfl
      rintro H6 ⟨acc, h6, hl6, hn6, hb6, k6⟩
      -- b
      have b6 := b5.same k6
      refine ⟨_, rfl, _, rfl, b, c, _, rfl, b6, .inl ⟨D, _, rfl, .inl (SqL.of h6), ?_, ?_, fun iv v H7 hv k7 b7 => ?_⟩⟩
      · have := hn6 (by omega)
        exact List.length_pos_iff.mpr this
      · omega
      obtain ⟨ib, rfl, hib, neb⟩ := hb6 v (List.mem_of_getElem? hv)
      have k37 : FB HG H7 := (k45.trans (Pres.same k6)).trans k7
      -- swapped, perhaps
      refine ⟨fun σ' H8 => ∃ (o8 o9 : Option V) (o10 o11 o14 o15 o16 : Option V) (za zb : Int) (ja jb : Nat), σ' = [some (.ref b), some (.int n), some (.int 1), some (.ref S), some (.int unit), some (.ref Lv), some (.ref Gp), some (.ref R), o8, o9, o10, o11, some (.int za), some (.int zb), o14, o15, o16] ∧ za = (ja : Int) ∧ zb = (jb : Int) ∧
        ja < n + 1 ∧ jb < n + 1 ∧ ja ≠ jb ∧ FB H4 H8 ∧ Bag H8 b c, ?_, ?_⟩
      · refine ⟨_, rfl, b, c, _, rfl, b7, by decide, by decide, fun d H8 k8 b8 => ⟨_, rfl, ite2 (fun _ => ?_) (fun _ => ?_)⟩⟩
        · refine ⟨_, rfl, _, rfl, (show 2 ≤ sizeLine by decide), fun pn hpn => ?_⟩
          refine ⟨_, rfl, pn, _, _, .int (ib : Nat), rfl, rfl, SqL.of upd_same, at_of (j := 1) (by omega) rfl, ?_⟩
          refine ⟨_, rfl, pn, _, _, .int (1 + ra), rfl, rfl, SqL.of upd_same, at_of (j := 0) (by omega) rfl, ?_⟩
          exact ⟨_, _, _, _, _, _, _, _, _, ib, ia, rfl, rfl, ea, hib, by omega, neb, (((k5.trans (Pres.same k6)).trans k7).trans k8).then_new hpn, b8.same (same_new hpn)⟩
        · exact ⟨_, _, _, _, _, _, _, _, _, ia, ib, rfl, ea, rfl, by omega, hib, fun e => neb e.symm, ((k5.trans (Pres.same k6)).trans k7).trans k8, b8⟩
      rintro σ' H8 ⟨o8, o9, o10, o11, o14, o15, o16, _, _, ja, jb, rfl, rfl, rfl, hja, hjb, hjj, k8, b8⟩
      have k08 : FB HG H8 := k4.trans k8
      have l8 := l4.fb k8
      -- the link
      refine row_ok (K := K) rfl rfl rfl rfl rfl b8 (sG.fb k08) (iLG.fb k08) hks hja hjb fun p l H9 k9 b9 v9 e1 e2 ny => ?_
      obtain ⟨xs, e9, sm, kk9, bb9, ll9⟩ := grow (k08.trans k9) b9 (l8.fb k9) v9 (by omega)
      refine ⟨_, rfl, .inl ⟨rfl, _, SqL.of e9⟩, _, rfl, R, xs, .ref p, rfl, rfl, e9, sm, ?_⟩
      have w9 : WF ks (ls ++ [l]) := w4.snoc (List.mem_of_getElem? e1) (List.mem_of_getElem? e2) (nd_ne s1.nd e1 e2 hjj) ny
      refine ⟨_, rfl, b, c, _, rfl, bb9, by decide, by decide, fun d H10 k10 b10 => ⟨_, rfl, ite2 (fun _ => ?_) (fun _ => ?_)⟩⟩
      · obtain ⟨p', x, y, z, ep, q9, ha, hb', hy⟩ := v9.mono (put_tp (u := .lst (xs ++ [.ref p])) e9 (fun _ z => by cases z))
        cases ep
        have q10 := fb_free k10 q9 True.intro
        obtain ⟨xs10, e10, r10⟩ := ll9.fb k10
        refine ⟨_, rfl, .inl ⟨rfl, _, SqL.of e10⟩, _, rfl, p, _, _, _, rfl, rfl, SqT.of q10, atI_nat (j := 0) rfl, _, rfl, p, _, _, _, rfl, rfl, SqT.of q10, atI_nat (j := 1) rfl, _, rfl, p, _, _, _, rfl, rfl, SqT.of q10, atI_nat (j := 2) rfl, _, rfl, b, c, _, rfl, b10, by decide, by decide, fun r2 H11 _ _ k11 b11 => ⟨_, _, rfl, rfl, ?_⟩⟩
        have q11 := fb_free k11 q10 True.intro
        refine ⟨_, rfl, _, rfl, p, _, _, _, rfl, rfl, SqT.of q11, atI_nat (j := 3) rfl, _, rfl, b, c, rfl, b11, fun v2 y2 H12 k12 b12 ty2 ny2 => ⟨(show 2 ≤ sizeLine by decide), fun q hq => ?_⟩⟩
        refine ⟨b, c, _, rfl, b12.same (same_new hq), .inl ⟨q, _, rfl, .inl (SqL.of upd_same), (show 1 ≤ 2 by decide), (show 2 ≤ 1000 by decide), fun iv v' H13 hv k13 b13 => ⟨(show 4 ≤ sizeLine by decide), fun p2 hp2 => ?_⟩⟩⟩
        have kk13 : FB HG H13 := ((((kk9.trans k10).trans k11).trans k12).then_new hq).trans k13
        have kz : FB (upd H9 R (.lst (xs ++ [.ref p]))) H13 := (((k10.trans k11).trans k12).then_new hq).trans k13
        have ty' : ∃ y', TK H13 v' y' ∧ y' ≠ [] := by
          rcases iv with _ | _ | iv
          · cases hv
            exact ⟨_, hy.mono (fb_tp kz), ny⟩
          · cases hv
            exact ⟨_, (ty2.mono (new_tp hq)).mono (fb_tp k13), ny2⟩
          · cases hv
        obtain ⟨y', ty', ny'⟩ := ty'
        have sn := same_new (o := .tup [x, y, .int (l.w + r2), v']) hp2
        have v14 : LV (upd H13 p2 (.tup [x, y, .int (l.w + r2), v'])) (.ref p2) ⟨l.a, l.b, l.w + r2, y'⟩ := ⟨p2, x, y, v', rfl, upd_same, (ha.mono (fb_tp kz)).mono (same_tp sn), (hb'.mono (fb_tp kz)).mono (same_tp sn), ty'.mono (same_tp sn)⟩
        obtain ⟨xs14, e14, sm14, kk14, bb14, ll14⟩ := grow (kk13.then_new hp2) (b13.same sn) ((ll9.fb kz).same sn) v14 (by rw [List.length_append]; show ls.length + 1 ≤ 1000; omega)
        exact ⟨R, xs14, .ref p2, rfl, rfl, e14, sm14, _, _, _, _, _, _, _, _, _, ls ++ [l] ++ [⟨l.a, l.b, l.w + r2, y'⟩], rfl, kk14, bb14, ll14, by rw [List.length_append, List.length_append]; show ls.length + 1 + 1 ≤ _; omega, w9.snoc (List.mem_of_getElem? e1) (List.mem_of_getElem? e2) (nd_ne s1.nd e1 e2 hjj) ny', t4.app.app⟩
      · exact ⟨_, _, _, _, _, _, _, _, _, ls ++ [l], rfl, kk9.trans k10, b10, ll9.fb k10, by rw [List.length_append]; show ls.length + 1 ≤ _; omega, w9, t4.app⟩
    · rintro σ H4 ⟨o8, o9, o10, o11, o12, o13, o14, o15, o16, ls, rfl, k4, b4, l4, hn4, w4, t4⟩
      obtain ⟨xs, eR, rR⟩ := l4
      refine ⟨_, rfl, _, rfl, _, rfl, _, rfl, b, c, R, xs, rfl, b4, SqL.of eR, by have := pr_len rR; omega, fun q ys H5 k5 b5 fq eq pq => ⟨(show 3 ≤ sizeLine by decide), fun p hp => ?_⟩⟩
      obtain ⟨ls', pl, rl⟩ := pr_perm pq rR
      have sn := same_new (o := .tup [.ref S, .ref Lv, .ref q]) hp
      have k0 : FB HG H5 := k4.trans k5
      refine kk p S Lv q ks ls' _ ((k0G.trans k0).then_new hp) (b5.same sn) upd_same ((sG.fb k0).same sn) hks ((iLG.fb k0).same sn) ⟨ys, sn _ _ eq, lvs_mono (lvs_mono rl (fb_tp k5)) (same_tp sn)⟩ (by rw [← pl.length_eq]; omega) (w4.perm pl) ?_
      refine Tied.perm (fun k h1 h2 => ?_) pl
      exact t4 k h1 (by omega)
end
end Ell
set_option maxHeartbeats 4000000
namespace Ell
open PySem PySem.Spec PyProof.Rows L2
/-! ### arcs, as pairs of places -/

/-- an arc stands for a link -/
def ArcOf (ks : List (List Key)) (l : Lk) (a : Arc) : Prop := ks[a.1]? = some l.a ∧ ks[a.2.1]? = some l.b ∧ a.2.2 = l.w
abbrev Arcs (ks : List (List Key)) : List Lk → List Arc → Prop := Paired (ArcOf ks)
theorem arcs_of {ks : List (List Key)} : ∀ {ls : List Lk}, WF ks ls → ∃ as, Arcs ks ls as
  | [], _ => ⟨[], .nil⟩
  | l :: r, h => by
    obtain ⟨as, ha⟩ := arcs_of (ls := r) (h.sub fun m hm => List.mem_cons_of_mem _ hm)
    obtain ⟨i, hi⟩ := List.mem_iff_getElem?.mp (h.a l List.mem_cons_self)
    obtain ⟨j, hj⟩ := List.mem_iff_getElem?.mp (h.b l List.mem_cons_self)
    exact ⟨(i, j, l.w) :: as, .cons ⟨hi, hj, rfl⟩ ha⟩
/-- a tuple of two places and a bound -/
def AV (H : Hp) (v : V) (a : Arc) : Prop := ∃ p, v = .ref p ∧ H p = some (.tup [.int (a.1 : Nat), .int (a.2.1 : Nat), .int a.2.2])
abbrev AVs (H : Hp) : List V → List Arc → Prop := Paired (AV H)
theorem AV.mono {H H' : Hp} {v : V} {a : Arc} (h : AV H v a) (t : TP H H') : AV H' v a := by
  obtain ⟨p, e, q⟩ := h
  exact ⟨p, e, t _ _ q⟩
theorem avs_mono {H H' : Hp} {xs : List V} {as : List Arc} (h : AVs H xs as) (t : TP H H') : AVs H' xs as := Paired.mapP h fun _ _ q => q.mono t
/-- the first n spots by their numbers -/
structure NumTo (kvs : List (List Key × V)) (ks : List (List Key)) (n : Nat) : Prop where
  len : kvs.length ≤ n
  at_ : ∀ j k, j < n → ks[j]? = some k → valV kvs k = some (.int (j : Nat))
  no : ∀ k, (∀ j, j < n → ks[j]? ≠ some k) → valV kvs k = none
theorem NumTo.zero {ks : List (List Key)} : NumTo [] ks 0 := ⟨Nat.le_refl _, fun j k h => absurd h (Nat.not_lt_zero _), fun _ _ => valV_nil⟩
theorem NumTo.snoc {kvs : List (List Key × V)} {ks : List (List Key)} {n : Nat} {k : List Key} {v : V} (h : NumTo kvs ks n) (nd : ks.Nodup) (hk : ks[n]? = some k) (hv : v = .int (n : Nat)) : NumTo (putK kvs k v) ks (n + 1) := by
  subst hv
  refine ⟨Nat.le_trans (length_putK _ _ _) (Nat.succ_le_succ h.len), fun j k' hj hk' => ?_, fun k' hn => ?_⟩
  · rw [valV_put]
    by_cases e : k' = k
    · subst e
      rw [if_pos rfl, nd_ix nd hk' hk]
    · rw [if_neg e]
      refine h.at_ j k' ?_ hk'
      have : j ≠ n := fun z => e (by subst z; rw [hk] at hk'; exact (Option.some.inj hk').symm)
      omega
  · rw [valV_put, if_neg fun e => hn n (by omega) (by rw [e]; exact hk)]
    exact h.no k' fun j hj => hn j (by omega)
/-- all spots by their numbers -/
def NumD (kvs : List (List Key × V)) (ks : List (List Key)) : Prop := NumTo kvs ks ks.length
theorem NumD.no' {kvs : List (List Key × V)} {ks : List (List Key)} (h : NumD kvs ks) {k : List Key} (hk : k ∉ ks) : valV kvs k = none := h.no k fun j _ e => hk (List.mem_of_getElem? e)
theorem NumD.at' {kvs : List (List Key × V)} {ks : List (List Key)} (h : NumD kvs ks) {k : List Key} {j : Nat} (e : ks[j]? = some k) : valV kvs k = some (.int (j : Nat)) := h.at_ j k (List.getElem?_eq_some_iff.mp e).1 e
/-- a read by a spot -/
theorem num_get {H : Hp} {D : Addr} {kvs : List (List Key × V)} {ks : List (List Key)} (e : H D = some (.dT kvs)) (h : NumD kvs ks) {v : V} {k : List Key} {j : Nat} (hv : TK H v k) (hk : ks[j]? = some k) : DGet H D v (some (.int (j : Nat))) := by
  obtain ⟨p, rfl, q, _⟩ := hv
  have := DGet.t e q
  rw [h.at' hk] at this
  exact this
theorem LV.parts {H : Hp} {v : V} {l : Lk} (h : LV H v l) : ∃ p x y z, v = .ref p ∧ H p = some (.tup [x, y, .int l.w, z]) ∧ TK H x l.a ∧ TK H y l.b ∧ TK H z l.y := h
def spNumbered : Sp := fun vs H Q _ => ∃ (S : Addr) (ks : List (List Key)), vs = [.ref S] ∧ SpotsAt H S ks ∧ ks.length ≤ 1000 ∧ ∀ (D : Addr) (kvs : List (List Key × V)) (H' : Hp), Same H H' → H' D = some (.dT kvs) → NumD kvs ks → Q (.ref D) H'
def spArcs : Sp := fun vs H Q _ => ∃ (S R : Addr) (ks : List (List Key)) (ls : List Lk) (as : List Arc), vs = [.ref S, .ref R] ∧ SpotsAt H S ks ∧ ks.length ≤ 1000 ∧ LinksAt H R ls ∧ ls.length ≤ 1000 ∧ Arcs ks ls as ∧
  ∀ (D : Addr) (xs : List V) (H' : Hp), Same H H' → H D = none → H' D = some (.lst xs) → AVs H' xs as → Q (.ref D) H'
section
variable {P : Program} {w : World} {K : PySem.W.Frag} {mg : Str → Option Value} {base : Heap}
theorem ok_numbered (T : Tx K mg) : Cal P w K mg base CX0 1 "_law_numbered" ["_law_spots"] [] spNumbered := by
  obtain ⟨fd, F⟩ := T.f_l_numbered
  refine ⟨_, fd, [], F.ok sc_l_numbered (fun vs H Q E h => ?_) (fun cdv A outer s H vs Q E hr h => ?_), T.g_l_numbered, F.kp, F.bindsN fun _ _ _ _ _ _ us hl => match us, hl with | [_], _ => rfl, .nil⟩
  · obtain ⟨S, ks, rfl, _⟩ := h
    rfl
  obtain ⟨S, ks, rfl, hs, hl, kk⟩ := h
  have hu := hu_of hr
  refine ⟨_, PSs.nox ((pss_cons (ps_set (i := 1) sc_l_numbered.nd rfl (Or.inl rfl) pe_dnewT)
        (pss_cons (ps_for PassesOwn.never rfl (pi_range1 (by rfl) T.b_range (pa_cons (pe_callB (call_lenK K) (by rfl) T.b_len PySem.boot_len (pa_cons (pv 0) pa_nil)) pa_nil)) (pg_name (i := 2) sc_l_numbered.nd rfl (Or.inl rfl))
          (pss_one (ps_dput hu (pv 1) (pe_ix (ix_listK K) (pv 0) (pv 2) (fun _ _ => rfl)) (pv 2) rfl)))
        (pss_one (ps_ret (pv 1)))))), ?_⟩
  obtain ⟨xs, eS, rS⟩ := hs.l
  have len := pr_len rS
  refine fun D hD => ?_
  have sD := same_new (o := .dT []) hD
  refine ⟨_, rfl, _, xs.length, rfl, .inl ⟨_, SqL.of (sD _ _ eS), rfl⟩, _, rfl, by omega, by omega, for_range (fun i σ H2 => ∃ (o2 : Option V) (kvs : List (List Key × V)), σ = [some (.ref S), some (.ref D), o2] ∧ H2 D = some (.dT kvs) ∧ NumTo kvs ks i ∧ Same H H2) ?_ ?_ ?_⟩
  · exact ⟨none, [], rfl, upd_same, .zero, sD⟩
  · rintro i σ H2 hi ⟨o2, kvs, rfl, e2, n2, s2⟩
    obtain ⟨xs', q, nm, a, d, e1, g1, k1, t1, o1⟩ := sp_get (hs.same s2) (i := i) (by omega)
    refine ⟨_, rfl, _, rfl, _, rfl, _, rfl, S, xs', _, .ref q, rfl, rfl, SqL.of e1, at_of (j := i) (by omega) g1, D, _, rfl, DPut.t (k := [.inr nm, .inl a, .inl d]) e2 t1 (small1000 (by have := n2.len; omega)), ?_⟩
    refine ⟨_, _, rfl, upd_same, n2.snoc hs.nd k1 (by congr 1; omega), fun c o e => ?_⟩
    rw [upd_ne (ne_of_none e hD)]
    exact s2 _ _ e
  · rintro σ H2 ⟨o2, kvs, rfl, e2, n2, s2⟩
    refine ⟨_, rfl, kk D kvs H2 s2 e2 ?_⟩
    have e : ((xs.length : Int)).toNat = ks.length := by omega
    rw [e] at n2
    exact n2
theorem ok_arcs (T : Tx K mg) (c_l_numbered : Cal P w K mg base CX0 1 "_law_numbered" ["_law_spots"] [] spNumbered) : Cal P w K mg base CX0 2 "_law_arcs" ["_law_spots", "_law_links"] [] spArcs := by
  obtain ⟨fd, F⟩ := T.f_l_arcs
  refine ⟨_, fd, [], F.ok sc_l_arcs (fun vs H Q E h => ?_) (fun cdv A outer s H vs Q E hr h => ?_), T.g_l_arcs, F.kp, F.bindsN fun _ _ _ _ _ _ us hl => match us, hl with | [_, _], _ => rfl, .nil⟩
  · obtain ⟨S, R, ks, ls, as, rfl, _⟩ := h
    rfl
  obtain ⟨S, R, ks, ls, as, rfl, hs, hk, hl, hn, ha, kk⟩ := h
  have hu := hu_of hr
  refine ⟨_, PSs.nox ((pss_cons (ps_set (i := 2) sc_l_arcs.nd rfl (Or.inr rfl) (pcall c_l_numbered hr (pa_cons (pv 0) pa_nil)))
        (pss_one (ps_ret (pe_lc (own := [("_law_link", 3)]) (g := gName 3) (tt := tYes) rfl sc_l_arcs.nd (pi_listK K (pv 1)) (blkOk_by (N := N_l_arcs) (sc := defScope s_l_arcs) (by decide +kernel)) (fun _ _ _ _ _ => (pg_name (i := 3) sc_l_arcs.nd rfl (Or.inl rfl))) (fun _ _ _ _ _ => pts_nil) (fun _ _ _ _ _ => (pe_tup (pa_cons (pe_dget hu (pv 2) (pe_ix (ix_tupK K) (pv 3) pe_int (fun _ _ => rfl)) (fun _ _ => rfl)) (pa_cons (pe_dget hu (pv 2) (pe_ix (ix_tupK K) (pv 3) pe_int (fun _ _ => rfl)) (fun _ _ => rfl)) (pa_cons (pe_ix (ix_tupK K) (pv 3) pe_int (fun _ _ => rfl)) pa_nil)))))))))), ?_⟩
  refine ⟨_, rfl, S, ks, rfl, hs, hk, fun D kvs H1 s1 eD nD => ?_⟩
  obtain ⟨xs, eR, rR⟩ := hl.same s1
  have len := pr_len rR
  have lena := pr_len ha
  refine ⟨_, rfl, R, rfl, ⟨_, SqL.of eR⟩, fun L hL => lc_list (K := K) (a := R) (xs := xs) (fun i H2 => ∃ ys, H2 L = some (.lst ys) ∧ AVs H2 ys (as.take i) ∧ ys.length = i ∧ Same H1 H2) ?_ (fun i H2 _ ⟨_, _, _, _, s2⟩ => SqL.of (s2 _ _ eR)) ?_ ?_⟩
  · exact ⟨[], upd_same, .nil, rfl, same_new hL⟩
  · rintro i x H2 hi ⟨ys, e2, a2, l2, s2⟩
    obtain ⟨l, hll, lv⟩ := pr_get rR hi
    obtain ⟨a, haa, oa⟩ := pr_get ha hll
    obtain ⟨p, x, y, z, rfl, q, h1, h2, h3⟩ := lv.mono (same_tp s2)
    have q' : SqT K H2 p _ := SqT.of q
    refine ⟨rfl, _, rfl, _, rfl, p, _, _, x, rfl, rfl, q', atI_nat (j := 0) rfl, D, _, rfl, num_get (s2 _ _ eD) nD h1 oa.1, ?_⟩
    refine ⟨_, rfl, _, rfl, p, _, _, y, rfl, rfl, q', atI_nat (j := 1) rfl, D, _, rfl, num_get (s2 _ _ eD) nD h2 oa.2.1, ?_⟩
    refine ⟨_, rfl, p, _, _, .int l.w, rfl, rfl, q', atI_nat (j := 2) rfl, (show 3 ≤ sizeLine by decide), fun t ht => ⟨ys, ?_, small1000 (by have := (List.getElem?_eq_some_iff.mp hi).1; omega), ?_⟩⟩
    · rw [upd_ne (ne_of_none e2 ht)]
      exact e2
    have e2' : (upd H2 t (.tup [.int (a.1 : Nat), .int (a.2.1 : Nat), .int l.w])) L = some (.lst ys) := by rw [upd_ne (ne_of_none e2 ht)]; exact e2
    have tp := put_tp (u := .lst (ys ++ [.ref t])) e2' (fun _ z => by cases z)
    refine ⟨ys ++ [.ref t], upd_same, ?_, by rw [List.length_append, l2]; rfl, fun c o e => ?_⟩
    · rw [take_snoc haa]
      refine pr_snoc (avs_mono (avs_mono a2 (new_tp ht)) tp) ⟨t, rfl, ?_⟩
      rw [oa.2.2]
      exact tp _ _ upd_same
    · rw [upd_ne (ne_of_none e hL), upd_ne (ne_of_none (s2 _ _ e) ht)]
      exact s2 _ _ e
  · rintro H2 ⟨ys, e2, a2, l2, s2⟩
    rw [List.take_of_length_le (by omega)] at a2
    exact kk L ys H2 (s1.trans s2) (s1.free hL) e2 a2
end
end Ell
set_option maxHeartbeats 4000000
namespace Ell
open PySem PySem.Spec PyProof.Rows L2
/-! ### lists by a function; tables -/
def fl (N : Nat) (f : Nat → V) : List V := (List.range N).map f
theorem fl_len {N : Nat} {f : Nat → V} : (fl N f).length = N := by simp [fl]
theorem fl_get {N i : Nat} {f : Nat → V} (h : i < N) : (fl N f)[i]? = some (f i) := by simp [fl, h]
theorem fl_set {N i : Nat} {f g : Nat → V} {v : V} (h1 : g i = v) (h2 : ∀ j, j ≠ i → g j = f j) : (fl N f).set i v = fl N g := by
  apply List.ext_getElem?
  intro j
  rw [List.getElem?_set]
  by_cases hj : j < N
  · by_cases e : i = j
    · subst e
      rw [if_pos rfl, fl_len, if_pos hj, fl_get hj, h1]
    · rw [if_neg e, fl_get hj, fl_get hj, h2 j fun z => e z.symm]
  · have n1 : (fl N g)[j]? = none := List.getElem?_eq_none (by rw [fl_len]; omega)
    have n2 : (fl N f)[j]? = none := List.getElem?_eq_none (by rw [fl_len]; omega)
    rw [n1, n2]
    split <;> (try rfl)
    rw [fl_len, if_neg (by omega)]
theorem fl_succ {N : Nat} {f : Nat → V} : fl (N + 1) f = fl N f ++ [f N] := by
  unfold fl
  rw [List.range_succ, List.map_append]
  rfl
theorem ixn {n j : Nat} {k : Int} (e : k = (j : Int)) (h : j < n) : ixN n k = some j := by
  subst e
  unfold ixN
  split
  · rw [if_pos (by omega), show ((j : Int)).toNat = j by omega]
  · exfalso
    omega
theorem fl_at {N i : Nat} {k : Int} {f : Nat → V} (e : k = (i : Int)) (h : i < N) : atI (fl N f) k = some (f i) := at_of (j := i) e (fl_get h)
def oV : Option Int → V
  | none => .non
  | some i => .int i
/-- the rows of a table of i rows -/
structure TabTo (H : Hp) (R : Addr) (N : Nat) (T : Tb) (rs : List Addr) : Prop where
  e : H R = some (.lst (rs.map V.ref))
  nd : rs.Nodup
  nR : R ∉ rs
  row : ∀ a r, rs[a]? = some r → H r = some (.lst (fl N fun b => oV (T a b)))
def TabAt (H : Hp) (R : Addr) (N : Nat) (T : Tb) : Prop := ∃ rs, rs.length = N ∧ TabTo H R N T rs
theorem TabTo.cell {H : Hp} {R : Addr} {N : Nat} {T : Tb} {rs : List Addr} (h : TabTo H R N T rs) {a b : Nat} {r : Addr} (ha : rs[a]? = some r) {x : Option Int} {v : V} (hv : v = oV x) (_hb : b < N) :
    TabTo (upd H r (.lst ((fl N fun b => oV (T a b)).set b v))) R N (setT T a b x) rs := by
  subst hv
  have hr : R ≠ r := fun z => h.nR (by rw [z]; exact List.mem_of_getElem? ha)
  refine ⟨by rw [upd_ne hr]; exact h.e, h.nd, h.nR, fun a' r' ha' => ?_⟩
  by_cases e : r' = r
  · subst e
    have ea : a' = a := nd_ix h.nd ha' ha
    subst ea
    rw [upd_same]
    congr 2
    refine fl_set ?_ fun j hj => ?_
    · show oV (setT T a' b x a' b) = oV x
      rw [setT_same]
    · show oV (setT T a' b x a' j) = _
      unfold setT
      rw [if_neg fun q => hj q.2]
  · rw [upd_ne e]
    have ea : ¬ a' = a := fun z => e (by subst z; rw [ha] at ha'; exact (Option.some.inj ha').symm)
    rw [h.row a' r' ha']
    congr 2
    unfold fl
    congr 1
    funext j
    unfold setT
    rw [if_neg fun q => ea q.1]
theorem TabTo.same {H H' : Hp} {R : Addr} {N : Nat} {T : Tb} {rs : List Addr} (h : TabTo H R N T rs) (k : Same H H') : TabTo H' R N T rs := ⟨k _ _ h.e, h.nd, h.nR, fun a r e => k _ _ (h.row a r e)⟩
theorem TabAt.same {H H' : Hp} {R : Addr} {N : Nat} {T : Tb} (h : TabAt H R N T) (k : Same H H') : TabAt H' R N T := by
  obtain ⟨rs, l, h⟩ := h
  exact ⟨rs, l, h.same k⟩
theorem TabAt.fb {H H' : Hp} {R : Addr} {N : Nat} {T : Tb} (h : TabAt H R N T) (k : FB H H') : TabAt H' R N T := by
  obtain ⟨rs, l, h⟩ := h
  exact ⟨rs, l, fb_free k h.e True.intro, h.nd, h.nR, fun a r e => fb_free k (h.row a r e) True.intro⟩
def eye : Tb := fun a b => if a = b then some 0 else none
theorem snd_eye {as : List Arc} : Snd as eye := fun a b z e => by
  unfold eye at e
  split at e
  · rename_i h
    subst h
    cases e
    exact ⟨[], .nil, rfl⟩
  · cases e
theorem cmp0 {as : List Arc} {T : Tb} (h : ∀ e ∈ as, oLe (T e.1 e.2.1) (some e.2.2)) : Cmp as 0 T := by
  intro r a b hne w nd lt
  match r, hne with
  | [e], _ =>
    obtain ⟨h1, h2⟩ := w.w
    have h2 : e.2.1 = b := h2
    have := h e (w.m e List.mem_cons_self)
    rw [h1, h2] at this
    refine this.trans fun i q => ⟨_, rfl, ?_⟩
    cases q
    simp [wsum]
  | e :: f :: t, _ => exact absurd (lt f.1 List.mem_cons_self) (Nat.not_lt_zero _)
def spClosed : Sp := fun vs H Q _ => ∃ (S R : Addr) (ks : List (List Key)) (ls : List Lk) (as : List Arc), vs = [.ref S, .ref R] ∧ SpotsAt H S ks ∧ ks.length ≤ 1000 ∧ LinksAt H R ls ∧ ls.length ≤ 1000 ∧ Arcs ks ls as ∧
  ∀ (D : Addr) (T : Tb) (H' : Hp), Same H H' → TabAt H' D ks.length T → Tab as ks.length T → Q (.ref D) H'
section
variable {P : Program} {w : World} {K : PySem.W.Frag} {mg : Str → Option Value} {base : Heap}
theorem ok_closed (T : Tx K mg) (c_l_arcs : Cal P w K mg base CX0 2 "_law_arcs" ["_law_spots", "_law_links"] [] spArcs) : Cal P w K mg base CX0 3 "_law_closed" ["_law_spots", "_law_links"] [] spClosed := by
  obtain ⟨fd, F⟩ := T.f_l_closed
  refine ⟨_, fd, [], F.ok sc_l_closed (fun vs H Q E h => ?_) (fun cdv A outer s H vs Q E hr h => ?_), T.g_l_closed, F.kp, F.bindsN fun _ _ _ _ _ _ us hl => match us, hl with | [_, _], _ => rfl, .nil⟩
  · obtain ⟨S, R, ks, ls, as, rfl, _⟩ := h
    rfl
  obtain ⟨S, R, ks, ls, as, rfl, hs, hk, hl, hn, ha, kk⟩ := h
  refine ⟨_, PSs.nox ((pss_cons (ps_set (i := 2) sc_l_closed.nd rfl (Or.inl rfl) (pe_callB (call_lenK K) (by rfl) T.b_len PySem.boot_len (pa_cons (pv 0) pa_nil)))
        (pss_cons (ps_set (i := 3) sc_l_closed.nd rfl (Or.inl rfl) (pe_lst pa_nil))
        (pss_cons (ps_for PassesOwn.never rfl (pi_range1 (by rfl) T.b_range (pa_cons (pv 2) pa_nil)) (pg_name (i := 4) sc_l_closed.nd rfl (Or.inl rfl))
          (pss_cons (ps_setLc (i := 5) (own := [("_law_b", 9)]) (g := gName 9) (tt := tYes) rfl sc_l_closed.nd rfl rfl (sw_true rfl rfl rfl (by decide +kernel)) (pi_range1 (by rfl) T.b_range (pa_cons (pv 2) pa_nil)) (blkOk_by (N := N_l_closed) (sc := defScope s_l_closed) (by decide +kernel)) (fun _ _ _ _ _ => (pg_name (i := 9) sc_l_closed.nd rfl (Or.inl rfl))) (fun _ _ _ _ _ => pts_nil) (fun _ _ _ _ _ => pe_non))
          (pss_cons (ps_asg pe_int (pg_sub (pv 5) (pv 4) set_list))
          (pss_one (ps_expr (bmK K PySem.F.plainAttrs_list PySem.F.slot_list_append PySem.F.type_list_append mt_append (pv 3) (pa_cons (pv 5) pa_nil)))))))
        (pss_cons (ps_for PassesOwn.never rfl (pi_listK K (pcall c_l_arcs hr (pa_cons (pv 0) (pa_cons (pv 1) pa_nil)))) (pg_name (i := 6) sc_l_closed.nd rfl (Or.inl rfl))
          (pss_cons (ps_set (i := 5) sc_l_closed.nd rfl (Or.inl rfl) (pe_ix (ix_listK K) (pv 3) (pe_ix (ix_tupK K) (pv 6) pe_int (fun _ _ => rfl)) (fun _ _ => rfl)))
          (pss_one (ps_if (PW.pt (pw_or (pt_cmpR op_isN (pe_ix (ix_listK K) (pv 5) (pe_ix (ix_tupK K) (pv 6) pe_int (fun _ _ => rfl)) (fun _ _ => rfl)) pe_non (nomark _)) (pw_or1 (pt_cmpR op_lt (pe_ix (ix_tupK K) (pv 6) pe_int (fun _ _ => rfl)) (pe_ix (ix_listK K) (pv 5) (pe_ix (ix_tupK K) (pv 6) pe_int (fun _ _ => rfl)) (fun _ _ => rfl)) (nomark _))))) (pss_one (ps_asg (pe_ix (ix_tupK K) (pv 6) pe_int (fun _ _ => rfl)) (pg_sub (pv 5) (pe_ix (ix_tupK K) (pv 6) pe_int (fun _ _ => rfl)) set_list))) pss_nil))))
        (pss_cons (ps_for PassesOwn.never rfl (pi_range1 (by rfl) T.b_range (pa_cons (pv 2) pa_nil)) (pg_name (i := 7) sc_l_closed.nd rfl (Or.inl rfl))
          (pss_cons (ps_set (i := 8) sc_l_closed.nd rfl (Or.inl rfl) (pe_ix (ix_listK K) (pv 3) (pv 7) (fun _ _ => rfl)))
          (pss_one (ps_for PassesOwn.never rfl (pi_range1 (by rfl) T.b_range (pa_cons (pv 2) pa_nil)) (pg_name (i := 4) sc_l_closed.nd rfl (Or.inl rfl))
            (pss_cons (ps_set (i := 5) sc_l_closed.nd rfl (Or.inl rfl) (pe_ix (ix_listK K) (pv 3) (pv 4) (fun _ _ => rfl)))
            (pss_one (ps_if (pt_cmpR op_notN (pe_ix (ix_listK K) (pv 5) (pv 7) (fun _ _ => rfl)) pe_non (nomark _)) (pss_one (ps_for PassesOwn.never rfl (pi_range1 (by rfl) T.b_range (pa_cons (pv 2) pa_nil)) (pg_name (i := 9) sc_l_closed.nd rfl (Or.inl rfl))
                (pss_one (ps_if (PW.pt (pw_and (pt_cmpR op_notN (pe_ix (ix_listK K) (pv 8) (pv 9) (fun _ _ => rfl)) pe_non (nomark _)) (pw_and1 (PW.pt (pw_or (pt_cmpR op_isN (pe_ix (ix_listK K) (pv 5) (pv 9) (fun _ _ => rfl)) pe_non (nomark _)) (pw_or1 (pt_cmpR op_lt (pe_op op_add (pe_ix (ix_listK K) (pv 5) (pv 7) (fun _ _ => rfl)) (pe_ix (ix_listK K) (pv 8) (pv 9) (fun _ _ => rfl))) (pe_ix (ix_listK K) (pv 5) (pv 9) (fun _ _ => rfl)) (nomark _)))))))) (pss_one (ps_asg (pe_op op_add (pe_ix (ix_listK K) (pv 5) (pv 7) (fun _ _ => rfl)) (pe_ix (ix_listK K) (pv 8) (pv 9) (fun _ _ => rfl))) (pg_sub (pv 5) (pv 9) set_list))) pss_nil)))) pss_nil)))))))
        (pss_one (ps_ret (pv 3))))))))), ?_⟩
  obtain ⟨xs, eS, rS⟩ := hs.l
  have len := pr_len rS
  refine ⟨_, rfl, _, xs.length, rfl, .inl ⟨_, SqL.of eS, rfl⟩, ⟨Nat.zero_le _, fun D hD => ?_⟩⟩
  rw [len]
  generalize hN : ks.length = N at *
  have sD := same_new (o := .lst []) hD
  -- the rows
  refine ⟨_, rfl, _, rfl, by omega, by omega, for_range (fun i σ H2 => ∃ (o4 o5 o6 o7 o8 o9 : Option V) (rs : List Addr), σ = [some (.ref S), some (.ref R), some (.int N), some (.ref D), o4, o5, o6, o7, o8, o9] ∧ TabTo H2 D N eye rs ∧ rs.length = i ∧ (∀ r ∈ rs, H r = none) ∧ Same H H2) ?_ ?_ ?_⟩
  · exact ⟨none, none, none, none, none, none, [], rfl, ⟨upd_same, List.nodup_nil, (fun h => by cases h), fun a r e => by simp at e⟩, rfl, (fun r h => by cases h), sD⟩
  · rintro i σ H2 hi ⟨o4, o5, o6, o7, o8, o9, rs, rfl, t2, l2, f2, s2⟩
    have fD : D ∉ rs := t2.nR
    refine ⟨_, rfl, _, rfl, by omega, by omega, fun L hL => lc_range (fun j H6 => H6 L = some (.lst (fl j fun _ => V.non)) ∧ Same H2 H6) ⟨upd_same, same_new hL⟩ ?_ ?_⟩
    · rintro j H6 hj ⟨h6, k6⟩
      refine ⟨rfl, _, h6, small1000 (by rw [fl_len]; omega), by rw [upd_same, fl_succ], fun c o e => ?_⟩
      rw [upd_ne (ne_of_none e hL)]
      exact k6 _ _ e
    rintro H6 ⟨h6, k6⟩
    have eN : ((N : Int)).toNat = N := by omega
    rw [eN] at h6
    have hN' : i < N := by omega
    refine ⟨_, rfl, _, rfl, L, _, _, i, rfl, rfl, h6, by rw [fl_len]; exact ixn (by omega) hN', ?_⟩
    rw [fl_set (g := fun b => oV (eye i b)) (by simp [eye, oV]) (fun j hj => by simp only [eye, if_neg fun z : i = j => hj z.symm, oV])]
    have k7 : Same H2 (upd H6 L (.lst (fl N fun b => oV (eye i b)))) := fun c o e => by
      rw [upd_ne (ne_of_none e hL)]
      exact k6 _ _ e
    have t7 := t2.same k7
    have sL : ∀ r ∈ rs, r ≠ L := fun r hr z => by
      obtain ⟨a, hra⟩ := List.mem_iff_getElem?.mp hr
      have := t2.row a r hra
      rw [z, hL] at this
      cases this
    have sDL : D ≠ L := fun z => by
      have := t2.e
      rw [z, hL] at this
      cases this
    have fL : H L = none := s2.free hL
    refine ⟨_, rfl, .inl ⟨rfl, _, SqL.of t7.e⟩, _, rfl, D, _, .ref L, rfl, rfl, t7.e, by rw [List.length_map]; exact small1000 (by omega), ?_⟩
    refine ⟨_, _, _, _, _, _, rs ++ [L], rfl, ⟨by rw [upd_same, List.map_append]; rfl, nd_snoc' t2.nd (fun m => sL L m rfl), fun m => ?_, fun a r e => ?_⟩, by rw [List.length_append, l2]; rfl, fun r hr => ?_, fun c o e => ?_⟩
    · rcases List.mem_append.mp m with m | m
      · exact fD m
      · exact sDL (List.mem_singleton.mp m)
    · have hm := List.mem_of_getElem? e
      have hrD : r ≠ D := by
        intro z
        rcases List.mem_append.mp hm with m | m
        · exact fD (z ▸ m)
        · exact sDL (z.symm.trans (List.mem_singleton.mp m))
      rw [upd_ne hrD]
      by_cases ha : a < rs.length
      · rw [List.getElem?_append_left ha] at e
        exact t7.row a r e
      · rw [List.getElem?_append_right (by omega)] at e
        have ea : a - rs.length = 0 := by
          have := (List.getElem?_eq_some_iff.mp e).1
          simp at this
          omega
        rw [ea] at e
        cases e
        have : a = i := by omega
        subst this
        exact upd_same
    · rcases List.mem_append.mp hr with m | m
      · exact f2 r m
      · rw [List.mem_singleton.mp m]; exact fL
    · rw [upd_ne (ne_of_none e hD)]
      exact k7 _ _ (s2 _ _ e)
  rintro σ H2 ⟨o4, o5, o6, o7, o8, o9, rs, rfl, t2, l2, f2, s2⟩
  have eN : ((N : Int)).toNat = N := by omega
  rw [eN] at l2
  -- the arcs
  refine ⟨_, rfl, _, rfl, S, R, ks, ls, as, rfl, hs.same s2, by omega, hl.same s2, hn, ha, fun L ys H3 s3 fL eL aL => ?_⟩
  have la := pr_len aL
  have hA : ∀ e ∈ as, e.1 < N ∧ e.2.1 < N := fun e he => by
    obtain ⟨l, hm, o⟩ := pr_mem2 ha he
    exact ⟨by rw [← hN]; exact (List.getElem?_eq_some_iff.mp o.1).1, by rw [← hN]; exact (List.getElem?_eq_some_iff.mp o.2.1).1⟩
  have rget : ∀ a, a < N → ∃ r, rs[a]? = some r := fun a h => ⟨rs[a], List.getElem?_eq_getElem (by omega)⟩
  -- a cell written
  have wr : ∀ {H' : Hp} {T' : Tb} {a b : Nat} {r : Addr} {x : Option Int} {v : V}, Same H H' → TabTo H' D N T' rs → rs[a]? = some r → v = oV x → b < N → TabTo (upd H' r (.lst ((fl N fun b => oV (T' a b)).set b v))) D N (setT T' a b x) rs ∧ Same H (upd H' r (.lst ((fl N fun b => oV (T' a b)).set b v))) := fun k t hr hv hb =>
    ⟨t.cell hr hv hb, fun c o e => by rw [upd_ne (ne_of_none e (f2 _ (List.mem_of_getElem? hr)))]; exact k _ _ e⟩
  have mref : ∀ {a : Nat} {r : Addr}, rs[a]? = some r → (rs.map V.ref)[a]? = some (.ref r) := fun h => by rw [List.getElem?_map, h]; rfl
  refine ⟨L, rfl, ⟨_, SqL.of eL⟩, for_list (K := K) (a := L) (xs := ys) (fun i σ H4 => ∃ (o4 o5 o6 o7 o8 o9 : Option V) (T' : Tb), σ = [some (.ref S), some (.ref R), some (.int N), some (.ref D), o4, o5, o6, o7, o8, o9] ∧ TabTo H4 D N T' rs ∧ Snd as T' ∧ (∀ a, oLe (T' a a) (some 0)) ∧
    (∀ e ∈ as.take i, oLe (T' e.1 e.2.1) (some e.2.2)) ∧ Same H H4 ∧ H4 L = some (.lst ys) ∧ AVs H4 ys as) ?_ (fun i σ H4 _ ⟨_, _, _, _, _, _, _, _, _, _, _, _, _, q, _⟩ => SqL.of q) ?_ ?_⟩
  · exact ⟨o4, o5, o6, o7, o8, o9, eye, rfl, t2.same s3, snd_eye, fun a => by simp only [eye, if_pos]; exact .refl, (fun e he => by cases he), s2.trans s3, eL, aL⟩
  · rintro i v σ H4 hi ⟨o4, o5, o6, o7, o8, o9, T', rfl, t4, q1, q2, q3, s4, e4, a4⟩
    obtain ⟨e, he, p, rfl, hp⟩ := pr_get a4 hi
    obtain ⟨h1, h2⟩ := hA e (List.mem_of_getElem? he)
    obtain ⟨r, hr'⟩ := rget e.1 h1
    have qp : SqT K H4 p _ := SqT.of hp
    have rw4 := t4.row e.1 r hr'
    have mem : ∀ {T'' : Tb}, (∀ i j, oLe (T'' i j) (T' i j)) → oLe (T'' e.1 e.2.1) (some e.2.2) → ∀ g ∈ as.take (i + 1), oLe (T'' g.1 g.2.1) (some g.2.2) := fun hT h g hg => by
      rw [take_snoc he] at hg
      rcases List.mem_append.mp hg with m | m
      · exact (hT _ _).trans (q3 g m)
      · cases List.mem_singleton.mp m; exact h
    have rL : r ≠ L := fun z => by
      have := t2.row e.1 r hr'
      rw [z, fL] at this
      cases this
    have put : oLe (some e.2.2) (T' e.1 e.2.1) → ∃ (o4' o5' o6' o7' o8' o9' : Option V) (T'' : Tb), [some (V.ref S), some (.ref R), some (.int N), some (.ref D), o4, some (.ref r), some (.ref p), o7, o8, o9] = [some (.ref S), some (.ref R), some (.int N), some (.ref D), o4', o5', o6', o7', o8', o9'] ∧
        TabTo (upd H4 r (.lst ((fl N fun b => oV (T' e.1 b)).set e.2.1 (.int e.2.2)))) D N T'' rs ∧ Snd as T'' ∧ (∀ a, oLe (T'' a a) (some 0)) ∧
        (∀ g ∈ as.take (i + 1), oLe (T'' g.1 g.2.1) (some g.2.2)) ∧ Same H (upd H4 r (.lst ((fl N fun b => oV (T' e.1 b)).set e.2.1 (.int e.2.2)))) ∧ (upd H4 r (.lst ((fl N fun b => oV (T' e.1 b)).set e.2.1 (.int e.2.2)))) L = some (.lst ys) ∧ AVs (upd H4 r (.lst ((fl N fun b => oV (T' e.1 b)).set e.2.1 (.int e.2.2)))) ys as := fun hle => by
      obtain ⟨t5, s5⟩ := wr (x := some e.2.2) s4 t4 hr' rfl h2
      refine ⟨_, _, _, _, _, _, setT T' e.1 e.2.1 (some e.2.2), rfl, t5, ?_, fun a => (setT_le hle a a).trans (q2 a), mem (setT_le hle) (by rw [setT_same]; exact .refl), s5, by rw [upd_ne rL.symm]; exact e4, avs_mono a4 (put_tp rw4 fun _ z => by cases z)⟩
      exact q1.set [e] (Walk.one (List.mem_of_getElem? he)) (by simp [wsum])
    refine ⟨_, rfl, _, rfl, p, _, _, _, rfl, rfl, qp, atI_nat (j := 0) rfl, D, _, _, .ref r, rfl, rfl, SqL.of t4.e, atI_nat (mref hr'), ?_⟩
    refine ⟨_, rfl, _, rfl, p, _, _, _, rfl, rfl, qp, atI_nat (j := 1) rfl, r, _, _, _, rfl, rfl, SqL.of rw4, fl_at rfl h2, rfl, _, rfl, ite2 (fun hz => ?_) (fun hz => ?_)⟩
    · have hz' : oV (T' e.1 e.2.1) = .non := of_decide_eq_true hz
      refine ⟨_, rfl, p, _, _, _, rfl, rfl, qp, atI_nat (j := 2) rfl, _, rfl, _, rfl, p, _, _, _, rfl, rfl, qp, atI_nat (j := 1) rfl, r, _, _, e.2.1, rfl, rfl, rw4, by rw [fl_len]; exact ixn rfl h2, put ?_⟩
      intro i hi
      rw [hi] at hz'
      cases hz'
    · have hz' : ¬ oV (T' e.1 e.2.1) = .non := fun z => hz (decide_eq_true z)
      cases hT : T' e.1 e.2.1 with
      | none => exact absurd (by rw [hT]; rfl) hz'
      | some z =>
        have hT' : oV (T' e.1 e.2.1) = .int z := by rw [hT]; rfl
        refine ⟨_, rfl, p, _, _, _, rfl, rfl, qp, atI_nat (j := 2) rfl, _, rfl, _, rfl, p, _, _, _, rfl, rfl, qp, atI_nat (j := 1) rfl, r, _, _, .int z, rfl, rfl, SqL.of rw4, by rw [fl_at rfl h2, hT'], _, _, rfl, rfl, _, rfl, ite2 (fun hl => ?_) (fun hl => ?_)⟩
        · refine ⟨_, rfl, p, _, _, _, rfl, rfl, qp, atI_nat (j := 2) rfl, _, rfl, _, rfl, p, _, _, _, rfl, rfl, qp, atI_nat (j := 1) rfl, r, _, _, e.2.1, rfl, rfl, rw4, by rw [fl_len]; exact ixn rfl h2, put ?_⟩
          have hl' : e.2.2 < z := of_decide_eq_true hl
          intro i hi
          rw [hT] at hi
          cases hi
          exact ⟨_, rfl, by omega⟩
        · refine ⟨_, _, _, _, _, _, T', rfl, t4, q1, q2, mem (fun _ _ => .refl) ?_, s4, e4, a4⟩
          have hl' : ¬ e.2.2 < z := fun q => hl (decide_eq_true q)
          intro i hi
          cases hi
          exact ⟨z, hT, by omega⟩
  rintro σ H4 ⟨o4, o5, o6, o7, o8, o9, T1, rfl, t4, q1, q2, q3, s4, -, -⟩
  rw [List.take_of_length_le (by omega)] at q3
  -- the middle places
  refine ⟨_, rfl, _, rfl, by omega, by omega, for_range (fun m σ H5 => ∃ (o4 o5 o6 o7 o8 o9 : Option V) (T' : Tb), σ = [some (.ref S), some (.ref R), some (.int N), some (.ref D), o4, o5, o6, o7, o8, o9] ∧ TabTo H5 D N T' rs ∧ Snd as T' ∧ (∀ a, oLe (T' a a) (some 0)) ∧ Cmp as m T' ∧ Same H H5) ?_ ?_ ?_⟩
  · exact ⟨o4, o5, o6, o7, o8, o9, T1, rfl, t4, q1, q2, cmp0 q3, s4⟩
  · clear q1 q2 q3 t4 s4
    rintro m σ H5 hm ⟨o4, o5, o6, o7, o8, o9, T0, rfl, t5, q1, q2, q3, s5⟩
    have hm' : m < N := by omega
    obtain ⟨rm, hrm⟩ := rget m hm'
    refine ⟨_, rfl, _, rfl, D, _, _, .ref rm, rfl, rfl, SqL.of t5.e, at_of (j := m) (by omega) (mref hrm), ?_⟩
    refine ⟨_, rfl, _, rfl, by omega, by omega, for_range (fun a σ H6 => ∃ (o4 o5 o6 o9 : Option V) (T' : Tb), σ = [some (.ref S), some (.ref R), some (.int N), some (.ref D), o4, o5, o6, some (.int (0 + (m : Int))), some (.ref rm), o9] ∧ TabTo H6 D N T' rs ∧ Snd as T' ∧ Via T0 T' m (fun i j => i < a ∧ j < N) ∧ Same H H6) ?_ ?_ ?_⟩
    · exact ⟨_, _, _, _, T0, rfl, t5, q1, Via.start fun a b h => absurd h.1 (Nat.not_lt_zero _), s5⟩
    · rintro a σ H6 ha' ⟨o4, o5, o6, o9, T', rfl, t6, p1, p2, s6⟩
      have ha'' : a < N := by omega
      obtain ⟨ra, hra⟩ := rget a ha''
      refine ⟨_, rfl, _, rfl, D, _, _, .ref ra, rfl, rfl, SqL.of t6.e, at_of (j := a) (by omega) (mref hra), ?_⟩
      refine ⟨_, rfl, _, rfl, ra, _, _, _, rfl, rfl, SqL.of (t6.row a ra hra), fl_at (i := m) (by omega) hm', rfl, _, rfl, ite2 (fun hz => ?_) (fun hz => ?_)⟩
      · have hz0 : T' a m ≠ none := fun z => by
          have hz' : (!decide (oV (T' a m) = .non)) = true := hz
          rw [z] at hz'
          cases hz'
        refine ⟨_, rfl, _, rfl, by omega, by omega, for_range (fun b σ H7 => ∃ (o4 o6 o9 : Option V) (T' : Tb), σ = [some (.ref S), some (.ref R), some (.int N), some (.ref D), o4, some (.ref ra), o6, some (.int (0 + (m : Int))), some (.ref rm), o9] ∧ TabTo H7 D N T' rs ∧ Snd as T' ∧ Via T0 T' m (fun i j => j < N ∧ (i < a ∨ (i = a ∧ j < b))) ∧ T' a m ≠ none ∧ Same H H7) ?_ ?_ ?_⟩
        · refine ⟨_, _, _, T', rfl, t6, p1, p2.keep fun i j h => .inl ⟨?_, h.1⟩, hz0, s6⟩
          rcases h.2 with h | h
          · exact h
          · omega
        · clear p1 p2 t6 s6 hz hz0 T'
          rintro b σ H7 hb ⟨o4, o6, o9, T', rfl, t7, p1, p2, hz0, s7⟩
          have hb' : b < N := by omega
          have row7 := t7.row a ra hra
          have rowm := t7.row m rm hrm
          obtain ⟨x, hx⟩ : ∃ x, T' a m = some x := by
            cases h : T' a m with
            | none => exact absurd h hz0
            | some x => exact ⟨x, rfl⟩
          -- nothing is written
          have idle : (∀ x y, T0 a m = some x → T0 m b = some y → oLe (T' a b) (some (x + y))) → Via T0 T' m (fun i j => j < N ∧ (i < a ∨ (i = a ∧ j < b + 1))) := fun hh => p2.keep fun i j h => by
            by_cases e : i = a ∧ j = b
            · obtain ⟨rfl, rfl⟩ := e
              exact .inr hh
            · refine .inl ⟨h.1, ?_⟩
              rcases h.2 with q | q
              · exact .inl q
              · exact .inr ⟨q.1, by have := q.2; have : j ≠ b := fun z => e ⟨q.1, z⟩; omega⟩
          have put : ∀ y, T' m b = some y → oLe (some (x + y)) (T' a b) → ∃ (o4' o6' o9' : Option V) (T'' : Tb), [some (V.ref S), some (.ref R), some (.int N), some (.ref D), o4, some (.ref ra), o6, some (.int (0 + (m : Int))), some (.ref rm), some (.int (0 + (b : Int)))] = [some (.ref S), some (.ref R), some (.int N), some (.ref D), o4', some (.ref ra), o6', some (.int (0 + (m : Int))), some (.ref rm), o9'] ∧
              TabTo (upd H7 ra (.lst ((fl N fun b => oV (T' a b)).set b (.int (x + y))))) D N T'' rs ∧ Snd as T'' ∧ Via T0 T'' m (fun i j => j < N ∧ (i < a ∨ (i = a ∧ j < b + 1))) ∧ T'' a m ≠ none ∧ Same H (upd H7 ra (.lst ((fl N fun b => oV (T' a b)).set b (.int (x + y))))) := fun y hy hle => by
            obtain ⟨t8, s8⟩ := wr (x := some (x + y)) s7 t7 hra rfl hb'
            refine ⟨_, _, _, setT T' a b (some (x + y)), rfl, t8, p1.via hx hy, p2.set hle (fun i j h => ?_) (fun x0 y0 h1 h2 => ?_), fun z => ?_, s8⟩
            · by_cases e : i = a ∧ j = b
              · exact .inr e
              · refine .inl ⟨h.1, ?_⟩
                rcases h.2 with q | q
                · exact .inl q
                · exact .inr ⟨q.1, by have := q.2; have : j ≠ b := fun z => e ⟨q.1, z⟩; omega⟩
            · obtain ⟨x1, e1, l1⟩ := p2.le a m x0 h1
              obtain ⟨y1, e2, l2⟩ := p2.le m b y0 h2
              rw [hx] at e1
              rw [hy] at e2
              cases e1
              cases e2
              intro i hi
              cases hi
              exact ⟨_, rfl, by omega⟩
            · unfold setT at z
              split at z
              · cases z
              · exact hz0 z
          refine ⟨_, rfl, _, rfl, rm, _, _, _, rfl, rfl, SqL.of rowm, fl_at (i := b) (by omega) hb', rfl, _, rfl, ite2 (fun hy => ?_) (fun hy => ?_)⟩
          · obtain ⟨y, hy⟩ : ∃ y, T' m b = some y := by
              cases h : T' m b with
              | none =>
                have hz' : (!decide (oV (T' m b) = .non)) = true := hy
                rw [h] at hz'
                cases hz'
              | some y => exact ⟨y, rfl⟩
            have vx : oV (T' a m) = .int x := by rw [hx]; rfl
            have vy : oV (T' m b) = .int y := by rw [hy]; rfl
            refine ⟨_, rfl, _, rfl, ra, _, _, _, rfl, rfl, SqL.of row7, fl_at (i := b) (by omega) hb', rfl, _, rfl, ite2 (fun hw => ?_) (fun hw => ?_)⟩
            · have hw' : oV (T' a b) = .non := of_decide_eq_true hw
              refine ⟨_, rfl, _, rfl, ra, _, _, .int x, rfl, rfl, SqL.of row7, by rw [fl_at (i := m) (by omega) hm', vx], _, rfl, _, rfl, rm, _, _, .int y, rfl, rfl, SqL.of rowm, by rw [fl_at (i := b) (by omega) hb', vy], _, _, rfl, rfl, _, rfl, _, rfl, ra, _, _, b, rfl, rfl, row7, by rw [fl_len]; exact ixn (by omega) hb', put y hy ?_⟩
              intro i hi
              rw [hi] at hw'
              cases hw'
            · obtain ⟨z, hz⟩ : ∃ z, T' a b = some z := by
                cases h : T' a b with
                | none => exact absurd (decide_eq_true (show oV (T' a b) = .non by rw [h]; rfl)) hw
                | some y => exact ⟨y, rfl⟩
              have vz : oV (T' a b) = .int z := by rw [hz]; rfl
              refine ⟨_, rfl, _, rfl, ra, _, _, .int x, rfl, rfl, SqL.of row7, by rw [fl_at (i := m) (by omega) hm', vx], _, rfl, _, rfl, rm, _, _, .int y, rfl, rfl, SqL.of rowm, by rw [fl_at (i := b) (by omega) hb', vy], _, _, rfl, rfl, _, rfl, _, rfl, ra, _, _, .int z, rfl, rfl, SqL.of row7, by rw [fl_at (i := b) (by omega) hb', vz], _, _, rfl, rfl, _, rfl, ite2 (fun hl => ?_) (fun hl => ?_)⟩
              · have hl' : x + y < z := of_decide_eq_true hl
                refine ⟨_, rfl, _, rfl, ra, _, _, .int x, rfl, rfl, SqL.of row7, by rw [fl_at (i := m) (by omega) hm', vx], _, rfl, _, rfl, rm, _, _, .int y, rfl, rfl, SqL.of rowm, by rw [fl_at (i := b) (by omega) hb', vy], _, _, rfl, rfl, _, rfl, _, rfl, ra, _, _, b, rfl, rfl, row7, by rw [fl_len]; exact ixn (by omega) hb', put y hy ?_⟩
                intro i hi
                rw [hz] at hi
                cases hi
                exact ⟨_, rfl, by omega⟩
              · have hl' : ¬ x + y < z := fun q => hl (decide_eq_true q)
                refine ⟨_, _, _, T', rfl, t7, p1, idle fun x0 y0 h1 h2 => ?_, hz0, s7⟩
                obtain ⟨x1, e1, l1⟩ := p2.le a m x0 h1
                obtain ⟨y1, e2, l2⟩ := p2.le m b y0 h2
                rw [hx] at e1
                rw [hy] at e2
                cases e1
                cases e2
                intro i hi
                cases hi
                exact ⟨z, hz, by omega⟩
          · have hy0 : T' m b = none := by
              cases h : T' m b with
              | none => rfl
              | some y =>
                exfalso
                apply hy
                show (!decide (oV (T' m b) = .non)) = true
                rw [h]
                rfl
            refine ⟨_, _, _, T', rfl, t7, p1, idle fun x0 y0 h1 h2 => ?_, hz0, s7⟩
            obtain ⟨y1, e2, l2⟩ := p2.le m b y0 h2
            rw [hy0] at e2
            cases e2
        · rintro σ H7 ⟨o4, o6, o9, T', rfl, t7, p1, p2, hz0, s7⟩
          refine ⟨_, _, _, _, T', rfl, t7, p1, p2.keep fun i j h => .inl ⟨h.2, ?_⟩, s7⟩
          have := h.1
          have := h.2
          by_cases e : i = a
          · exact .inr ⟨e, by omega⟩
          · exact .inl (by omega)
      · have hz0 : T' a m = none := by
          cases h : T' a m with
          | none => rfl
          | some y =>
            exfalso
            apply hz
            show (!decide (oV (T' a m) = .non)) = true
            rw [h]
            rfl
        refine ⟨_, _, _, _, T', rfl, t6, p1, p2.keep fun i j h => ?_, s6⟩
        by_cases e : i = a
        · subst e
          refine .inr fun x y h1 h2 => ?_
          obtain ⟨x1, e1, l1⟩ := p2.le i m x h1
          rw [hz0] at e1
          cases e1
        · exact .inl ⟨by have := h.1; omega, h.2⟩
    · rintro σ H6 ⟨o4, o5, o6, o9, T', rfl, t6, p1, p2, s6⟩
      refine ⟨_, _, _, _, _, _, T', rfl, t6, p1, fun a => (p2.le a a).trans (q2 a), ?_, s6⟩
      rw [eN] at p2
      exact q3.step p2 hA
  · rintro σ H5 ⟨o4, o5, o6, o7, o8, o9, T', rfl, t5, q1, q2, q3, s5⟩
    rw [eN] at q3
    refine ⟨_, rfl, kk D T' H5 s5 ⟨rs, l2, t5⟩ ⟨q1, q3, fun a _ => q2 a⟩⟩
end
end Ell
set_option maxHeartbeats 4000000
namespace Ell
open PySem PySem.Spec PyProof.Rows L2
theorem for_enum {K : PySem.W.Frag} {a : Addr} {xs : List V} {g : TG} {tb : TS} {D : Ends} {σ : L2.St} {H : Hp} (Pv : Nat → L2.St → Hp → Prop) (h0 : Pv 0 σ H) (hl : ∀ i σ H, i ≤ xs.length → Pv i σ H → SqL K H a xs)
    (hs : ∀ i x T σ H, xs[i]? = some x → Pv i σ H → H T = none → g (.ref T) σ (upd H T (.tup [.int (i : Nat), x])) fun σ2 H2 => tb { D with nx := Pv (i + 1), ct := Pv (i + 1), bk := D.nx } σ2 H2) (hd : ∀ σ H, Pv xs.length σ H → D.nx σ H) :
    ∃ W : Nat → Nat → L2.St → Hp → Prop, (∃ m, W 0 m σ H) ∧ ∀ i m σ H, W i m σ H →
      ((Ite K a).stop i H ∧ D.nx σ H) ∨ ((Ite K a).go i H ∧ ∃ N : L2.St → Hp → Prop, (∀ σ' H', N σ' H' → ∃ m', m' < m ∧ W (i + 1) m' σ' H') ∧ ∀ x H', (Ite K a).yld i H x H' → g x σ H' fun σ2 H2 => tb { D with nx := N, ct := N, bk := D.nx } σ2 H2) := by
  refine ⟨fun i m σ H => m = xs.length - i ∧ i ≤ xs.length ∧ Pv i σ H, ⟨xs.length, by simp, Nat.zero_le _, h0⟩, ?_⟩
  rintro i m σ H ⟨rfl, hi, p⟩
  have q := hl i σ H hi p
  by_cases hlt : i < xs.length
  · refine .inr ⟨⟨xs, xs[i], q, by simp [hlt]⟩, Pv (i + 1), fun σ' H' p' => ⟨xs.length - (i + 1), by omega, rfl, hlt, p'⟩, fun x H' y => ?_⟩
    obtain ⟨T, x', rfl, hT, rfl, y⟩ := y
    exact hs i x' T σ _ (y xs q) p hT
  · have e : i = xs.length := by omega
    subst e
    exact .inl ⟨⟨xs, q, Nat.le_refl _⟩, hd σ H p⟩
theorem fl_const {N : Nat} {v : V} : (List.replicate N [v]).flatten = fl N fun _ => v := by
  induction N with
  | zero => rfl
  | succ n ih => 
    rw [List.replicate_succ', List.flatten_append, ih, fl_succ]
    rfl
/-- the levels, or the numbers of a ring's arcs -/
def spLevels (K : PySem.W.Frag) : Sp := fun vs H Q _ => ∃ (R : Addr) (N : Nat) (xs : List V) (as : List Arc), vs = [.int (N : Nat), .ref R] ∧ 1 ≤ N ∧ N ≤ 1000 ∧ H R = some (.lst xs) ∧ AVs H xs as ∧ as.length ≤ 1000 ∧ (∀ e ∈ as, e.1 < N ∧ e.2.1 < N) ∧ (∀ e ∈ as, e.1 ≠ e.2.1) ∧
  (∀ (p L : Addr) (lv : Nat → Int) (H' : Hp), Same H H' → H L = none → H' p = some (.tup [.ref L, .non]) → H' L = some (.lst (fl N fun v => .int (lv v))) → Pot as lv → Q (.ref p) H') ∧
  (∀ (p G : Addr) (is : List Nat) (r : List Arc) (a : Nat) (H' : Hp), Same H H' → H' p = some (.tup [.non, .ref G]) → H' G = some (.lst (is.map fun i => V.int (i : Nat))) → Paired (fun i e => as[i]? = some e) is r → Walk as r a a → r ≠ [] → (starts r).Nodup → wsum r < 0 → Q (.ref p) H')
section
variable {P : Program} {w : World} {K : PySem.W.Frag} {mg : Str → Option Value} {base : Heap}
theorem ok_levels (T : Tx K mg) : Cal P w K mg base CX0 1 "levels_or_ring" ["many", "arcs"] [] (spLevels K) := by
  obtain ⟨fd, F⟩ := T.f_levels_or_ring
  refine ⟨_, fd, [], F.ok sc_levels_or_ring (fun vs H Q E h => ?_) (fun cdv A outer s H vs Q E hr h => ?_), T.g_levels_or_ring, F.kp, F.bindsN fun _ _ _ _ _ _ us hl => match us, hl with | [_, _], _ => rfl, .nil⟩
  · obtain ⟨R, N, xs, as, rfl, _⟩ := h
    rfl
  obtain ⟨R, N, xs, as, rfl, n1, n2, eR, aR, hl, hN, hne, kk1, kk2⟩ := h
  refine ⟨_, PSs.nox ((pss_cons (ps_set (i := 2) sc_levels_or_ring.nd rfl (Or.inl rfl) (pe_op op_rep (pe_lst (pa_cons pe_int pa_nil)) (pv 0)))
        (pss_cons (ps_set (i := 3) sc_levels_or_ring.nd rfl (Or.inl rfl) (pe_op op_rep (pe_lst (pa_cons (pe_un un_neg pe_int) pa_nil)) (pv 0)))
        (pss_cons (ps_set (i := 4) sc_levels_or_ring.nd rfl (Or.inl rfl) pe_int)
        (pss_cons (ps_for PassesOwn.never rfl (pi_range1 (by rfl) T.b_range (pa_cons (pe_op op_add (pv 0) pe_int) pa_nil)) (pg_name (i := 5) sc_levels_or_ring.nd rfl (Or.inl rfl))
          (pss_cons (ps_set (i := 4) sc_levels_or_ring.nd rfl (Or.inl rfl) (pe_un un_neg pe_int))
          (pss_cons (ps_for PassesOwn.never rfl (pi_enumK K (by rfl) T.b_enumerate (pa_cons (pv 1) pa_nil)) (pg_tupK K rfl (pgs_cons (pg_name (i := 6) sc_levels_or_ring.nd rfl (Or.inl rfl)) (pgs_cons (pg_tupK K rfl (pgs_cons (pg_name (i := 7) sc_levels_or_ring.nd rfl (Or.inl rfl)) (pgs_cons (pg_name (i := 8) sc_levels_or_ring.nd rfl (Or.inl rfl)) (pgs_cons (pg_name (i := 9) sc_levels_or_ring.nd rfl (Or.inl rfl)) pgs_nil)))) pgs_nil)))
            (pss_one (ps_if (pt_cmpR op_lt (pe_op op_add (pe_ix (ix_listK K) (pv 2) (pv 7) (fun _ _ => rfl)) (pv 9)) (pe_ix (ix_listK K) (pv 2) (pv 8) (fun _ _ => rfl)) (nomark _)) (pss_cons (ps_asg (pe_op op_add (pe_ix (ix_listK K) (pv 2) (pv 7) (fun _ _ => rfl)) (pv 9)) (pg_sub (pv 2) (pv 8) set_list))
              (pss_cons (ps_asg (pv 6) (pg_sub (pv 3) (pv 8) set_list))
              (pss_one (ps_set (i := 4) sc_levels_or_ring.nd rfl (Or.inl rfl) (pv 8))))) pss_nil)))
          (pss_one (ps_if (pt_cmpR op_lt (pv 4) pe_int (nomark _)) (pss_one (ps_ret (pe_tup (pa_cons (pv 2) (pa_cons pe_non pa_nil))))) pss_nil)))))
        (pss_cons (ps_set (i := 10) sc_levels_or_ring.nd rfl (Or.inl rfl) (pv 4))
        (pss_cons (ps_for PassesOwn.never rfl (pi_range1 (by rfl) T.b_range (pa_cons (pv 0) pa_nil)) (pg_name (i := 5) sc_levels_or_ring.nd rfl (Or.inl rfl))
          (pss_one (ps_set (i := 10) sc_levels_or_ring.nd rfl (Or.inl rfl) (pe_ix (ix_tupK K) (pe_ix (ix_listK K) (pv 1) (pe_ix (ix_listK K) (pv 3) (pv 10) (fun _ _ => rfl)) (fun _ _ => rfl)) pe_int (fun _ _ => rfl)))))
        (pss_cons (ps_set (i := 11) sc_levels_or_ring.nd rfl (Or.inl rfl) (pe_lst pa_nil))
        (pss_cons (ps_set (i := 12) sc_levels_or_ring.nd rfl (Or.inl rfl) (pv 10))
        (pss_cons (ps_while PassesOwn.never (PW.pt (pw_or (pt_not (truthK K (pv 11) (fun _ => rfl))) (pw_or1 (pt_cmpR op_ne (pv 10) (pv 12) (nomark _)))))
          (pss_cons (ps_expr (bmK K PySem.F.plainAttrs_list PySem.F.slot_list_append PySem.F.type_list_append mt_append (pv 11) (pa_cons (pe_ix (ix_listK K) (pv 3) (pv 10) (fun _ _ => rfl)) pa_nil)))
          (pss_one (ps_set (i := 10) sc_levels_or_ring.nd rfl (Or.inl rfl) (pe_ix (ix_tupK K) (pe_ix (ix_listK K) (pv 1) (pe_ix (ix_listK K) (pv 3) (pv 10) (fun _ _ => rfl)) (fun _ _ => rfl)) pe_int (fun _ _ => rfl))))))
        (pss_cons (ps_expr (bm0K K PySem.F.plainAttrs_list PySem.F.slot_list_reverse PySem.F.type_list_reverse mt_reverse (pv 11)))
        (pss_one (ps_ret (pe_tup (pa_cons pe_non (pa_cons (pv 11) pa_nil)))))))))))))))), ?_⟩
  have la := pr_len aR
  have N0 : ((N : Int)).toNat = N := by omega
  refine ⟨(show 1 ≤ sizeLine by decide), fun p0 hp0 => ⟨_, rfl, p0, N, _, rfl, rfl, upd_same, by omega, by omega, by rw [N0]; exact sl1000 (by simp; omega), fun Lv hLv => ?_⟩⟩
  refine ⟨_, rfl, (show 1 ≤ sizeLine by decide), fun p1 hp1 => ⟨_, rfl, p1, N, _, rfl, rfl, upd_same, by omega, by omega, by rw [N0]; exact sl1000 (by simp; omega), fun Bf hBf => ?_⟩⟩
  rw [N0, fl_const] at hp1 hBf ⊢
  rw [fl_const] at ⊢
  have s1 : Same H (upd H p0 (.lst [.int 0])) := same_new hp0
  have fL : H Lv = none := s1.free hLv
  have s2 := (s1.trans (same_new (o := .lst (fl N fun _ => V.int 0)) hLv)).trans (same_new (o := .lst [V.int (-1)]) hp1)
  have fB : H Bf = none := s2.free hBf
  have nLB : Lv ≠ Bf := fun z => by
    subst z
    have h1 : (upd (upd H p0 (.lst [.int 0])) Lv (.lst (fl N fun _ => V.int 0))) Lv = some (.lst (fl N fun _ => V.int 0)) := upd_same
    have h2 := same_new (o := .lst [V.int (-1)]) hp1 _ _ h1
    rw [h2] at hBf
    cases hBf
  have e0L := (same_new (o := .lst (fl N fun _ => V.int (-1))) hBf) _ _ ((same_new (o := .lst [V.int (-1)]) hp1) _ _ (upd_same (H := upd H p0 (.lst [.int 0])) (a := Lv) (o := .lst (fl N fun _ => V.int 0))))
  have s3 := s2.trans (same_new (o := .lst (fl N fun _ => V.int (-1))) hBf)
  have e0B : upd (upd (upd (upd H p0 (.lst [.int 0])) Lv (.lst (fl N fun _ => V.int 0))) p1 (.lst [V.int (-1)])) Bf (.lst (fl N fun _ => V.int (-1))) Bf = some (.lst (fl N fun _ => V.int (-1))) := upd_same
  refine ⟨_, rfl, _, _, rfl, rfl, _, rfl, by omega, by omega, for_range (fun i σ H2 => ∃ (o5 o6 o7 o8 o9 o10 o11 o12 : Option V) (lv bf : Nat → Int) (ch : Int) (k s : Nat → Nat) (ck : Nat), σ = [some (.int N), some (.ref R), some (.ref Lv), some (.ref Bf), some (.int ch), o5, o6, o7, o8, o9, o10, o11, o12] ∧
    H2 Lv = some (.lst (fl N fun v => .int (lv v))) ∧ H2 Bf = some (.lst (fl N fun v => .int (bf v))) ∧ Same H H2 ∧ BF as N i as.length lv bf ch k s ck ∧ ¬ ch < 0) ?_ ?_ ?_⟩
  · exact ⟨none, none, none, none, none, none, none, none, _, _, 0, _, _, _, rfl, e0L, e0B, s3, BF.zero n1, by omega⟩
  · clear e0L e0B s3 s2 hBf hp1 hLv s1 hp0
    rintro i σ H2 hi ⟨o5, o6, o7, o8, o9, o10, o11, o12, lv, bf, ch, k, s, ck, rfl, eL, eB, s2, b2, hch⟩
    refine ⟨_, rfl, _, rfl, R, xs, rfl, SqL.of (s2 _ _ eR), for_enum (K := K) (a := R) (xs := xs) (fun j σ H3 => ∃ (o6 o7 o8 o9 : Option V) (lv bf : Nat → Int) (ch : Int) (k s : Nat → Nat) (ck : Nat), σ = [some (.int N), some (.ref R), some (.ref Lv), some (.ref Bf), some (.int ch), some (.int (0 + (i : Int))), o6, o7, o8, o9, o10, o11, o12] ∧
      H3 Lv = some (.lst (fl N fun v => .int (lv v))) ∧ H3 Bf = some (.lst (fl N fun v => .int (bf v))) ∧ Same H H3 ∧ BF as N (i + 1) j lv bf ch k s ck) ?_ (fun j σ H3 _ ⟨_, _, _, _, _, _, _, _, _, _, _, _, _, s3, _⟩ => SqL.of (s3 _ _ eR)) ?_ ?_⟩
    · exact ⟨_, _, _, _, lv, bf, -1, k, s, ck, rfl, eL, eB, s2, b2.turn⟩
    · clear eL eB s2 b2 hch
      rintro j x T σ H3 hj ⟨o6, o7, o8, o9, lv, bf, ch, k, s, ck, rfl, eL, eB, s3, b3⟩ hT
      obtain ⟨e, he, q, rfl, hq⟩ := pr_get (avs_mono aR (same_tp s3)) hj
      obtain ⟨ha, hb⟩ := hN e (List.mem_of_getElem? he)
      have sT := same_new (o := .tup [.int (j : Nat), .ref q]) hT
      have s4 := s3.trans sT
      have eL4 := sT _ _ eL
      have eB4 := sT _ _ eB
      refine ⟨T, _, rfl, SqT.of upd_same, rfl, _, _, rfl, _, _, rfl, q, _, rfl, SqT.of (sT _ _ hq), rfl, _, _, rfl, _, _, rfl, _, _, rfl, rfl, rfl, ?_⟩
      refine ⟨_, rfl, _, rfl, Lv, _, _, .int (lv e.1), rfl, rfl, SqL.of eL4, fl_at rfl ha, _, rfl, _, _, rfl, rfl, _, rfl, _, rfl, Lv, _, _, .int (lv e.2.1), rfl, rfl, SqL.of eL4, fl_at rfl hb, _, _, rfl, rfl, _, rfl, ite2 (fun h => ?_) (fun h => ?_)⟩
      · have h' : lv e.1 + e.2.2 < lv e.2.1 := of_decide_eq_true h
        refine ⟨_, rfl, _, rfl, Lv, _, _, .int (lv e.1), rfl, rfl, SqL.of eL4, fl_at rfl ha, _, rfl, _, _, rfl, rfl, _, rfl, _, rfl, Lv, _, _, e.2.1, rfl, rfl, eL4, by rw [fl_len]; exact ixn rfl hb, ?_⟩
        refine ⟨_, rfl, _, rfl, _, rfl, Bf, _, _, e.2.1, rfl, rfl, by rw [upd_ne nLB.symm]; exact eB4, by rw [fl_len]; exact ixn rfl hb, ?_⟩
        refine ⟨_, rfl, _, _, _, _, _, _, _, _, _, _, rfl, ?_, ?_, ?_, b3.relax he (hne e (List.mem_of_getElem? he)) hb (by omega) h'⟩
        · rw [upd_ne nLB, upd_same]
          congr 2
          exact fl_set (by rw [fset_same]) fun v hv => by rw [fset_ne hv]
        · rw [upd_same]
          congr 2
          exact fl_set (by rw [fset_same]) fun v hv => by rw [fset_ne hv]
        · intro c o ec
          rw [upd_ne (ne_of_none ec fB), upd_ne (ne_of_none ec fL)]
          exact s4 _ _ ec
      · exact ⟨_, _, _, _, lv, bf, ch, k, s, ck, rfl, eL4, eB4, s4, b3.idle he fun q => h (decide_eq_true q)⟩
    · clear eL eB s2 b2 hch
      rintro σ H3 ⟨o6, o7, o8, o9, lv, bf, ch, k, s, ck, rfl, eL, eB, s3, b3⟩
      rw [la] at b3
      refine ⟨_, rfl, _, _, rfl, rfl, _, rfl, ite2 (fun h => ?_) (fun h => ?_)⟩
      · refine ⟨_, rfl, (show 2 ≤ sizeLine by decide), fun p hp => ?_⟩
        have sp := same_new (o := .tup [.ref Lv, .non]) hp
        exact kk1 p Lv lv _ (s3.trans sp) fL upd_same (sp _ _ eL) (b3.pot (of_decide_eq_true h))
      · exact ⟨_, _, _, _, _, _, _, _, lv, bf, ch, k, s, ck, rfl, eL, eB, s3, b3, fun q => h (decide_eq_true q)⟩
  · clear e0L e0B s3 s2 hBf hp1 hLv s1 hp0
    rintro σ H2 ⟨o5, o6, o7, o8, o9, o10, o11, o12, lv, bf, ch, k, s, ck, rfl, eL, eB, s2, b2, hch⟩
    rw [show ((N : Int) + 1).toNat = N + 1 by omega] at b2
    obtain ⟨v0, mm, pr, px, pa, rfl, way, bk⟩ := b2.back hch hne
    have eR2 := s2 _ _ eR
    have a2 := avs_mono aR (same_tp s2)
    -- a step back
    have step : ∀ (v : Nat), v < N → as[px v]? = some (pa v) → bf v = (px v : Int) → ∃ q, xs[px v]? = some (.ref q) ∧ H2 q = some (.tup [.int ((pa v).1 : Nat), .int ((pa v).2.1 : Nat), .int (pa v).2.2]) ∧ atI (fl N fun v => V.int (bf v)) (v : Int) = some (.int (px v : Int)) := fun v hv h1 h2 => by
      obtain ⟨x, hx, q, rfl, hq⟩ := pr_get2 a2 h1
      exact ⟨q, hx, hq, by rw [fl_at rfl hv, h2]⟩
    refine ⟨_, rfl, _, rfl, _, rfl, by omega, by omega, for_range (fun i σ H3 => ∃ o5 : Option V, σ = [some (.int N), some (.ref R), some (.ref Lv), some (.ref Bf), some (.int (v0 : Nat)), o5, o6, o7, o8, o9, some (.int (it pr i v0 : Nat)), o11, o12] ∧ H3 = H2) ⟨_, rfl, rfl⟩ ?_ ?_⟩
    · rintro i σ H3 hi ⟨o5, rfl, rfl⟩
      obtain ⟨h1, h2, h3, h4⟩ := way i (by omega)
      obtain ⟨q, g1, g2, g3⟩ := step _ h1 h2 h3
      refine ⟨_, rfl, _, rfl, _, rfl, Bf, _, _, _, rfl, rfl, SqL.of eB, g3, R, xs, _, .ref q, rfl, rfl, SqL.of eR2, atI_nat g1, q, _, _, _, rfl, rfl, SqT.of g2, atI_nat (j := 0) rfl, some (.int (0 + (i : Int))), ?_, rfl⟩
      rw [← h4]
      rfl
    rintro σ H3 ⟨o5, rfl, rfl⟩
    rw [N0]
    generalize hP : it pr N v0 = p at bk ⊢
    refine ⟨Nat.zero_le _, fun G hG => ?_⟩
    have fG : H G = none := s2.free hG
    have sG := same_new (o := .lst []) hG
    refine ⟨_, rfl, ?_⟩
    refine ⟨fun m σ H4 => ∃ c, m = mm - c ∧ c ≤ mm ∧ (∀ i, 1 ≤ i → i < c → it pr i p ≠ p) ∧ σ = [some (.int N), some (.ref R), some (.ref Lv), some (.ref Bf), some (.int (v0 : Nat)), o5, o6, o7, o8, o9, some (.int (it pr c p : Nat)), some (.ref G), some (.int (p : Nat))] ∧
      H4 G = some (.lst (((List.range c).map fun i => px (it pr i p)).map fun i => V.int (i : Nat))) ∧ Same H3 H4, ⟨_, 0, rfl, Nat.zero_le _, (fun i h1 h2 => by omega), rfl, upd_same, sG⟩, ?_⟩
    rintro m σ H4 ⟨c, rfl, hcm, hmin, rfl, eG, s4⟩
    have kont : ∀ (D : Ends), c < mm → (∀ H5, H5 G = some (.lst (((List.range (c + 1)).map fun i => px (it pr i p)).map fun i => V.int (i : Nat))) → Same H3 H5 → D.nx [some (.int N), some (.ref R), some (.ref Lv), some (.ref Bf), some (.int (v0 : Nat)), o5, o6, o7, o8, o9, some (.int (it pr (c + 1) p : Nat)), some (.ref G), some (.int (p : Nat))] H5) →
        tSeq (tDrop (tBM K "list" rAppend (tVar 11) (tCons (tOp (rIxL K) (tVar 3) (tVar 10)) tNil))) (tAsg (tOp (rIxT K) (tOp (rIxL K) (tVar 1) (tOp (rIxL K) (tVar 3) (tVar 10))) (tC (V.int 0))) (gName 10)) D [some (.int N), some (.ref R), some (.ref Lv), some (.ref Bf), some (.int (v0 : Nat)), o5, o6, o7, o8, o9, some (.int (it pr c p : Nat)), some (.ref G), some (.int (p : Nat))] H4 := by
      intro D hc hh
      obtain ⟨h1, h2, h3, h4, h5⟩ := bk.at_ c
      obtain ⟨q, g1, g2, g3⟩ := step _ h1 h2 h3
      have eB4 := s4 _ _ eB
      have s5 : Same H3 (upd H4 G (.lst ((((List.range c).map fun i => px (it pr i p)).map fun i => V.int (i : Nat)) ++ [.int (px (it pr c p) : Nat)]))) := fun c o e => by
        rw [upd_ne (ne_of_none e hG)]
        exact s4 _ _ e
      refine ⟨_, rfl, .inl ⟨rfl, _, SqL.of eG⟩, _, rfl, _, rfl, Bf, _, _, _, rfl, rfl, SqL.of eB4, g3, G, _, _, rfl, rfl, eG, by simp; exact small1000 (by have := bk.mN; omega), ?_⟩
      refine ⟨_, rfl, _, rfl, _, rfl, Bf, _, _, _, rfl, rfl, SqL.of (s5 _ _ eB), g3, R, xs, _, .ref q, rfl, rfl, SqL.of (s5 _ _ eR2), atI_nat g1, q, _, _, _, rfl, rfl, SqT.of (s5 _ _ g2), atI_nat (j := 0) rfl, ?_⟩
      rw [h5]
      refine hh _ ?_ s5
      rw [upd_same, List.range_succ, List.map_append, List.map_append]
      rfl
    have lenG : (((List.range c).map fun i => px (it pr i p)).map fun i => V.int (i : Nat)).length = c := by simp
    have nxt : (c = 0 ∨ it pr c p ≠ p) → c < mm ∧ (∀ i, 1 ≤ i → i < c + 1 → it pr i p ≠ p) := fun q => by
      refine ⟨Nat.lt_of_le_of_ne hcm fun z => ?_, fun i h1 h2 => ?_⟩
      · subst z
        have := bk.m1
        rcases q with q | q
        · omega
        · exact q bk.loop
      · by_cases e : i = c
        · subst e
          rcases q with q | q
          · omega
          · exact q
        · exact hmin i h1 (by omega)
    refine ⟨_, rfl, _, .inl ⟨_, SqL.of eG, rfl⟩, ite2 (fun hE => ?_) (fun hE => ?_)⟩
    · have c0 : c = 0 := by
        cases c with
        | zero => rfl
        | succ c =>
          exfalso
          cases hl : ((List.range (c + 1)).map fun i => px (it pr i p)).map fun i => V.int (i : Nat) with
          | nil => rw [hl] at lenG; cases lenG
          | cons a r => rw [hl] at hE; cases hE
      obtain ⟨q1, q2⟩ := nxt (.inl c0)
      refine ⟨fun σ' H5 => ∃ m', m' < mm - c ∧ ∃ c, m' = mm - c ∧ c ≤ mm ∧ (∀ i, 1 ≤ i → i < c → it pr i p ≠ p) ∧ σ' = [some (.int N), some (.ref R), some (.ref Lv), some (.ref Bf), some (.int (v0 : Nat)), o5, o6, o7, o8, o9, some (.int (it pr c p : Nat)), some (.ref G), some (.int (p : Nat))] ∧
        H5 G = some (.lst (((List.range c).map fun i => px (it pr i p)).map fun i => V.int (i : Nat))) ∧ Same H3 H5, fun σ' H' h => h, ?_⟩
      refine kont _ q1 fun H5 e5 s5 => ⟨mm - (c + 1), by omega, c + 1, rfl, q1, q2, rfl, e5, s5⟩
    · refine ⟨_, rfl, _, rfl, rfl, _, rfl, ite2 (fun hq => ?_) (fun hq => ?_)⟩
      · obtain ⟨q1, q2⟩ := nxt (.inr fun z => by rw [z] at hq; simp at hq)
        refine ⟨fun σ' H5 => ∃ m', m' < mm - c ∧ ∃ c, m' = mm - c ∧ c ≤ mm ∧ (∀ i, 1 ≤ i → i < c → it pr i p ≠ p) ∧ σ' = [some (.int N), some (.ref R), some (.ref Lv), some (.ref Bf), some (.int (v0 : Nat)), o5, o6, o7, o8, o9, some (.int (it pr c p : Nat)), some (.ref G), some (.int (p : Nat))] ∧
          H5 G = some (.lst (((List.range c).map fun i => px (it pr i p)).map fun i => V.int (i : Nat))) ∧ Same H3 H5, fun σ' H' h => h, ?_⟩
        refine kont _ q1 fun H5 e5 s5 => ⟨mm - (c + 1), by omega, c + 1, rfl, q1, q2, rfl, e5, s5⟩
      · have hp : it pr c p = p := by
          apply Classical.byContradiction
          intro z
          apply hq
          show (!decide (V.int (it pr c p : Nat) = V.int (p : Nat))) = true
          rw [decide_eq_false (fun e => by injection e with e; exact z (by omega))]
          rfl
        have c1 : 1 ≤ c := by
          cases c with
          | zero => exact absurd rfl hE
          | succ c => omega
        -- the ring
        refine ⟨_, rfl, .inl ⟨rfl, _, SqL.of eG⟩, G, _, rfl, rfl, eG, ?_⟩
        refine ⟨_, rfl, (show 2 ≤ sizeLine by decide), fun pt hpt => ?_⟩
        have s5 : Same H3 (upd H4 G (.lst ((((List.range c).map fun i => px (it pr i p)).map fun i => V.int (i : Nat))).reverse)) := fun c o e => by
          rw [upd_ne (ne_of_none e hG)]
          exact s4 _ _ e
        have sp := same_new (o := .tup [.non, .ref G]) hpt
        refine kk2 pt G ((List.range c).map fun i => px (it pr i p)).reverse ((List.range c).map fun i => pa (it pr i p)).reverse p _ ((s2.trans s5).trans sp) upd_same ?_ ?_ ?_ ?_ (back_nd bk hp hmin) (bk.neg c c1 hp hmin)
        · refine sp _ _ ?_
          rw [upd_same, List.map_reverse]
        · have : ∀ l : List Nat, Paired (fun (i : Nat) (e : Arc) => as[i]? = some e) (l.map fun i => px (it pr i p)) (l.map fun i => pa (it pr i p)) := fun l => by
            induction l with
            | nil => exact .nil
            | cons a r ih => exact .cons (bk.at_ a).2.1 ih
          rw [← List.map_reverse, ← List.map_reverse]
          exact this _
        · have := back_walk bk c
          rw [hp] at this
          exact this
        · intro z
          have := congrArg List.length z
          simp at this
          omega
end
end Ell
set_option maxHeartbeats 4000000
namespace Ell
open PySem PySem.Spec PyProof.Rows L2
/-! ### numbers and spots of the program -/
def spIsInt : Sp := fun vs H Q _ => ∃ (i : Int) (lo : V), vs = [.int i, lo, .non] ∧ ((lo = .non ∧ Q (.bl true) H) ∨ ∃ l, lo = .int l ∧ Q (.bl (decide (l ≤ i))) H)
def IsSpotV (H : Hp) (v : V) : Prop := ∃ k, TK H v k ∧ IsSp k
def spIsSpot : Sp := fun vs H Q _ => ∃ (v : V) (k : List Key), vs = [v] ∧ TK H v k ∧ IsSp k ∧ Q (.bl true) H
/-- a ratio -/
def RV (H : Hp) (v : V) (n d : Int) : Prop := ∃ p, v = .ref p ∧ H p = some (.tup [.int n, .int d])
theorem RV.mono {H H' : Hp} {v : V} {n d : Int} (h : RV H v n d) (t : TP H H') : RV H' v n d := by
  obtain ⟨p, e, q⟩ := h
  exact ⟨p, e, t _ _ q⟩
def spRatioP : Sp := fun vs H Q _ => ∃ n d : Int, vs = [.int n, .int d] ∧ 1 ≤ d ∧ d ≤ 4 ∧ ∀ (p : Addr) (g : Int), 1 ≤ g → g ∣ n → g ∣ d → H p = none → Q (.ref p) (upd H p (.tup [.int (n / g), .int (d / g)]))
def spIsRatP : Sp := fun vs H Q _ => ∃ (v : V) (n d : Int), vs = [v] ∧ RV H v n d ∧ 1 ≤ d ∧ Nat.gcd n.natAbs d.natAbs = 1 ∧ Q (.bl true) H
section
variable {P : Program} {w : World} {K : PySem.W.Frag} {mg : Str → Option Value} {base : Heap}
theorem fn_is_integer (T : Tx K mg) : ∃ fd, FunD K "is_integer" "is_integer" (defArgs s_is_integer) (defBody s_is_integer) (defScope s_is_integer) [.non, .non] [] (He.ga K "is_integer") fd ∧ FnOk P w K mg base CX0 1 (He.ga K "is_integer") fd ["thing", "low", "high"] spIsInt := by
  obtain ⟨fd, F⟩ := T.f_is_integer
  refine ⟨fd, F, F.ok sc_is_integer (fun vs H Q E h => ?_) (fun cdv A outer s H vs Q E hr h => ?_)⟩
  · obtain ⟨i, lo, rfl, _⟩ := h
    rfl
  obtain ⟨i, lo, rfl, h⟩ := h
  refine ⟨_, PSs.nox ((pss_cons (ps_if (PW.pt (pw_or (pt_not (pt_val (pe_callB (isiK K) (by rfl) T.b_isinstance (by decide +kernel) (pa_cons (pv 0) (pa_cons (pe_bltn (v := .ty "int") (u := .type "int") (by rfl) T.b_int (by decide +kernel) rfl) pa_nil))))) (pw_or1 (pt_val (pe_callB (isiK K) (by rfl) T.b_isinstance (by decide +kernel) (pa_cons (pv 0) (pa_cons (pe_bltn (v := .ty "bool") (u := .type "bool") (by rfl) T.b_bool (by decide +kernel) rfl) pa_nil))))))) (pss_one (ps_ret pe_bl)) pss_nil)
        (pss_one (ps_ret (pe_and (pe_or (pe_cmpR op_isN (pv 1) pe_non (nomark _)) (pe_one (pe_cmpR op_le (pv 1) (pv 0) (nomark _)))) (pe_one (pe_or (pe_cmpR op_isN (pv 2) pe_non (nomark _)) (pe_one (pe_cmpR op_le (pv 0) (pv 2) (nomark _)))))))))), ?_⟩
  refine ⟨_, rfl, _, _, _, _, true, rfl, .ty "int", .base (.int _), kII, true, rfl, _, rfl, _, _, _, _, false, rfl, .ty "bool", .base (.int _), kIB, false, rfl, ?_⟩
  rcases h with ⟨rfl, kk⟩ | ⟨l, rfl, kk⟩
  · exact ⟨_, rfl, rfl, _, rfl, true, rfl, _, rfl, rfl, _, rfl, kk⟩
  · refine ⟨_, rfl, rfl, _, rfl, _, rfl, _, rfl, _, _, rfl, rfl, _, rfl, ?_⟩
    exact ite2 (fun hl => ⟨_, rfl, rfl, _, rfl, by rw [hl] at kk; exact kk⟩) (fun hl => by rw [Bool.not_eq_true] at hl; rw [hl] at kk; exact kk)
theorem ok_is_integer (T : Tx K mg) : Cal P w K mg base CX0 1 "is_integer" ["thing", "low", "high"] [.non, .non] spIsInt := by
  obtain ⟨fd, F, FO⟩ := fn_is_integer (P := P) (w := w) (base := base) T
  obtain ⟨ds, hd, hb⟩ := F.binds1 (ps := ["thing", "low", "high"]) 1 0 (fun z => by cases z) rfl fun _ _ _ _ _ _ _ us its hu hi => match us, its, hu, hi with | [_], [_, _], _, _ => ⟨_, rfl, rfl⟩
  exact ⟨_, fd, ds, FO, T.g_is_integer, F.kp, hb, hd⟩
theorem ok_is_integer2 (T : Tx K mg) : Cal P w K mg base CX0 1 "is_integer" ["thing", "low", "high"] [.non] spIsInt := by
  obtain ⟨fd, F, FO⟩ := fn_is_integer (P := P) (w := w) (base := base) T
  obtain ⟨ds, hd, hb⟩ := F.binds1 (ps := ["thing", "low", "high"]) 2 1 (fun z => by cases z) rfl fun _ _ _ _ _ _ _ us its hu hi => match us, its, hu, hi with | [_, _], [_, _], _, _ => ⟨_, rfl, rfl⟩
  exact ⟨_, fd, ds, FO, T.g_is_integer, F.kp, hb, hd⟩
theorem ok_is_spot (T : Tx K mg) (c_is_integer : Cal P w K mg base CX0 1 "is_integer" ["thing", "low", "high"] [.non, .non] spIsInt) : Cal P w K mg base CX0 2 "is_spot" ["thing"] [] spIsSpot := by
  obtain ⟨fd, F⟩ := T.f_is_spot
  refine ⟨_, fd, [], F.ok sc_is_spot (fun vs H Q E h => ?_) (fun cdv A outer s H vs Q E hr h => ?_), T.g_is_spot, F.kp, F.bindsN fun _ _ _ _ _ _ us hl => match us, hl with | [_], _ => rfl, .nil⟩
  · obtain ⟨v, k, rfl, _⟩ := h
    rfl
  obtain ⟨v, k, rfl, ⟨p, rfl, hp, _⟩, ⟨n, i, j, rfl⟩, kk⟩ := h
  have hT : SqT K H p _ := SqT.of hp
  refine ⟨_, PSs.nox ((pss_cons (ps_if (PW.pt (pw_or (pt_not (pt_val (pe_callB (isiK K) (by rfl) T.b_isinstance (by decide +kernel) (pa_cons (pv 0) (pa_cons (pe_bltn (v := .ty "tuple") (u := .type "tuple") (by rfl) T.b_tuple (by decide +kernel) rfl) pa_nil))))) (pw_or1 (pt_cmpR op_ne (pe_callB (call_lenK K) (by rfl) T.b_len PySem.boot_len (pa_cons (pv 0) pa_nil)) pe_int (nomark _))))) (pss_one (ps_ret pe_bl)) pss_nil)
        (pss_one (ps_ret (pe_and (pe_callB (isiK K) (by rfl) T.b_isinstance (by decide +kernel) (pa_cons (pe_ix (ix_tupK K) (pv 0) pe_int (fun _ _ => rfl)) (pa_cons (pe_bltn (v := .ty "str") (u := .type "str") (by rfl) T.b_str (by decide +kernel) rfl) pa_nil))) (pe_and (pcall c_is_integer hr (pa_cons (pe_ix (ix_tupK K) (pv 0) pe_int (fun _ _ => rfl)) pa_nil)) (pe_one (pcall c_is_integer hr (pa_cons (pe_ix (ix_tupK K) (pv 0) pe_int (fun _ _ => rfl)) pa_nil))))))))), ?_⟩
  refine ⟨_, rfl, _, _, _, _, true, rfl, .ty "tuple", .base (.tup (hp)), kTT, true, rfl, ?_⟩
  refine ⟨_, rfl, _, 3, rfl, .inr ⟨_, hT, rfl⟩, rfl, _, rfl, ?_⟩
  refine ⟨_, rfl, p, _, _, _, rfl, rfl, hT, atI_nat (j := 0) rfl, _, _, _, _, true, rfl, .ty "str", .base (.str _), kSS, true, rfl, ?_⟩
  refine ⟨_, rfl, p, _, _, _, rfl, rfl, hT, atI_nat (j := 1) rfl, i, .non, rfl, .inl ⟨rfl, true, rfl, ?_⟩⟩
  exact ⟨_, rfl, p, _, _, _, rfl, rfl, hT, atI_nat (j := 2) rfl, j, .non, rfl, .inl ⟨rfl, kk⟩⟩
theorem ok_ratio (T : Tx K mg) : Cal P w K mg base CX0 1 "ratio" ["n", "d"] [] spRatioP := by
  obtain ⟨fd, F⟩ := T.f_ratio
  obtain ⟨ds, hd, hb⟩ := F.binds1 (ps := ["n", "d"]) 2 1 (fun z => by cases z) rfl fun _ _ _ _ _ _ _ us its hu hi => match us, its, hu, hi with | [_, _], [_], _, _ => ⟨_, rfl, rfl⟩
  refine ⟨_, fd, ds, F.ok sc_ratio (fun vs H Q E h => ?_) (fun cdv A outer s H vs Q E hr h => ?_), T.g_ratio, F.kp, hb, hd⟩
  · obtain ⟨n, d, rfl, _⟩ := h
    rfl
  · obtain ⟨n, d, rfl, d1, d2, kk⟩ := h
    refine ⟨_, PSs.nox ((pss_cons (ps_if (pt_cmpR op_eq (pv 1) pe_int (nomark _)) (pss_one ps_never) pss_nil)
        (pss_cons (ps_set (i := 2) sc_ratio.nd rfl (Or.inl rfl) (pe_callBfun cr_gcd (by rfl) T.g_gcd (pa_cons (pv 0) (pa_cons (pv 1) pa_nil))))
        (pss_cons (ps_if (pt_cmpR op_lt (pv 1) pe_int (nomark _)) (pss_one (ps_set (i := 2) sc_ratio.nd rfl (Or.inl rfl) (pe_un un_neg (pv 2)))) pss_nil)
        (pss_one (ps_ret (pe_tup (pa_cons (pe_op op_fdiv (pv 0) (pv 2)) (pa_cons (pe_op op_fdiv (pv 1) (pv 2)) pa_nil))))))))), ?_⟩
    have g1 : 1 ≤ Nat.gcd n.natAbs d.natAbs := Nat.gcd_pos_of_pos_right _ (by omega)
    refine ⟨_, rfl, rfl, _, rfl, ite2 (fun hz => ?_) (fun _ => ?_)⟩
    · exfalso
      have hz : V.int d = V.int 0 := of_decide_eq_true hz
      injection hz
      omega
    refine ⟨_, rfl, _, rfl, n, d, rfl, ?_⟩
    refine ⟨_, rfl, _, _, rfl, rfl, _, rfl, ite2 (fun hz => ?_) (fun _ => ?_)⟩
    · exfalso
      have hz : d < 0 := of_decide_eq_true hz
      omega
    have g2 : Nat.gcd n.natAbs d.natAbs ≤ d.natAbs := Nat.gcd_le_right _ (by omega)
    have gd : ∀ x : Int, CDiv x ((Nat.gcd n.natAbs d.natAbs : Nat) : Int) := fun x => ⟨by omega, by omega⟩
    exact ⟨_, rfl, _, rfl, _, _, rfl, rfl, gd _, _, rfl, _, rfl, _, _, rfl, rfl, gd _, (show 2 ≤ sizeLine by decide), fun p hp => kk p _ (by omega) (Int.ofNat_dvd_left.mpr (Nat.gcd_dvd_left _ _)) (Int.ofNat_dvd_left.mpr (Nat.gcd_dvd_right _ _)) hp⟩
def spMinus : Sp := fun vs H Q _ => ∃ (v v' : V) (n d n' d' : Int), vs = [v, v'] ∧ RV H v n d ∧ RV H v' n' d' ∧ 1 ≤ d ∧ d ≤ 2 ∧ 1 ≤ d' ∧ d' ≤ 2 ∧
  ∀ (p : Addr) (N D : Int) (H' : Hp), Same H H' → RV H' (.ref p) N D → 1 ≤ D → D ≤ 4 → N * (d * d') = (n * d' - n' * d) * D → Q (.ref p) H'
def spCompare : Sp := fun vs H Q _ => ∃ (v v' : V) (n d w : Int), vs = [v, v'] ∧ RV H v n d ∧ RV H v' w 1 ∧ 1 ≤ d ∧ d ≤ 4 ∧ ∀ c : Int, (c ≤ 0 ↔ n ≤ w * d) → Q (.int c) H
theorem ok_minus (T : Tx K mg) (c_ratio : Cal P w K mg base CX0 1 "ratio" ["n", "d"] [] spRatioP) : Cal P w K mg base CX0 2 "minus" ["a", "b"] [] spMinus := by
  obtain ⟨fd, F⟩ := T.f_minus
  refine ⟨_, fd, [], F.ok sc_minus (fun vs H Q E h => ?_) (fun cdv A outer s H vs Q E hr h => ?_), T.g_minus, F.kp, F.bindsN fun _ _ _ _ _ _ us hl => match us, hl with | [_, _], _ => rfl, .nil⟩
  · obtain ⟨v, v', n, d, n', d', rfl, _⟩ := h
    rfl
  obtain ⟨v, v', n, d, n', d', rfl, ⟨p, rfl, hp⟩, ⟨q, rfl, hq⟩, d1, d2, d1', d2', kk⟩ := h
  have hP : SqT K H p _ := SqT.of hp
  have hQ : SqT K H q _ := SqT.of hq
  have slow : tRet (tCall spRatioP [] E0 (tCons (tOp (rI0 fun i j => V.int (i - j)) (tOp (rI CMul fun i j => V.int (i * j)) (tOp (rIxT K) (tVar 0) (tC (.int 0))) (tOp (rIxT K) (tVar 1) (tC (.int 1)))) (tOp (rI CMul fun i j => V.int (i * j)) (tOp (rIxT K) (tVar 1) (tC (.int 0))) (tOp (rIxT K) (tVar 0) (tC (.int 1)))))
      (tCons (tOp (rI CMul fun i j => V.int (i * j)) (tOp (rIxT K) (tVar 0) (tC (.int 1))) (tOp (rIxT K) (tVar 1) (tC (.int 1)))) tNil))) { nx := fun x H' => Q V.non H', rt := Q } [some (.ref p), some (.ref q)] H := by
    refine ⟨_, rfl, p, _, _, .int n, rfl, rfl, hP, atI_nat (j := 0) rfl, _, rfl, q, _, _, .int d', rfl, rfl, hQ, atI_nat (j := 1) rfl, _, _, rfl, rfl, .inr ⟨by omega, by omega⟩, ?_⟩
    refine ⟨_, rfl, q, _, _, .int n', rfl, rfl, hQ, atI_nat (j := 0) rfl, _, rfl, p, _, _, .int d, rfl, rfl, hP, atI_nat (j := 1) rfl, _, _, rfl, rfl, .inr ⟨by omega, by omega⟩, _, _, rfl, rfl, ?_⟩
    refine ⟨_, rfl, p, _, _, .int d, rfl, rfl, hP, atI_nat (j := 1) rfl, _, rfl, q, _, _, .int d', rfl, rfl, hQ, atI_nat (j := 1) rfl, _, _, rfl, rfl, .inr ⟨by omega, by omega⟩, ?_⟩
    have e1 : 1 ≤ d * d' ∧ d * d' ≤ 4 := by
      have hd : d = 1 ∨ d = 2 := by omega
      have hd' : d' = 1 ∨ d' = 2 := by omega
      rcases hd with rfl | rfl <;> rcases hd' with rfl | rfl <;> decide
    refine ⟨_, _, rfl, e1.1, e1.2, fun r g g1 gx gy hr => ?_⟩
    obtain ⟨x, hx⟩ := gx
    obtain ⟨y, hy⟩ := gy
    have ex : (n * d' - n' * d) / g = x := by rw [hx]; exact Int.mul_ediv_cancel_left _ (by omega)
    have ey : d * d' / g = y := by rw [hy]; exact Int.mul_ediv_cancel_left _ (by omega)
    have y1 : 1 ≤ y := by
      rcases Int.lt_or_le 0 y with h | h
      · omega
      · have : g * y ≤ 0 := Int.mul_nonpos_of_nonneg_of_nonpos (by omega) h
        omega
    have y2 : y ≤ 4 := by
      have : 1 * y ≤ g * y := Int.mul_le_mul_of_nonneg_right g1 (by omega)
      omega
    refine kk r x y _ (same_new hr) ⟨r, rfl, ?_⟩ y1 y2 ?_
    · rw [upd_same]
      show some (HO.tup [.int ((n * d' - n' * d) / g), .int (d * d' / g)]) = _
      rw [ex, ey]
    · rw [hx, hy, ← Int.mul_assoc, Int.mul_comm x g]
  refine ⟨_, PSs.nox ((pss_cons (ps_if (PW.pt (pw_and (pt_cmpR op_eq (pe_ix (ix_tupK K) (pv 0) pe_int (fun _ _ => rfl)) pe_int (nomark _)) (pw_and1 (pt_cmpR op_eq (pe_ix (ix_tupK K) (pv 1) pe_int (fun _ _ => rfl)) pe_int (nomark _))))) (pss_one (ps_ret (pe_tup (pa_cons (pe_op op_sub (pe_ix (ix_tupK K) (pv 0) pe_int (fun _ _ => rfl)) (pe_ix (ix_tupK K) (pv 1) pe_int (fun _ _ => rfl))) (pa_cons pe_int pa_nil))))) pss_nil)
        (pss_one (ps_ret (pcall c_ratio hr (pa_cons (pe_op op_sub (pe_op op_mul (pe_ix (ix_tupK K) (pv 0) pe_int (fun _ _ => rfl)) (pe_ix (ix_tupK K) (pv 1) pe_int (fun _ _ => rfl))) (pe_op op_mul (pe_ix (ix_tupK K) (pv 1) pe_int (fun _ _ => rfl)) (pe_ix (ix_tupK K) (pv 0) pe_int (fun _ _ => rfl)))) (pa_cons (pe_op op_mul (pe_ix (ix_tupK K) (pv 0) pe_int (fun _ _ => rfl)) (pe_ix (ix_tupK K) (pv 1) pe_int (fun _ _ => rfl))) pa_nil))))))), ?_⟩
  refine ⟨_, rfl, p, _, _, .int d, rfl, rfl, hP, atI_nat (j := 1) rfl, rfl, _, rfl, ite2 (fun h1 => ?_) (fun _ => slow)⟩
  refine ⟨_, rfl, q, _, _, .int d', rfl, rfl, hQ, atI_nat (j := 1) rfl, rfl, _, rfl, ite2 (fun h2 => ?_) (fun _ => slow)⟩
  have e1 : V.int d = V.int 1 := of_decide_eq_true h1
  have e2 : V.int d' = V.int 1 := of_decide_eq_true h2
  injection e1 with e1
  injection e2 with e2
  refine ⟨_, rfl, p, _, _, .int n, rfl, rfl, hP, atI_nat (j := 0) rfl, _, rfl, q, _, _, .int n', rfl, rfl, hQ, atI_nat (j := 0) rfl, _, _, rfl, rfl, (show 2 ≤ sizeLine by decide), fun r hr => kk r (n - n') 1 _ (same_new hr) ⟨r, rfl, upd_same⟩ (by omega) (by omega) ?_⟩
  subst e1 e2
  omega
theorem ok_compare (T : Tx K mg) : Cal P w K mg base CX0 1 "compare" ["a", "b"] [] spCompare := by
  obtain ⟨fd, F⟩ := T.f_compare
  refine ⟨_, fd, [], F.ok sc_compare (fun vs H Q E h => ?_) (fun cdv A outer s H vs Q E hr h => ?_), T.g_compare, F.kp, F.bindsN fun _ _ _ _ _ _ us hl => match us, hl with | [_, _], _ => rfl, .nil⟩
  · obtain ⟨v, v', n, d, w, rfl, _⟩ := h
    rfl
  obtain ⟨v, v', n, d, w, rfl, ⟨p, rfl, hp⟩, ⟨q, rfl, hq⟩, d1, d2, kk⟩ := h
  have hP : SqT K H p _ := SqT.of hp
  have hQ : SqT K H q _ := SqT.of hq
  refine ⟨_, PSs.nox ((pss_cons (ps_set (i := 2) sc_compare.nd rfl (Or.inl rfl) (pe_op op_mul (pe_ix (ix_tupK K) (pv 0) pe_int (fun _ _ => rfl)) (pe_ix (ix_tupK K) (pv 1) pe_int (fun _ _ => rfl))))
        (pss_cons (ps_set (i := 3) sc_compare.nd rfl (Or.inl rfl) (pe_op op_mul (pe_ix (ix_tupK K) (pv 1) pe_int (fun _ _ => rfl)) (pe_ix (ix_tupK K) (pv 0) pe_int (fun _ _ => rfl))))
        (pss_cons (ps_if (pt_cmpR op_lt (pv 2) (pv 3) (nomark _)) (pss_one (ps_ret (pe_un un_neg pe_int))) pss_nil)
        (pss_cons (ps_if (pt_cmpR op_gt (pv 2) (pv 3) (nomark _)) (pss_one (ps_ret pe_int)) pss_nil)
        (pss_one (ps_ret pe_int))))))), ?_⟩
  refine ⟨_, rfl, p, _, _, .int n, rfl, rfl, hP, atI_nat (j := 0) rfl, _, rfl, q, _, _, .int 1, rfl, rfl, hQ, atI_nat (j := 1) rfl, _, _, rfl, rfl, .inr ⟨by omega, by omega⟩, ?_⟩
  refine ⟨_, rfl, q, _, _, .int w, rfl, rfl, hQ, atI_nat (j := 0) rfl, _, rfl, p, _, _, .int d, rfl, rfl, hP, atI_nat (j := 1) rfl, _, _, rfl, rfl, .inr ⟨by omega, by omega⟩, ?_⟩
  refine ⟨_, rfl, _, rfl, _, _, rfl, rfl, _, rfl, ite2 (fun h1 => ?_) (fun h1 => ?_)⟩
  · have h1 : n * 1 < w * d := of_decide_eq_true h1
    exact ⟨_, rfl, kk _ ⟨fun _ => by omega, fun _ => by decide⟩⟩
  have h1 : ¬ n * 1 < w * d := fun z => h1 (decide_eq_true z)
  refine ⟨_, rfl, _, rfl, _, _, rfl, rfl, _, rfl, ite2 (fun h2 => ?_) (fun h2 => ?_)⟩
  · have h2 : w * d < n * 1 := of_decide_eq_true h2
    exact kk _ ⟨fun z => absurd z (by decide), fun z => by omega⟩
  have h2 : ¬ w * d < n * 1 := fun z => h2 (decide_eq_true z)
  exact kk _ ⟨fun _ => by omega, fun _ => by decide⟩
theorem ok_is_ratio (T : Tx K mg) (c_is_integer : Cal P w K mg base CX0 1 "is_integer" ["thing", "low", "high"] [.non, .non] spIsInt) (c_is_integer_2 : Cal P w K mg base CX0 1 "is_integer" ["thing", "low", "high"] [.non] spIsInt) : Cal P w K mg base CX0 2 "is_ratio" ["thing"] [] spIsRatP := by
  obtain ⟨fd, F⟩ := T.f_is_ratio
  refine ⟨_, fd, [], F.ok sc_is_ratio (fun vs H Q E h => ?_) (fun cdv A outer s H vs Q E hr h => ?_), T.g_is_ratio, F.kp, F.bindsN fun _ _ _ _ _ _ us hl => match us, hl with | [_], _ => rfl, .nil⟩
  · obtain ⟨v, n, d, rfl, _⟩ := h
    rfl
  obtain ⟨v, n, d, rfl, ⟨p, rfl, hp⟩, d1, hg, kk⟩ := h
  have hT : SqT K H p _ := SqT.of hp
  refine ⟨_, PSs.nox ((pss_cons (ps_if (PW.pt (pw_or (pt_not (pt_val (pe_callB (isiK K) (by rfl) T.b_isinstance (by decide +kernel) (pa_cons (pv 0) (pa_cons (pe_bltn (v := .ty "tuple") (u := .type "tuple") (by rfl) T.b_tuple (by decide +kernel) rfl) pa_nil))))) (pw_or1 (pt_cmpR op_ne (pe_callB (call_lenK K) (by rfl) T.b_len PySem.boot_len (pa_cons (pv 0) pa_nil)) pe_int (nomark _))))) (pss_one (ps_ret pe_bl)) pss_nil)
        (pss_cons (ps_asg (pv 0) (pg_tupK K rfl (pgs_cons (pg_name (i := 1) sc_is_ratio.nd rfl (Or.inl rfl)) (pgs_cons (pg_name (i := 2) sc_is_ratio.nd rfl (Or.inl rfl)) pgs_nil))))
        (pss_one (ps_ret (pe_and (pcall c_is_integer hr (pa_cons (pv 1) pa_nil)) (pe_and (pcall c_is_integer_2 hr (pa_cons (pv 2) (pa_cons pe_int pa_nil))) (pe_one (pe_cmpR op_eq (pe_callBfun cr_gcd (by rfl) T.g_gcd (pa_cons (pv 1) (pa_cons (pv 2) pa_nil))) pe_int (nomark _)))))))))), ?_⟩
  refine ⟨_, rfl, _, _, _, _, true, rfl, .ty "tuple", .base (.tup (hp)), kTT, true, rfl, ?_⟩
  refine ⟨_, rfl, _, 2, rfl, .inr ⟨_, hT, rfl⟩, rfl, _, rfl, ?_⟩
  refine ⟨_, rfl, p, _, rfl, hT, rfl, _, _, rfl, _, _, rfl, rfl, ?_⟩
  refine ⟨_, rfl, n, .non, rfl, .inl ⟨rfl, true, rfl, ?_⟩⟩
  refine ⟨_, rfl, d, .int 1, rfl, .inr ⟨1, rfl, true, ?_, ?_⟩⟩
  · rw [decide_eq_true d1]
  refine ⟨_, rfl, _, rfl, n, d, rfl, ?_⟩
  rw [hg]
  exact ⟨rfl, kk⟩
end
end Ell
set_option maxHeartbeats 4000000
namespace Ell
open PySem PySem.Spec PyProof.Rows L2
/-! ### a dict of tuples to True, one of the keys known from the top -/
abbrev TX := List (List Key × Addr × Value)
def TldP (P : Program) (w : World) (a : Addr) (xs : TX) (h : Heap) : Prop := ∃ o es ep, h.get? a = some o ∧ o.ExactDict ∧ o.data = .dict es ep ∧ es.toList = xs.map (entryOfKey (tupleKind (mixKind P w))) ∧ (xs.map (·.1)).Nodup
def toldO (P : Program) (w : World) (a : Addr) (xs : TX) : HO := .ext (TldP P w a xs)
/-- a tuple that is tracked, or known from the top -/
def KeyAt (K : PySem.W.Frag) (H : Hp) (b : Addr) (k : List Key) : Prop := H b = some (.tup (k.map kV)) ∨ ∀ H', SqT K H' b (k.map kV)
structure Told (P : Program) (w : World) (K : PySem.W.Frag) (H : Hp) (a : Addr) (ms : List (List Key)) : Prop where
  ex : ∃ xs, H a = some (toldO P w a xs) ∧ (a == sysModules) = false ∧ xs.length ≤ sizeLine ∧ (∀ x ∈ xs, KeyAt K H x.2.1 x.1) ∧ xs.map (·.1) = ms
theorem KeyAt.sq {K : PySem.W.Frag} {H : Hp} {b : Addr} {k : List Key} (h : KeyAt K H b k) : SqT K H b (k.map kV) := h.elim (fun e => SqT.of e) fun e => e H
theorem KeyAt.mono {K : PySem.W.Frag} {H H' : Hp} {b : Addr} {k : List Key} (h : KeyAt K H b k) (t : TP H H') : KeyAt K H' b k := h.elim (fun e => .inl (t _ _ e)) fun e => .inr e
theorem Told.mono {P : Program} {w : World} {K : PySem.W.Frag} {H H' : Hp} {a : Addr} {ms : List (List Key)} (h : Told P w K H a ms) (k : ∀ o, H a = some o → H' a = some o) (t : TP H H') : Told P w K H' a ms := by
  obtain ⟨xs, e, h1, h2, h3, h4⟩ := h
  exact ⟨xs, k _ e, h1, h2, fun x hx => (h3 x hx).mono t, h4⟩
theorem tld_ok {P : Program} {w : World} {H : Hp} {h : Heap} {a : Addr} {xs : TX} (e : TldP P w a xs h) : ObjOk P w H h a (toldO P w a xs) := by
  refine ⟨e, ?_, fun h1 h2 p k => ?_⟩
  · obtain ⟨o, _, _, e, _⟩ := e
    exact ⟨o, e⟩
  · obtain ⟨o, es, ep, e, r⟩ := p
    exact ⟨o, es, ep, k o e, r⟩
section
variable {X : Cx} {pins : List (Addr × Obj)} {σ : L2.St} {H : Hp} {s : Shared} {a : Addr} {ms : List (List Key)}
theorem is_key (I : Inv X pins σ H s) {b : Addr} {k : List Key} (h : KeyAt X.K H b k) : (tupleKind (mixKind X.prog X.w)).is s.heap k b := by
  obtain ⟨its, r, ⟨o, h1, h2, n, h3⟩, _⟩ := I.tuple h.sq
  exact ⟨o, its.toArray, n, h1, h2, h3, by simpa using items_are r⟩
theorem told_dict (I : Inv X pins σ H s) {xs : TX} (e : H a = some (toldO X.prog X.w a xs)) (h : ∀ x ∈ xs, KeyAt X.K H x.2.1 x.1) : s.heap.DictOfH (tupleKind (mixKind X.prog X.w)) a xs := by
  obtain ⟨⟨o, es, ep, h1, h2, h3, h4, h5⟩, _, _⟩ := (show ObjOk X.prog X.w H s.heap a (toldO X.prog X.w a xs) from I.hok a _ e)
  exact ⟨o, es, ep, h1, h2, h3, h4, fun x hx => is_key I (h x hx), h5⟩
end
theorem atKey_mem {xs : TX} {k : List Key} : (atKey xs k).isSome = true ↔ k ∈ xs.map (·.1) := by
  unfold atKey
  rw [Option.isSome_map]
  constructor
  · intro h
    obtain ⟨x, hx⟩ := Option.isSome_iff_exists.mp h
    have h1 := List.mem_of_find?_eq_some hx
    have h3 := List.find?_some hx
    have h2 : x.1 = k := of_decide_eq_true h3
    exact List.mem_map.mpr ⟨x, h1, h2⟩
  · intro h
    obtain ⟨x, hx, e⟩ := List.mem_map.mp h
    rw [List.find?_isSome]
    exact ⟨x, hx, decide_eq_true e⟩
/-- {GROUND: True} -/
def tToldNew (P : Program) (w : World) (K : PySem.W.Frag) : TE := fun _ H Q => ∀ p o, H p = none → Told P w K (upd H p o) p [groundK] → Q (.ref p) (upd H p o)
def tToldIn (P : Program) (w : World) (K : PySem.W.Frag) (ty td : TE) : TE := fun σ H Q => ty σ H fun y H1 => td σ H1 fun x H2 => ∃ a ms k, x = .ref a ∧ Told P w K H2 a ms ∧ TK H2 y k ∧ ∀ v : Bool, (v = true ↔ k ∈ ms) → Q (.bl v) H2
def tToldNotIn (P : Program) (w : World) (K : PySem.W.Frag) (ty td : TE) : TE := fun σ H Q => ty σ H fun y H1 => td σ H1 fun x H2 => ∃ a ms k, x = .ref a ∧ Told P w K H2 a ms ∧ TK H2 y k ∧ ∀ v : Bool, (v = true ↔ k ∈ ms) → Q (.bl (!v)) H2
/-- d[y] = v, y not in d -/
def sToldPut (P : Program) (w : World) (K : PySem.W.Frag) (td ty tv : TE) : TS := fun D σ H => tv σ H fun _ H1 => td σ H1 fun x H2 => ty σ H2 fun y H3 => ∃ a ms k, x = .ref a ∧ Told P w K H3 a ms ∧ TK H3 y k ∧ k ∉ ms ∧ ms.length < sizeLine ∧
  ∀ o, Told P w K (upd H3 a o) a (ms ++ [k]) → D.nx σ (upd H3 a o)
section
variable {X : Cx} {K : PySem.W.Frag} {o i e value : Expr} {pos pos' : Pos} {td ty tv : TE}
theorem told_tp {P : Program} {w : World} {H : Hp} {a : Addr} {xs ys : TX} (e : H a = some (toldO P w a xs)) : TP H (upd H a (toldO P w a ys)) := put_tp e fun _ z => by cases z
theorem pc_toldin (hK : X.K = K) (hu : X.A.units + 1 < cLine) (hi : PE X i ty) (ho : PE X o td) : PC X .In i o (tToldIn X.prog X.w K ty td) := by
  subst hK
  refine ⟨fun pins s σ H Q I h => ?_⟩
  refine thn (hi.run pins s σ H _ I h) fun iv s1 ⟨y, H1, I1, ry, q1⟩ => thn (ho.run pins s1 σ H1 _ I1 q1) fun u s2 ⟨x, H2, I2, rx, a, ms, k, ex, ⟨xs, e1, e2, e3, e4, e5⟩, hk, q2⟩ => ?_
  subst ex
  obtain rfl : u = Value.ref a := rx
  obtain ⟨b, rfl, hb, _⟩ := hk
  cases (show iv = Value.ref b from ry)
  refine wpAny_in_heap (tupleKind_room_in1 hu) (is_key I2 (.inl hb)) e2 (told_dict I2 e1 e4) ⟨.bl (atKey xs k).isSome, H2, I2.tok _, rfl, q2 _ ?_⟩
  rw [atKey_mem, e5]
theorem pc_toldnotin (hK : X.K = K) (hu : X.A.units + 1 < cLine) (hi : PE X i ty) (ho : PE X o td) : PC X .NotIn i o (tToldNotIn X.prog X.w K ty td) := by
  subst hK
  refine ⟨fun pins s σ H Q I h => ?_⟩
  refine thn (hi.run pins s σ H _ I h) fun iv s1 ⟨y, H1, I1, ry, q1⟩ => thn (ho.run pins s1 σ H1 _ I1 q1) fun u s2 ⟨x, H2, I2, rx, a, ms, k, ex, ⟨xs, e1, e2, e3, e4, e5⟩, hk, q2⟩ => ?_
  subst ex
  obtain rfl : u = Value.ref a := rx
  obtain ⟨b, rfl, hb, _⟩ := hk
  cases (show iv = Value.ref b from ry)
  refine wpAny_notIn_heap (tupleKind_room_in1 hu) (is_key I2 (.inl hb)) e2 (told_dict I2 e1 e4) ⟨.bl (!(atKey xs k).isSome), H2, I2.tok _, rfl, q2 _ ?_⟩
  rw [atKey_mem, e5]
theorem ps_toldput (hK : X.K = K) (hu : X.A.units + 1 < cLine) (ho : PE X o td) (hi : PE X i ty) (hv : PE X value tv) (hs : swapsWith value (some (.Subscript o i pos')) pos.line X.env = pure false) :
    PS X (.Assign [.Subscript o i pos'] value pos) (sToldPut X.prog X.w K td ty tv) := by
  subst hK
  refine ⟨fun pins s σ H D I h => ?_⟩
  refine wpAny_Assign_Subscript (thn (hv.run pins s σ H _ I h) fun r s1 ⟨v, H1, I1, rv, q1⟩ => thn (ho.run pins s1 σ H1 _ I1 q1) fun u s2 ⟨x, H2, I2, rx, q2⟩ => thn (hi.run pins s2 σ H2 _ I2 q2) fun iv s3 ⟨y, H3, I3, ry, a, ms, k, ex, ⟨xs, e1, e2, e3, e4, e5⟩, hk, hn, hl, q3⟩ => ?_) hs
  subst ex
  obtain rfl : u = Value.ref a := rx
  obtain ⟨b, rfl, hb, _⟩ := hk
  cases (show iv = Value.ref b from ry)
  have hat : atKey xs k = none := by
    cases ha : atKey xs k with
    | none => rfl
    | some z => exact absurd (by rw [← e5]; exact atKey_mem.mp (by rw [ha]; rfl)) hn
  have lx : xs.length = ms.length := by rw [← e5, List.length_map]
  refine wpAny_setItem_heap (hsz := e3) (tupleKind_room_in1 hu) (is_key I3 (.inl hb)) (told_dict I3 e1 e4) fun h' dd' hs' => ?_
  obtain ⟨q, es, ep, hq, h2, h3, h4, _, h5⟩ := dd'
  have J : Inv X pins σ (upd H3 a (toldO X.prog X.w a (storedH xs k b r))) { s3 with heap := h', toks := s3.toks + (tupleKind (mixKind X.prog X.w)).draws k } :=
    d_write I3 (by rw [e1]; exact True.intro) hs' ⟨q, hq⟩ (tld_ok ⟨q, es, ep, hq, h2, h3, h4, h5⟩)
  refine ⟨σ, _, J, q3 _ ⟨_, upd_same, e2, ?_, fun x hx => ?_, ?_⟩⟩
  · rw [storedH_new hat, List.length_append]
    show xs.length + 1 ≤ sizeLine
    omega
  · rw [storedH_new hat] at hx
    rcases List.mem_append.mp hx with m | m
    · exact (e4 x m).mono (told_tp e1)
    · cases List.mem_singleton.mp m
      exact .inl (told_tp e1 _ _ hb)
  · rw [storedH_new hat, List.map_append, e5]
    rfl
theorem pe_toldnew {p1 p2 : Pos} {j : Nat} {g : Addr} (hK : X.K = K) (hu : X.A.units + 1 < cLine) (hg : X.mg "GROUND" = some (.ref g)) (hv : ∀ H : Hp, SqT X.K H g [.str "ground", .int 0, .int 0]) (hl : Gl X "GROUND" := by rfl) :
    PE X (.Dict [some (.Name "GROUND" p1)] [.Constant (.bool true) j p2] pos) (tToldNew X.prog X.w K) := by
  subst hK
  refine ⟨fun pins s σ H Q I h => ?_⟩
  have e1 : (evalEachOpt [some (Expr.Name "GROUND" p1)] X.env).zip ((evalEach [Expr.Constant (.bool true) j p2] X.env).map fun v => do let x ← v; standAt pos; pure x) = (pairTrees [some (Expr.Name "GROUND" p1)] [Expr.Constant (.bool true) j p2] X.env pos).map fun p => (some p.1, p.2) := zip_pairTrees _ _ _ _ rfl rfl
  rw [arm_eval_Dict, e1, dictDisplay_pairs _ (by intro z; cases z) (Nat.lt_of_le_of_lt (Nat.le_of_eq (pairTrees_length [some (Expr.Name "GROUND" p1)] [Expr.Constant (.bool true) j p2] X.env pos rfl rfl)) (show 1 < 17 by decide))]
  refine wpAny_bind (wpAny_standAt (wpAny_bind ?_))
  unfold subDict
  refine wpAny_bind (wpAny_alloc ?_)
  refine wpAny_bind (wpAny_holding ?_)
  rw [if_pos (show (pairTrees [some (Expr.Name "GROUND" p1)] [Expr.Constant (.bool true) j p2] X.env pos).length ≤ 15 from Nat.le_trans (Nat.le_of_eq (pairTrees_length _ _ _ _ rfl rfl)) (show 1 ≤ 15 by decide))]
  have hn := I.hok.fresh (Nat.le_refl s.heap.objs.size)
  have hb := I.big
  have hsys : (s.heap.objs.size == sysModules) = false := beq_eq_false_iff_ne.mpr (Ne.symm (Nat.ne_of_lt hb))
  have I0 : Inv X pins σ (upd H s.heap.objs.size (toldO X.prog X.w s.heap.objs.size [])) { s with heap := s.heap.push { cls := .type "dict", data := .dict #[] } } :=
    I.laid (a := s.heap.objs.size) (o := toldO X.prog X.w s.heap.objs.size []) (t' := s.toks) (fun _ _ q => Heap.get?_push_of_some _ q) (Nat.le_refl _) (tld_ok ⟨_, #[], 0, Heap.get?_push_size _ rfl, ⟨rfl, rfl, rfl⟩, rfl, rfl, List.nodup_nil⟩)
  refine wpAny_bind (pairTrees_cons_walk (thn ((pe_glob (v := .ref g) hl hg rfl (by decide)).run pins _ σ _ (fun x H' => x = .ref g ∧ H' = upd H s.heap.objs.size (toldO X.prog X.w s.heap.objs.size [])) I0 ⟨rfl, rfl⟩) fun u s1 ⟨x, H1, I1, rx, ex, eH⟩ => ?_))
  subst ex eH
  cases (show u = Value.ref g from rx)
  refine thn (pe_bl.run pins _ σ _ (fun x H' => x = .bl true ∧ H' = upd H s.heap.objs.size (toldO X.prog X.w s.heap.objs.size [])) I1 ⟨rfl, rfl⟩) fun u s2 ⟨x, H2, I2, rx, ex, eH⟩ => ?_
  subst ex eH
  cases (show u = Value.bool true from rx)
  refine pairTrees_nil_walk ?_
  refine wpAny_holding ?_
  rw [List.forIn_cons]
  have kg : KeyAt X.K (upd H s.heap.objs.size (toldO X.prog X.w s.heap.objs.size [])) g groundK := .inr hv
  refine wpAny_bind (wpAny_bind (wpAny_bind (wpAny_dictSet_heap (hsz := Nat.zero_le _) (k := groundK) (show X.A.units < cLine by omega) (is_key I2 kg) (told_dict I2 upd_same (fun x hx => by cases hx)) fun h' dd' hs' => wpAny_pure ?_)))
  show wpAny _ _ (forIn [] PUnit.unit _) _ _ _
  rw [List.forIn_nil]
  refine wpAny_pure (wpAny_pure (wpAny_pure ?_))
  obtain ⟨q, es, ep, hq, h2, h3, h4, _, h5⟩ := dd'
  have J : Inv X pins σ (upd (upd H s.heap.objs.size (toldO X.prog X.w s.heap.objs.size [])) s.heap.objs.size (toldO X.prog X.w s.heap.objs.size (storedH [] groundK g (.bool true)))) { s2 with heap := h', toks := s2.toks + (tupleKind (mixKind X.prog X.w)).draws groundK } :=
    d_write I2 (by rw [upd_same]; exact True.intro) hs' ⟨q, hq⟩ (tld_ok ⟨q, es, ep, hq, h2, h3, h4, h5⟩)
  rw [upd_upd] at J
  exact wpAny_pure ⟨.ref s.heap.objs.size, _, J, rfl, h _ _ hn ⟨_, upd_same, hsys, (show 1 ≤ sizeLine by decide), (fun x hx => by cases List.mem_singleton.mp hx; exact .inr hv), rfl⟩⟩
end
end Ell
set_option maxHeartbeats 4000000
namespace Ell
open PySem PySem.Spec PyProof.Rows L2
/-! ### the checks of a web -/
/-- a tuple of spots, of links -/
def SpotsT (H : Hp) (S : Addr) (ks : List (List Key)) : Prop := ∃ xs, H S = some (.tup xs) ∧ TKs H xs ks
def LinksT (H : Hp) (L : Addr) (ls : List Lk) : Prop := ∃ xs, H L = some (.tup xs) ∧ LVs H xs ls
theorem SpotsT.mono {H H' : Hp} {S : Addr} {ks : List (List Key)} (h : SpotsT H S ks) (t : TP H H') : SpotsT H' S ks := by
  obtain ⟨xs, e, r⟩ := h
  exact ⟨xs, t _ _ e, tks_mono r t⟩
theorem LinksT.mono {H H' : Hp} {S : Addr} {ks : List Lk} (h : LinksT H S ks) (t : TP H H') : LinksT H' S ks := by
  obtain ⟨xs, e, r⟩ := h
  exact ⟨xs, t _ _ e, lvs_mono r t⟩
/-- the spots of a web -/
structure Sps (ks : List (List Key)) : Prop where
  nd : ks.Nodup
  g : ks[0]? = some groundK
  sp : ∀ k ∈ ks, IsSp k
  n : ks.length ≤ 11
theorem Sps.pos {ks : List (List Key)} (h : Sps ks) : 1 ≤ ks.length := (List.getElem?_eq_some_iff.mp h.g).1
def sel : Nat → Lk → List Key
  | 0, l => l.a
  | _, l => l.b
theorem LV.sel {H : Hp} {v : V} {l : Lk} (h : LV H v l) {j : Nat} (hj : j < 2) : ∃ p xs x, v = .ref p ∧ H p = some (.tup xs) ∧ xs[j]? = some x ∧ TK H x (sel j l) := by
  obtain ⟨p, x, y, z, e, q, h1, h2, h3⟩ := h
  match j, hj with
  | 0, _ => exact ⟨p, _, x, e, q, rfl, h1⟩
  | 1, _ => exact ⟨p, _, y, e, q, rfl, h2⟩
def spPlacesOf : Sp := fun vs H Q _ => ∃ (S : Addr) (ks : List (List Key)), vs = [.ref S] ∧ SpotsT H S ks ∧ Sps ks ∧ ∀ (D : Addr) (kvs : List (List Key × V)) (H' : Hp), Same H H' → H D = none → H' D = some (.dT kvs) → NumD kvs ks → Q (.ref D) H'
def spCheckLinks : Sp := fun vs H Q _ => ∃ (D L : Addr) (kvs : List (List Key × V)) (ks : List (List Key)) (ls : List Lk), vs = [.ref D, .ref L] ∧ H D = some (.dT kvs) ∧ NumD kvs ks ∧ Sps ks ∧ LinksT H L ls ∧ WF ks ls ∧ Q .non H
def spTied (P : Program) (w : World) (K : PySem.W.Frag) : Sp := fun vs H Q _ => ∃ (L : Addr) (i j : Nat) (ks : List (List Key)) (ls : List Lk), vs = [.ref L, .int (i : Nat), .int (j : Nat)] ∧ (i = 0 ∧ j = 1 ∨ i = 1 ∧ j = 0) ∧ LinksT H L ls ∧ Sps ks ∧ WF ks ls ∧ Tied ks ls ∧
  ∀ (D : Addr) (ms : List (List Key)) (H' : Hp), Same H H' → Told P w K H' D ms → (∀ k ∈ ks, k ∈ ms) → Q (.ref D) H'
def spLoose : Sp := fun vs H Q _ => ∃ (S L : Addr) (ks : List (List Key)) (ls : List Lk), vs = [.ref S, .ref L] ∧ SpotsT H S ks ∧ LinksT H L ls ∧ Sps ks ∧ WF ks ls ∧ Tied ks ls ∧ ∀ H', Same H H' → Q .non H'
theorem tied_all {ks : List (List Key)} {ls : List Lk} {ms : List (List Key)} {i j : Nat} (hij : i = 0 ∧ j = 1 ∨ i = 1 ∧ j = 0) (hs : Sps ks) (ht : Tied ks ls) (g : groundK ∈ ms) (c : ∀ l ∈ ls, sel i l ∈ ms → sel j l ∈ ms) : ∀ k ∈ ks, k ∈ ms := by
  have : ∀ (n : Nat) (k : List Key), ks[n]? = some k → k ∈ ms := by
    intro n
    induction n using Nat.strongRecOn with
    | ind n ih =>
      intro k hk
      by_cases h0 : n = 0
      · subst h0
        rw [hs.g] at hk
        cases hk
        exact g
      · obtain ⟨⟨m, l, h1, h2, h3, h4⟩, ⟨m', l', h1', h2', h3', h4'⟩⟩ := ht n (by omega) (List.getElem?_eq_some_iff.mp hk).1
        rcases hij with ⟨rfl, rfl⟩ | ⟨rfl, rfl⟩
        · have := c l h2 (ih m h1 _ h3)
          rw [hk] at h4
          cases h4
          exact this
        · have := c l' h2' (ih m' h1' _ h4')
          rw [hk] at h3'
          cases h3'
          exact this
  intro k hk
  obtain ⟨n, hn⟩ := List.mem_iff_getElem?.mp hk
  exact this n k hn
section
variable {P : Program} {w : World} {K : PySem.W.Frag} {mg : Str → Option Value} {base : Heap}
theorem ground_dp (T : Tx K mg) (H : Hp) : Dp K H (.ref (He.ga K "GROUND")) (kD groundK) := .tup (T.v_GROUND H) (dp_keys groundK)
theorem ground_sh : SeqAt.shaped (kD groundK) = true := shaped_of (kD_lay (k := groundK) (by decide +kernel)).1 (by rw [(kD_lay (k := groundK) (by decide +kernel)).2]; decide)
theorem ok_places_of (T : Tx K mg) (c_is_spot : Cal P w K mg base CX0 2 "is_spot" ["thing"] [] spIsSpot) : Cal P w K mg base CX0 3 "places_of" ["spots"] [] spPlacesOf := by
  obtain ⟨fd, F⟩ := T.f_places_of
  refine ⟨_, fd, [], F.ok sc_places_of (fun vs H Q E h => ?_) (fun cdv A outer s H vs Q E hr h => ?_), T.g_places_of, F.kp, F.bindsN fun _ _ _ _ _ _ us hl => match us, hl with | [_], _ => rfl, .nil⟩
  · obtain ⟨S, ks, rfl, _⟩ := h
    rfl
  obtain ⟨S, ks, rfl, ⟨xs, eS, rS⟩, hs, kk⟩ := h
  have hu := hu_of hr
  have hu64 := hu64_of hr
  refine ⟨_, PSs.nox ((pss_cons (ps_set (i := 1) sc_places_of.nd rfl (Or.inl rfl) pe_dnewT)
        (pss_cons (ps_set (i := 2) sc_places_of.nd rfl (Or.inl rfl) pe_int)
        (pss_cons (ps_for PassesOwn.never rfl (pi_tupK K (pv 0)) (pg_name (i := 3) sc_places_of.nd rfl (Or.inl rfl))
          (pss_cons (ps_if (PW.pt (pw_or (pt_not (pt_val (pcall c_is_spot hr (pa_cons (pv 3) pa_nil)))) (pw_or (pt_cmp (pc_din hu (pv 3) (pv 1))) (pw_or1 (PW.pt (pw_and (pt_cmpR op_eq (pv 2) pe_int (nomark _)) (pw_and1 (pt_cmpR (neDK K hu64) (pv 3) (pe_glob (v := .ref (He.ga K "GROUND")) rfl T.g_GROUND rfl) (nomark _))))))))) (pss_one ps_never) pss_nil)
          (pss_cons (ps_dput hu (pv 1) (pv 3) (pv 2) rfl)
          (pss_one (ps_set (i := 2) sc_places_of.nd rfl (Or.inl rfl) (pe_op op_add (pv 2) pe_int))))))
        (pss_cons (ps_if (pt_cmpR op_eq (pv 2) pe_int (nomark _)) (pss_one ps_never) pss_nil)
        (pss_one (ps_ret (pv 1)))))))), ?_⟩
  have len := pr_len rS
  have hn := hs.n
  refine fun D hD => ?_
  refine ⟨_, rfl, S, rfl, ⟨_, SqT.of (same_new hD _ _ eS)⟩, for_tup (K := K) (a := S) (xs := xs) (fun i σ H2 => ∃ (o3 : Option V) (kvs : List (List Key × V)), σ = [some (.ref S), some (.ref D), some (.int (i : Nat)), o3] ∧ H2 D = some (.dT kvs) ∧ NumTo kvs ks i ∧ Same H H2) ?_ (fun i σ H2 _ ⟨_, _, _, _, _, s2⟩ => SqT.of (s2 _ _ eS)) ?_ ?_⟩
  · exact ⟨none, [], rfl, upd_same, .zero, same_new hD⟩
  · rintro i x σ H2 hi ⟨o3, kvs, rfl, e2, n2, s2⟩
    obtain ⟨k, hk, tk⟩ := pr_get (tks_mono rS (same_tp s2)) hi
    have hi' := (List.getElem?_eq_some_iff.mp hi).1
    have hkm := List.mem_of_getElem? hk
    have no : valV kvs k = none := n2.no k fun j hj e => by have := nd_ix hs.nd e hk; omega
    have put : ∃ (o3' : Option V) (kvs' : List (List Key × V)), [some (V.ref S), some (.ref D), some (.int ((i : Int) + 1)), some x] = [some (.ref S), some (.ref D), some (.int ((i + 1 : Nat) : Int)), o3'] ∧ (upd H2 D (.dT (putK kvs k (.int (i : Nat))))) D = some (.dT kvs') ∧ NumTo kvs' ks (i + 1) ∧ Same H (upd H2 D (.dT (putK kvs k (.int (i : Nat))))) := by
      refine ⟨_, _, rfl, upd_same, n2.snoc hs.nd hk rfl, fun c o e => ?_⟩
      rw [upd_ne (ne_of_none e hD)]
      exact s2 _ _ e
    obtain ⟨b, rfl, hb, ob⟩ := id tk
    have din : DGet H2 D (.ref b) none := by
      have := DGet.t e2 hb
      rw [no] at this
      exact this
    have dput : DPut H2 D (.ref b) (.int (i : Nat)) (upd H2 D (.dT (putK kvs k (.int (i : Nat))))) := DPut.t (k := k) e2 hb (small1000 (by have := n2.len; omega))
    refine ⟨_, rfl, _, k, rfl, tk, hs.sp k hkm, true, rfl, ?_⟩
    refine ⟨_, rfl, _, rfl, D, _, rfl, din, _, rfl, ?_⟩
    refine ⟨_, rfl, rfl, _, rfl, ite2 (fun h0 => ?_) (fun h0 => ?_)⟩
    · have h0 : V.int (i : Nat) = V.int 0 := of_decide_eq_true h0
      injection h0 with h0
      have i0 : i = 0 := by omega
      have ek : k = groundK := by
        rw [i0, hs.g] at hk
        exact (Option.some.inj hk).symm
      refine ⟨_, rfl, _, _, tk.dp, ground_dp T H2, tk.sh, ground_sh, _, rfl, ite2 (fun hne => ?_) (fun _ => ?_)⟩
      · exfalso
        rw [kD_eqv, ek] at hne
        simp at hne
      · exact ⟨_, rfl, _, rfl, _, rfl, D, _, rfl, dput, _, rfl, _, _, rfl, rfl, put⟩
    · exact ⟨_, rfl, _, rfl, _, rfl, D, _, rfl, dput, _, rfl, _, _, rfl, rfl, put⟩
  · rintro σ H2 ⟨o3, kvs, rfl, e2, n2, s2⟩
    have hp := hs.pos
    refine ⟨_, rfl, rfl, _, rfl, ite2 (fun h0 => ?_) (fun _ => ?_)⟩
    · exfalso
      have h0 : V.int (xs.length : Nat) = V.int 0 := of_decide_eq_true h0
      injection h0 with h0
      omega
    · rw [len] at n2
      exact ⟨_, rfl, kk D kvs H2 s2 hD e2 n2⟩
theorem ok_tied (T : Tx K mg) : Cal P w K mg base CX0 1 "tied_to_ground" ["links", "begin", "end"] [] (spTied P w K) := by
  obtain ⟨fd, F⟩ := T.f_tied_to_ground
  refine ⟨_, fd, [], F.ok sc_tied_to_ground (fun vs H Q E h => ?_) (fun cdv A outer s H vs Q E hr h => ?_), T.g_tied_to_ground, F.kp, F.bindsN fun _ _ _ _ _ _ us hl => match us, hl with | [_, _, _], _ => rfl, .nil⟩
  · obtain ⟨L, i, j, ks, ls, rfl, _⟩ := h
    rfl
  obtain ⟨L, ib, je, ks, ls, rfl, hij, ⟨xs, eL, rL⟩, hs, hw, ht, kk⟩ := h
  have hu := hu_of hr
  refine ⟨_, PSs.nox ((pss_cons (ps_set (i := 3) sc_tied_to_ground.nd rfl (Or.inl rfl) (pe_toldnew (K := K) rfl hu T.g_GROUND T.v_GROUND))
        (pss_cons (ps_set (i := 4) sc_tied_to_ground.nd rfl (Or.inl rfl) pe_bl)
        (pss_cons (ps_while PassesOwn.never (pt_val (pv 4))
          (pss_cons (ps_set (i := 4) sc_tied_to_ground.nd rfl (Or.inl rfl) pe_bl)
          (pss_one (ps_for PassesOwn.never rfl (pi_tupK K (pv 0)) (pg_name (i := 5) sc_tied_to_ground.nd rfl (Or.inl rfl))
            (pss_one (ps_if (PW.pt (pw_and (pt_cmp (pc_toldin (K := K) rfl hu (pe_ix (ix_tupK K) (pv 5) (pv 1) (fun _ _ => rfl)) (pv 3))) (pw_and1 (pt_cmp (pc_toldnotin (K := K) rfl hu (pe_ix (ix_tupK K) (pv 5) (pv 2) (fun _ _ => rfl)) (pv 3)))))) (pss_cons (ps_toldput (K := K) rfl hu (pv 3) (pe_ix (ix_tupK K) (pv 5) (pv 2) (fun _ _ => rfl)) pe_bl rfl)
              (pss_one (ps_set (i := 4) sc_tied_to_ground.nd rfl (Or.inl rfl) pe_bl))) pss_nil))))))
        (pss_one (ps_ret (pv 3))))))), ?_⟩
  have ib2 : ib < 2 := by omega
  have je2 : je < 2 := by omega
  have hn := hs.n
  have gk : groundK ∈ ks := List.mem_of_getElem? hs.g
  have len := pr_len rL
  refine fun D o hD tD => ?_
  refine ⟨fun m σ H2 => ∃ (g : Bool) (ms : List (List Key)) (o5 : Option V), σ = [some (.ref L), some (.int (ib : Nat)), some (.int (je : Nat)), some (.ref D), some (.bl g), o5] ∧ Told P w K H2 D ms ∧ Same H H2 ∧ ms.Nodup ∧ (∀ k ∈ ms, k ∈ ks) ∧ groundK ∈ ms ∧
    (g = false → ∀ l ∈ ls, sel ib l ∈ ms → sel je l ∈ ms) ∧ m = (if g = true then ks.length - ms.length + 1 else 0), ⟨_, true, [groundK], none, rfl, tD, same_new hD, by simp, (fun k hk => by cases List.mem_singleton.mp hk; exact gk), List.mem_cons_self, (fun z => by cases z), rfl⟩, ?_⟩
  rintro m σ H2 ⟨g, ms, o5, rfl, t2, s2, nd2, sub2, g2, c2, rfl⟩
  refine ⟨_, rfl, _, rfl, ite2 (fun hg => ?_) (fun hg => ?_)⟩
  · subst hg
    refine ⟨fun σ' H' => ∃ m', m' < ks.length - ms.length + 1 ∧ ∃ (g : Bool) (ms : List (List Key)) (o5 : Option V), σ' = [some (.ref L), some (.int (ib : Nat)), some (.int (je : Nat)), some (.ref D), some (.bl g), o5] ∧ Told P w K H' D ms ∧ Same H H' ∧ ms.Nodup ∧ (∀ k ∈ ms, k ∈ ks) ∧ groundK ∈ ms ∧
      (g = false → ∀ l ∈ ls, sel ib l ∈ ms → sel je l ∈ ms) ∧ m' = (if g = true then ks.length - ms.length + 1 else 0), fun σ' H' h => h, ?_⟩
    refine ⟨_, rfl, L, rfl, ⟨_, SqT.of (s2 _ _ eL)⟩, for_tup (K := K) (a := L) (xs := xs) (fun i σ H3 => ∃ (g : Bool) (ms' : List (List Key)) (o5 : Option V), σ = [some (.ref L), some (.int (ib : Nat)), some (.int (je : Nat)), some (.ref D), some (.bl g), o5] ∧ Told P w K H3 D ms' ∧ Same H H3 ∧ ms'.Nodup ∧ (∀ k ∈ ms', k ∈ ks) ∧ groundK ∈ ms' ∧
      (g = false → ms' = ms ∧ ∀ l ∈ ls.take i, sel ib l ∈ ms → sel je l ∈ ms) ∧ (g = true → ms.length < ms'.length) ∧ ms.length ≤ ms'.length) ?_ (fun i σ H3 _ ⟨_, _, _, _, _, s3, _⟩ => SqT.of (s3 _ _ eL)) ?_ ?_⟩
    · exact ⟨false, ms, o5, rfl, t2, s2, nd2, sub2, g2, fun _ => ⟨rfl, fun l h => by cases h⟩, (fun z => by cases z), Nat.le_refl _⟩
    · clear c2 t2
      rintro i x σ H3 hi ⟨g, ms', o5, rfl, t3, s3, nd3, sub3, g3, c3, d3, e3⟩
      obtain ⟨l, hl, vl⟩ := pr_get (lvs_mono rL (same_tp s3)) hi
      obtain ⟨p, ys, x1, rfl, q, hx1, tx1⟩ := vl.sel ib2
      obtain ⟨p', ys', x2, e', q', hx2, tx2⟩ := vl.sel je2
      cases e'
      rw [q] at q'
      cases q'
      have lm := List.mem_of_getElem? hl
      refine ⟨_, rfl, _, rfl, p, ys, _, x1, rfl, rfl, SqT.of q, at_of (j := ib) rfl hx1, _, rfl, D, ms', sel ib l, rfl, t3, tx1, fun v1 hv1 => ⟨_, rfl, ite2 (fun h1 => ?_) (fun h1 => ?_)⟩⟩
      · refine ⟨_, rfl, _, rfl, p, ys, _, x2, rfl, rfl, SqT.of q, at_of (j := je) rfl hx2, _, rfl, D, ms', sel je l, rfl, t3, tx2, fun v2 hv2 => ⟨_, rfl, ite2 (fun h2 => ?_) (fun h2 => ?_)⟩⟩
        · have nm : sel je l ∉ ms' := fun z => by
            rw [hv2.mpr z] at h2
            cases h2
          have km : sel je l ∈ ks := by
            rcases hij with ⟨_, rfl⟩ | ⟨_, rfl⟩
            · exact hw.b l lm
            · exact hw.a l lm
          have sl := sub_len nd3 sub3
          refine ⟨_, rfl, _, rfl, _, rfl, p, ys, _, x2, rfl, rfl, SqT.of q, at_of (j := je) rfl hx2, D, ms', sel je l, rfl, t3, tx2, nm, small1000 (by omega), fun o' t4 => ?_⟩
          refine ⟨true, ms' ++ [sel je l], _, rfl, t4, fun c o e => ?_, nd_snoc' nd3 nm, fun k hk => ?_, List.mem_append_left _ g3, (fun z => by cases z), fun _ => ?_, ?_⟩
          · rw [upd_ne (ne_of_none e hD)]
            exact s3 _ _ e
          · rcases List.mem_append.mp hk with m | m
            · exact sub3 k m
            · rw [List.mem_singleton.mp m]
              exact km
          · rw [List.length_append]
            show ms.length < ms'.length + 1
            omega
          · rw [List.length_append]
            omega
        · refine ⟨g, ms', _, rfl, t3, s3, nd3, sub3, g3, fun z => ⟨(c3 z).1, fun l' hl' => ?_⟩, d3, e3⟩
          rw [take_snoc hl] at hl'
          rcases List.mem_append.mp hl' with m | m
          · exact (c3 z).2 l' m
          · cases List.mem_singleton.mp m
            intro _
            have hh : v2 = true := by
              cases v2 with
              | true => rfl
              | false => exact absurd rfl h2
            rw [← (c3 z).1]
            exact hv2.mp hh
      · refine ⟨g, ms', _, rfl, t3, s3, nd3, sub3, g3, fun z => ⟨(c3 z).1, fun l' hl' => ?_⟩, d3, e3⟩
        rw [take_snoc hl] at hl'
        rcases List.mem_append.mp hl' with m | m
        · exact (c3 z).2 l' m
        · cases List.mem_singleton.mp m
          intro hin
          rw [← (c3 z).1] at hin
          exact absurd (hv1.mpr hin) h1
    · rintro σ H3 ⟨g, ms', o5, rfl, t3, s3, nd3, sub3, g3, c3, d3, e3⟩
      rw [len, List.take_length] at c3
      have sl := sub_len nd3 sub3
      cases g with
      | true => exact ⟨ks.length - ms'.length + 1, by have := d3 rfl; omega, true, ms', o5, rfl, t3, s3, nd3, sub3, g3, (fun z => by cases z), rfl⟩
      | false =>
        obtain ⟨e1, e2⟩ := c3 rfl
        subst e1
        exact ⟨0, by omega, false, ms', o5, rfl, t3, s3, nd3, sub3, g3, fun _ => e2, rfl⟩
  · have hg' : g = false := by
      cases g with
      | true => exact absurd rfl hg
      | false => rfl
    subst hg'
    exact ⟨_, rfl, kk D ms H2 s2 t2 (tied_all hij hs ht g2 (c2 rfl))⟩
theorem ok_loose (T : Tx K mg) (c_tied_to_ground : Cal P w K mg base CX0 1 "tied_to_ground" ["links", "begin", "end"] [] (spTied P w K)) : Cal P w K mg base CX0 2 "check_loose" ["spots", "links"] [] spLoose := by
  obtain ⟨fd, F⟩ := T.f_check_loose
  refine ⟨_, fd, [], F.ok sc_check_loose (fun vs H Q E h => ?_) (fun cdv A outer s H vs Q E hr h => ?_), T.g_check_loose, F.kp, F.bindsN fun _ _ _ _ _ _ us hl => match us, hl with | [_, _], _ => rfl, .nil⟩
  · obtain ⟨S, L, ks, ls, rfl, _⟩ := h
    rfl
  obtain ⟨S, L, ks, ls, rfl, ⟨xs, eS, rS⟩, hL, hs, hw, ht, kk⟩ := h
  have hu := hu_of hr
  refine ⟨_, PSs.nox ((pss_cons (ps_set (i := 2) sc_check_loose.nd rfl (Or.inl rfl) (pcall c_tied_to_ground hr (pa_cons (pv 1) (pa_cons pe_int (pa_cons pe_int pa_nil)))))
        (pss_cons (ps_set (i := 3) sc_check_loose.nd rfl (Or.inl rfl) (pcall c_tied_to_ground hr (pa_cons (pv 1) (pa_cons pe_int (pa_cons pe_int pa_nil)))))
        (pss_one (ps_for PassesOwn.never rfl (pi_tupK K (pv 0)) (pg_name (i := 4) sc_check_loose.nd rfl (Or.inl rfl))
          (pss_one (ps_if (PW.pt (pw_or (pt_cmp (pc_toldnotin (K := K) rfl hu (pv 4) (pv 2))) (pw_or1 (pt_cmp (pc_toldnotin (K := K) rfl hu (pv 4) (pv 3)))))) (pss_one ps_never) pss_nil))))))), ?_⟩
  refine ⟨_, rfl, L, 0, 1, ks, ls, rfl, .inl ⟨rfl, rfl⟩, hL, hs, hw, ht, fun D1 m1 H1 s1 t1 a1 => ?_⟩
  refine ⟨_, rfl, L, 1, 0, ks, ls, rfl, .inr ⟨rfl, rfl⟩, hL.mono (same_tp s1), hs, hw, ht, fun D2 m2 H2 s2 t2 a2 => ?_⟩
  have t1' := t1.mono (fun o e => s2 _ _ e) (same_tp s2)
  have s02 := s1.trans s2
  refine ⟨_, rfl, S, rfl, ⟨_, SqT.of (s02 _ _ eS)⟩, for_tup (K := K) (a := S) (xs := xs) (fun i σ H3 => H3 = H2 ∧ ∃ o4 : Option V, σ = [some (.ref S), some (.ref L), some (.ref D1), some (.ref D2), o4]) ⟨rfl, none, rfl⟩ (fun i σ H3 _ ⟨e, _⟩ => by rw [e]; exact SqT.of (s02 _ _ eS)) ?_ ?_⟩
  · rintro i x σ H3 hi ⟨rfl, o4, rfl⟩
    obtain ⟨k, hk, tk⟩ := pr_get (tks_mono rS (same_tp s02)) hi
    have km := List.mem_of_getElem? hk
    refine ⟨_, rfl, _, rfl, D1, m1, k, rfl, t1', tk, fun v1 hv1 => ⟨_, rfl, ite2 (fun h1 => ?_) (fun h1 => ?_)⟩⟩
    · exfalso
      rw [hv1.mpr (a1 k km)] at h1
      cases h1
    · refine ⟨_, rfl, _, rfl, D2, m2, k, rfl, t2, tk, fun v2 hv2 => ⟨_, rfl, ite2 (fun h2 => ?_) (fun h2 => ?_)⟩⟩
      · exfalso
        rw [hv2.mpr (a2 k km)] at h2
        cases h2
      · exact ⟨rfl, _, rfl⟩
  · rintro σ H3 ⟨rfl, o4, rfl⟩
    exact kk H3 s02
theorem ok_check_links (T : Tx K mg) (c_is_spot : Cal P w K mg base CX0 2 "is_spot" ["thing"] [] spIsSpot) (c_is_integer : Cal P w K mg base CX0 1 "is_integer" ["thing", "low", "high"] [.non, .non] spIsInt) : Cal P w K mg base CX0 3 "check_links" ["table", "links"] [] spCheckLinks := by
  obtain ⟨fd, F⟩ := T.f_check_links
  refine ⟨_, fd, [], F.ok sc_check_links (fun vs H Q E h => ?_) (fun cdv A outer s H vs Q E hr h => ?_), T.g_check_links, F.kp, F.bindsN fun _ _ _ _ _ _ us hl => match us, hl with | [_, _], _ => rfl, .nil⟩
  · obtain ⟨D, L, kvs, ks, ls, rfl, _⟩ := h
    rfl
  obtain ⟨D, L, kvs, ks, ls, rfl, eD, nD, hs, ⟨xs, eL, rL⟩, hw, kk⟩ := h
  have hu := hu_of hr
  have hu64 := hu64_of hr
  refine ⟨_, PSs.nox ((pss_cons (ps_set (i := 2) sc_check_links.nd rfl (Or.inl rfl) pe_int)
        (pss_one (ps_for PassesOwn.never rfl (pi_tupK K (pv 1)) (pg_name (i := 3) sc_check_links.nd rfl (Or.inl rfl))
          (pss_cons (ps_set (i := 4) sc_check_links.nd rfl (Or.inl rfl) (pe_and (pe_callB (isiK K) (by rfl) T.b_isinstance (by decide +kernel) (pa_cons (pv 3) (pa_cons (pe_bltn (v := .ty "tuple") (u := .type "tuple") (by rfl) T.b_tuple (by decide +kernel) rfl) pa_nil))) (pe_one (pe_cmpR op_eq (pe_callB (call_lenK K) (by rfl) T.b_len PySem.boot_len (pa_cons (pv 3) pa_nil)) pe_int (nomark _)))))
          (pss_cons (ps_set (i := 4) sc_check_links.nd rfl (Or.inl rfl) (pe_and (pv 4) (pe_and (pcall c_is_spot hr (pa_cons (pe_ix (ix_tupK K) (pv 3) pe_int (fun _ _ => rfl)) pa_nil)) (pe_and (pcall c_is_spot hr (pa_cons (pe_ix (ix_tupK K) (pv 3) pe_int (fun _ _ => rfl)) pa_nil)) (pe_and (pe_cmp (pc_din hu (pe_ix (ix_tupK K) (pv 3) pe_int (fun _ _ => rfl)) (pv 0))) (pe_one (pe_cmp (pc_din hu (pe_ix (ix_tupK K) (pv 3) pe_int (fun _ _ => rfl)) (pv 0)))))))))
          (pss_cons (ps_set (i := 4) sc_check_links.nd rfl (Or.inl rfl) (pe_and (pv 4) (pe_and (pe_cmpR (neDK K hu64) (pe_ix (ix_tupK K) (pv 3) pe_int (fun _ _ => rfl)) (pe_ix (ix_tupK K) (pv 3) pe_int (fun _ _ => rfl)) (nomark _)) (pe_and (pcall c_is_integer hr (pa_cons (pe_ix (ix_tupK K) (pv 3) pe_int (fun _ _ => rfl)) pa_nil)) (pe_and (pe_callB (isiK K) (by rfl) T.b_isinstance (by decide +kernel) (pa_cons (pe_ix (ix_tupK K) (pv 3) pe_int (fun _ _ => rfl)) (pa_cons (pe_bltn (v := .ty "tuple") (u := .type "tuple") (by rfl) T.b_tuple (by decide +kernel) rfl) pa_nil))) (pe_one (pe_cmpR op_gt (pe_callB (call_lenK K) (by rfl) T.b_len PySem.boot_len (pa_cons (pe_ix (ix_tupK K) (pv 3) pe_int (fun _ _ => rfl)) pa_nil)) pe_int (nomark _))))))))
          (pss_cons (ps_if (pt_val (pv 4)) (pss_one (ps_for PassesOwn.never rfl (pi_tupK K (pe_ix (ix_tupK K) (pv 3) pe_int (fun _ _ => rfl))) (pg_name (i := 5) sc_check_links.nd rfl (Or.inl rfl))
              (pss_one (ps_set (i := 4) sc_check_links.nd rfl (Or.inl rfl) (pe_and (pv 4) (pe_one (pe_or (pe_callB (isiK K) (by rfl) T.b_isinstance (by decide +kernel) (pa_cons (pv 5) (pa_cons (pe_bltn (v := .ty "str") (u := .type "str") (by rfl) T.b_str (by decide +kernel) rfl) pa_nil))) (pe_one (pcall c_is_integer hr (pa_cons (pv 5) pa_nil)))))))))) pss_nil)
          (pss_cons (ps_if (pt_not (pt_val (pv 4))) (pss_one ps_never) pss_nil)
          (pss_one (ps_set (i := 2) sc_check_links.nd rfl (Or.inl rfl) (pe_op op_add (pv 2) pe_int)))))))))))), ?_⟩
  refine ⟨_, rfl, L, rfl, ⟨_, SqT.of eL⟩, for_tup (K := K) (a := L) (xs := xs) (fun i σ H2 => H2 = H ∧ ∃ (n : Int) (o3 o4 o5 : Option V), σ = [some (.ref D), some (.ref L), some (.int n), o3, o4, o5]) ⟨rfl, 0, none, none, none, rfl⟩ (fun i σ H2 _ ⟨e, _⟩ => by rw [e]; exact SqT.of eL) ?_ ?_⟩
  · rintro i x σ H2 hi ⟨rfl, n, o3, o4, o5, rfl⟩
    obtain ⟨l, hl, p, a, b, y, rfl, q, ha, hb, hy⟩ := pr_get rL hi
    have lm := List.mem_of_getElem? hl
    have q' : SqT K H2 p _ := SqT.of q
    obtain ⟨ja, hja⟩ := List.mem_iff_getElem?.mp (hw.a l lm)
    obtain ⟨jb, hjb⟩ := List.mem_iff_getElem?.mp (hw.b l lm)
    obtain ⟨py, rfl, qy, oy⟩ := id hy
    refine ⟨_, rfl, _, _, _, _, true, rfl, .ty "tuple", .base (.tup (q)), kTT, true, rfl, _, rfl, _, 4, rfl, .inr ⟨_, q', rfl⟩, rfl, ?_⟩
    refine ⟨_, rfl, true, rfl, _, rfl, p, _, _, a, rfl, rfl, q', atI_nat (j := 0) rfl, a, l.a, rfl, ha, hs.sp _ (hw.a l lm), true, rfl, _, rfl, p, _, _, b, rfl, rfl, q', atI_nat (j := 1) rfl, b, l.b, rfl, hb, hs.sp _ (hw.b l lm), true, rfl, ?_⟩
    refine ⟨_, rfl, p, _, _, a, rfl, rfl, q', atI_nat (j := 0) rfl, _, rfl, D, _, rfl, num_get eD nD ha hja, true, rfl, _, rfl, p, _, _, b, rfl, rfl, q', atI_nat (j := 1) rfl, _, rfl, D, _, rfl, num_get eD nD hb hjb, ?_⟩
    refine ⟨_, rfl, true, rfl, _, rfl, p, _, _, a, rfl, rfl, q', atI_nat (j := 0) rfl, _, rfl, p, _, _, b, rfl, rfl, q', atI_nat (j := 1) rfl, _, _, ha.dp, hb.dp, ha.sh, hb.sh, true, ?_, ?_⟩
    · rw [kD_eqv, decide_eq_false (hw.ne l lm)]
      rfl
    refine ⟨_, rfl, p, _, _, .int l.w, rfl, rfl, q', atI_nat (j := 2) rfl, l.w, .non, rfl, .inl ⟨rfl, true, rfl, ?_⟩⟩
    refine ⟨_, rfl, p, _, _, _, rfl, rfl, q', atI_nat (j := 3) rfl, _, _, _, _, true, rfl, .ty "tuple", .base (.tup (qy)), kTT, true, rfl, ?_⟩
    refine ⟨_, rfl, p, _, _, _, rfl, rfl, q', atI_nat (j := 3) rfl, _, l.y.length, rfl, .inr ⟨_, SqT.of qy, by rw [List.length_map]⟩, _, _, rfl, rfl, ?_⟩
    have hlen : decide ((0 : Int) < (l.y.length : Nat)) = true := by
      have := List.length_pos_iff.mpr (hw.y l lm)
      exact decide_eq_true (by omega)
    refine ⟨_, rfl, _, rfl, ite2 (fun hv => ?_) (fun h => absurd hlen h)⟩
    refine ⟨_, rfl, p, _, _, _, rfl, rfl, q', atI_nat (j := 3) rfl, py, rfl, ⟨_, SqT.of qy⟩, for_tup (K := K) (a := py) (xs := l.y.map kV) (fun j σ H3 => H3 = H2 ∧ ∃ (g : Bool) (o5 : Option V), g = true ∧ σ = [some (.ref D), some (.ref L), some (.int n), some (.ref p), some (.bl g), o5]) ⟨rfl, _, _, hv, rfl⟩ (fun j σ H3 _ ⟨e, _⟩ => by rw [e]; exact SqT.of qy) ?_ ?_⟩
    · rintro j x σ H3 hj ⟨rfl, g, o5, rfl, rfl⟩
      rw [List.getElem?_map] at hj
      obtain ⟨kx, hkx, rfl⟩ := Option.map_eq_some_iff.mp hj
      refine ⟨_, rfl, true, rfl, _, rfl, ?_⟩
      cases kx with
      | inl z => exact ⟨_, _, _, _, false, rfl, .ty "str", .base (.int _), kIS, false, rfl, _, rfl, z, .non, rfl, .inl ⟨rfl, rfl, true, _, rfl, rfl⟩⟩
      | inr z => exact ⟨_, _, _, _, true, rfl, .ty "str", .base (.str _), kSS, true, rfl, rfl, true, _, rfl, rfl⟩
    · rintro σ H3 ⟨rfl, g, o5, rfl, rfl⟩
      exact ⟨_, rfl, _, rfl, ite2 (fun h => by cases h) (fun _ => ⟨_, rfl, _, _, rfl, rfl, rfl, _, _, _, _, rfl⟩)⟩
  · rintro σ H2 ⟨rfl, n, o3, o4, o5, rfl⟩
    exact kk
end
end Ell
set_option maxHeartbeats 4000000
namespace Ell
open PySem PySem.Spec PyProof.Rows L2
/-! ### rings of links -/
def LkW : List Lk → List Key → List Key → Prop
  | [], a, b => a = b
  | l :: r, a, b => l.a = a ∧ LkW r l.b b
def lsum : List Lk → Int
  | [] => 0
  | l :: r => l.w + lsum r
structure RingOk (ls : List Lk) (r : List Lk) : Prop where
  ne : r ≠ []
  m : ∀ l ∈ r, l ∈ ls
  c : ∃ a, LkW r a a
  nd : (r.map (·.a)).Nodup
  neg : lsum r < 0
theorem ring_links {ks : List (List Key)} {as : List Arc} : ∀ {rl : List Lk} {r : List Arc}, Paired (ArcOf ks) rl r → ∀ {i j : Nat} {a b : List Key}, Lw r i j → ks[i]? = some a → ks[j]? = some b → LkW rl a b
  | _, _, .nil, i, j, a, b, w, ha, hb => by
    have e : i = j := w
    subst e
    rw [ha] at hb
    exact Option.some.inj hb
  | _, _, .cons o t, i, j, a, b, w, ha, hb => by
    obtain ⟨h1, h2⟩ := w
    refine ⟨?_, ring_links (as := as) t h2 o.2.1 hb⟩
    have := o.1
    rw [h1, ha] at this
    exact (Option.some.inj this).symm
theorem ring_sum {ks : List (List Key)} : ∀ {rl : List Lk} {r : List Arc}, Paired (ArcOf ks) rl r → lsum rl = wsum r
  | _, _, .nil => rfl
  | _, _, .cons o t => by
    show _ + lsum _ = _ + wsum _
    rw [ring_sum t, o.2.2]
theorem ring_nd {ks : List (List Key)} (hk : ks.Nodup) : ∀ {rl : List Lk} {r : List Arc}, Paired (ArcOf ks) rl r → (starts r).Nodup → (rl.map (·.a)).Nodup
  | _, _, .nil, _ => List.nodup_nil
  | _, _, .cons (a := l) (b := e) (l₁ := rl) (l₂ := r) o t, h => by
    obtain ⟨h1, h2⟩ := List.nodup_cons.mp h
    refine List.nodup_cons.mpr ⟨fun m => h1 ?_, ring_nd hk t h2⟩
    obtain ⟨l', hl', el⟩ := List.mem_map.mp m
    obtain ⟨i, hi⟩ := List.mem_iff_getElem?.mp hl'
    obtain ⟨e', he', o'⟩ := pr_get t hi
    have := o'.1
    rw [el, ← o.1] at this
    have e1 : e'.1 = e.1 := nd_ix hk (this.trans o.1) o.1
    exact List.mem_map.mpr ⟨e', List.mem_of_getElem? he', e1⟩
theorem arc_of_mem {ks : List (List Key)} {ls : List Lk} {as : List Arc} (h : Arcs ks ls as) {l : Lk} (m : l ∈ ls) : ∃ e, e ∈ as ∧ ArcOf ks l e := pr_mem h m
/-- links that go on, as arcs -/
theorem links_arcs {ks : List (List Key)} (hk : ks.Nodup) {ls : List Lk} {as : List Arc} (h : Arcs ks ls as) : ∀ {rl : List Lk} {a b : List Key} {i : Nat}, (∀ l ∈ rl, l ∈ ls) → LkW rl a b → ks[i]? = some a → ∃ r j, Walk as r i j ∧ ks[j]? = some b ∧ wsum r = lsum rl
  | [], a, b, i, _, w, ha => by
    have e : a = b := w
    subst e
    exact ⟨[], i, .nil, ha, rfl⟩
  | l :: rl, a, b, i, m, w, ha => by
    obtain ⟨h1, h2⟩ := w
    obtain ⟨e, he, o⟩ := arc_of_mem h (m l List.mem_cons_self)
    obtain ⟨r, j, w', hb, es⟩ := links_arcs hk h (rl := rl) (fun x hx => m x (List.mem_cons_of_mem _ hx)) h2 o.2.1
    have e1 : e.1 = i := nd_ix hk (o.1.trans (by rw [h1])) ha
    subst e1
    refine ⟨e :: r, j, Walk.cons he w', hb, ?_⟩
    show _ + wsum r = _ + lsum rl
    rw [es, o.2.2]
theorem RingOk.arcs {ks : List (List Key)} (hk : ks.Nodup) {ls rl : List Lk} {as : List Arc} (h : Arcs ks ls as) (hr : RingOk ls rl) : ∃ r i, Walk as r i i ∧ wsum r = lsum rl := by
  obtain ⟨a, ha⟩ := hr.c
  match rl, hr, ha with
  | [], hr, _ => exact absurd rfl hr.ne
  | l :: rl, hr, ha =>
    obtain ⟨e, he, o⟩ := arc_of_mem h (hr.m l List.mem_cons_self)
    obtain ⟨r, j, w, hb, es⟩ := links_arcs hk h hr.m ha (o.1.trans (by rw [ha.1]))
    have e1 : j = e.1 := nd_ix hk hb (o.1.trans (by rw [ha.1]))
    subst e1
    exact ⟨r, _, w, es⟩
/-- levels that keep all arcs: no ring -/
theorem RingOk.no {ks : List (List Key)} (hk : ks.Nodup) {ls rl : List Lk} {as : List Arc} {p : Nat → Int} (h : Arcs ks ls as) (hr : RingOk ls rl) (hp : Pot as p) : False := by
  obtain ⟨r, i, w, es⟩ := hr.arcs hk h
  have := hp.walk w
  have := hr.neg
  omega
/-- the ring that levels_or_ring tells -/
theorem ring_of {ks : List (List Key)} (hk : ks.Nodup) {ls : List Lk} {as : List Arc} (h : Arcs ks ls as) {is : List Nat} {r : List Arc} {a : Nat} (hi : Paired (fun (i : Nat) e => as[i]? = some e) is r) (w : Walk as r a a) (hr : r ≠ []) (nd : (starts r).Nodup) (neg : wsum r < 0) :
    ∃ rl, Paired (fun (i : Nat) l => ls[i]? = some l) is rl ∧ RingOk ls rl := by
  have : ∀ {is : List Nat} {r : List Arc}, Paired (fun (i : Nat) e => as[i]? = some e) is r → ∃ rl, Paired (fun (i : Nat) l => ls[i]? = some l) is rl ∧ Paired (ArcOf ks) rl r := by
    intro is r q
    induction q with
    | nil => exact ⟨[], .nil, .nil⟩
    | @cons i e is r h1 t ih =>
      obtain ⟨rl, p1, p2⟩ := ih
      obtain ⟨l, hl, o⟩ := pr_get2 h h1
      exact ⟨l :: rl, .cons hl p1, .cons o p2⟩
  obtain ⟨rl, p1, p2⟩ := this hi
  refine ⟨rl, p1, ⟨fun z => hr ?_, fun l hl => ?_, ?_, ring_nd hk p2 nd, by rw [ring_sum p2]; exact neg⟩⟩
  · subst z
    cases p2
    rfl
  · obtain ⟨k, hk'⟩ := List.mem_iff_getElem?.mp hl
    obtain ⟨i, _, q⟩ := pr_get2 p1 hk'
    exact List.mem_of_getElem? q
  · match r, hr, p2, w with
    | e :: r, _, .cons o t, w =>
      have e1 : e.1 = a := w.w.1
      exact ⟨_, ring_links (as := as) (.cons o t) w.w (by rw [← e1]; exact o.1) (by rw [← e1]; exact o.1)⟩
/-! ### webs -/
def webF (S D L : Addr) (lv br on bk : V) (F : Addr) : List (Str × V) := [("spots", .ref S), ("at", .ref D), ("links", .ref L), ("levels", lv), ("broken", br), ("onward", on), ("backward", bk), ("found", .ref F)]
section
variable {S D L F F' : Addr} {lv br on bk y : V}
theorem wf_spots : List.lookup ("spots" : Str) (webF S D L lv br on bk F) = some (.ref S) := by kernel_rfl
theorem wf_at : List.lookup ("at" : Str) (webF S D L lv br on bk F) = some (.ref D) := by kernel_rfl
theorem wf_links : List.lookup ("links" : Str) (webF S D L lv br on bk F) = some (.ref L) := by kernel_rfl
theorem wf_levels : List.lookup ("levels" : Str) (webF S D L lv br on bk F) = some lv := by kernel_rfl
theorem wf_broken : List.lookup ("broken" : Str) (webF S D L lv br on bk F) = some br := by kernel_rfl
theorem wf_onward : List.lookup ("onward" : Str) (webF S D L lv br on bk F) = some on := by kernel_rfl
theorem wf_backward : List.lookup ("backward" : Str) (webF S D L lv br on bk F) = some bk := by kernel_rfl
theorem wf_found : List.lookup ("found" : Str) (webF S D L lv br on bk F) = some (.ref F) := by kernel_rfl
theorem wp_levels : putF "levels" y (webF S D L lv br on bk F) = webF S D L y br on bk F := by kernel_rfl
theorem wp_broken : putF "broken" y (webF S D L lv br on bk F) = webF S D L lv y on bk F := by kernel_rfl
theorem wp_onward : putF "onward" y (webF S D L lv br on bk F) = webF S D L lv br y bk F := by kernel_rfl
theorem wp_backward : putF "backward" y (webF S D L lv br on bk F) = webF S D L lv br on y F := by kernel_rfl
theorem wf_len : (webF S D L lv br on bk F).length < 1000 := show 8 < 1000 by decide
end
def revA (e : Arc) : Arc := (e.2.1, e.1, e.2.2)
abbrev rev (as : List Arc) : List Arc := as.map revA
/-- the rows of steps: of each arc that begins at v its end, its bound, its number -/
def StV (H : Hp) (v : V) (b : Nat) (w : Int) : Prop := ∃ p n, v = .ref p ∧ H p = some (.tup [.int (b : Nat), .int w, .int n])
def AdjAt (H : Hp) (On : Addr) (N : Nat) (as : List Arc) : Prop := ∃ rs : List Addr, H On = some (.lst (rs.map V.ref)) ∧ rs.length = N ∧
  ∀ v r, rs[v]? = some r → ∃ (xs : List V) (es : List Arc), H r = some (.lst xs) ∧ Paired (fun x (e : Arc) => StV H x e.2.1 e.2.2) xs es ∧ (∀ e ∈ as, e.1 = v → e ∈ es) ∧ (∀ e ∈ es, e ∈ as ∧ e.1 = v) ∧ es.length ≤ as.length
def fromK (p : Nat) : List Key := [.inr "from", .inl (p : Int)]
def toK (p : Nat) : List Key := [.inr "to", .inl (p : Int)]
/-- what was found -/
structure Found (H : Hp) (F : Addr) (N : Nat) (as : List Arc) : Prop where
  ex : ∃ kvs, H F = some (.dT kvs) ∧ (kvs.map (·.1)).Nodup ∧ (∀ k ∈ kvs.map (·.1), ∃ p, p < N ∧ (k = fromK p ∨ k = toK p)) ∧
    ∀ k v, valV kvs k = some v → ∃ (q Bl Ll : Addr) (d : Nat → Int), v = .ref q ∧ H q = some (.tup [.ref Bl, .ref Ll]) ∧ H Bl = some (.lst (fl N fun i => .int (d i))) ∧
      ((∃ p, p < N ∧ k = fromK p ∧ Dist as N p d) ∨ ∃ p, p < N ∧ k = toK p ∧ Dist (rev as) N p d)
/-- a walk from each place to each -/
def Conn (as : List Arc) (N : Nat) : Prop := ∀ a b, a < N → b < N → ∃ r, Walk as r a b
theorem conn_of {ks : List (List Key)} (sp : Sps ks) {ls : List Lk} {as : List Arc} (h : Arcs ks ls as) (t : Tied ks ls) : Conn as ks.length := by
  have both : ∀ k, k < ks.length → (∃ r, Walk as r 0 k) ∧ ∃ r, Walk as r k 0 := by
    intro k
    induction k using Nat.strongRecOn with
    | ind k ih =>
      intro hk
      by_cases h0 : k = 0
      · subst h0
        exact ⟨⟨[], .nil⟩, ⟨[], .nil⟩⟩
      · obtain ⟨⟨j, l, h1, h2, h3, h4⟩, ⟨j', l', h1', h2', h3', h4'⟩⟩ := t k (by omega) hk
        obtain ⟨e, he, o⟩ := arc_of_mem h h2
        obtain ⟨e', he', o'⟩ := arc_of_mem h h2'
        have e1 : e.1 = j := nd_ix sp.nd o.1 h3
        have e2 : e.2.1 = k := nd_ix sp.nd o.2.1 h4
        have e3 : e'.1 = k := nd_ix sp.nd o'.1 h3'
        have e4 : e'.2.1 = j' := nd_ix sp.nd o'.2.1 h4'
        obtain ⟨r, w⟩ := (ih j h1 (by omega)).1
        obtain ⟨r', w'⟩ := (ih j' h1' (by omega)).2
        refine ⟨⟨r ++ [e], ?_⟩, ⟨e' :: r', ?_⟩⟩
        · have := Walk.one he
          rw [e1, e2] at this
          exact w.app this
        · have := Walk.cons he' (by rw [e4]; exact w')
          rw [e3] at this
          exact this
  intro a b ha hb
  obtain ⟨r, w⟩ := (both a ha).2
  obtain ⟨r', w'⟩ := (both b hb).1
  exact ⟨r ++ r', w.app w'⟩
inductive WState where
  | new
  | sound
  | broken
structure WebAt (K : PySem.W.Frag) (H : Hp) (W F : Addr) (ks : List (List Key)) (ls : List Lk) (as : List Arc) (st : WState) : Prop where
  ex : ∃ (dx S D L : Addr) (lv br on bk : V) (kvs : List (List Key × V)), H W = some (.ins (cWeb K) dx (webF S D L lv br on bk F)) ∧ SpotsT H S ks ∧ H D = some (.dT kvs) ∧ NumD kvs ks ∧ LinksT H L ls ∧ Found H F ks.length as ∧ D ≠ F ∧
    (match st with
    | .new => lv = .non ∧ br = .non
    | .sound => br = .non ∧ ∃ (Lv On Bk : Addr) (p : Nat → Int), lv = .ref Lv ∧ on = .ref On ∧ bk = .ref Bk ∧ H Lv = some (.lst (fl ks.length fun v => .int (p v))) ∧ Pot as p ∧ AdjAt H On ks.length as ∧ AdjAt H Bk ks.length (rev as)
    | .broken => lv = .non ∧ ∃ (Br : Addr) (r : List Lk), br = .ref Br ∧ LinksT H Br r ∧ RingOk ls r)
  sp : Sps ks
  wf : WF ks ls
  ar : Arcs ks ls as
  nl : ls.length ≤ 60
  con : Conn as ks.length
/-- a frame of the web at W: all but its own two objects -/
abbrev FWb (W F : Addr) : Hp → Hp → Prop := Pres fun c _ => c ≠ W ∧ c ≠ F
/-- lists, tuples and the law's dicts -/
def LT : HO → Prop
  | .ins _ _ _ => False
  | .dT _ => False
  | _ => True
theorem AdjAt.keep {H H' : Hp} {On : Addr} {N : Nat} {as : List Arc} (h : AdjAt H On N as) (k : ∀ c o, H c = some o → LT o → NDK o → H' c = some o) : AdjAt H' On N as := by
  obtain ⟨rs, e, l, g⟩ := h
  refine ⟨rs, k _ _ e True.intro True.intro, l, fun v r hr => ?_⟩
  obtain ⟨xs, es, e1, p1, q⟩ := g v r hr
  refine ⟨xs, es, k _ _ e1 True.intro True.intro, Paired.mapP p1 fun x e ⟨p, n, e2, e3⟩ => ⟨p, n, e2, k _ _ e3 True.intro True.intro⟩, q⟩
theorem TP.of {H H' : Hp} (k : ∀ c o, H c = some o → LT o → NDK o → H' c = some o) : TP H H' := fun c xs e => k c _ e True.intro True.intro
/-- a web stands where its three dicts and all lists and tuples stand -/
theorem WebAt.keep {K : PySem.W.Frag} {H H' : Hp} {W F : Addr} {ks : List (List Key)} {ls : List Lk} {as : List Arc} {st : WState} (h : WebAt K H W F ks ls as st) (k : ∀ c o, H c = some o → LT o → NDK o → H' c = some o)
    (kd : ∀ c kvs, H c = some (.dT kvs) → H' c = some (.dT kvs)) (ki : ∀ o, H W = some o → H' W = some o) : WebAt K H' W F ks ls as st := by
  obtain ⟨⟨dx, S, D, L, lv, br, on, bk, kvs, e1, e2, e3, e4, e5, ⟨fk, e6, e7, e8, e9⟩, e10, e11⟩, sp, wf, ar, nl, con⟩ := h
  have t := TP.of k
  refine ⟨⟨dx, S, D, L, lv, br, on, bk, kvs, ki _ e1, e2.mono t, kd _ _ e3, e4, e5.mono t, ⟨fk, kd _ _ e6, e7, e8, fun x v hv => ?_⟩, e10, ?_⟩, sp, wf, ar, nl, con⟩
  · obtain ⟨q, Bl, Ll, d, h1, h2, h3, h4⟩ := e9 x v hv
    exact ⟨q, Bl, Ll, d, h1, t _ _ h2, k _ _ h3 True.intro True.intro, h4⟩
  · cases st with
    | new => exact e11
    | sound =>
      obtain ⟨h0, Lv, On, Bk, p, h1, h2, h3, h4, h5, h6, h7⟩ := e11
      exact ⟨h0, Lv, On, Bk, p, h1, h2, h3, k _ _ h4 True.intro True.intro, h5, h6.keep k, h7.keep k⟩
    | broken =>
      obtain ⟨h0, Br, r, h1, h2, h3⟩ := e11
      exact ⟨h0, Br, r, h1, h2.mono t, h3⟩
theorem WebAt.same {K : PySem.W.Frag} {H H' : Hp} {W F : Addr} {ks : List (List Key)} {ls : List Lk} {as : List Arc} {st : WState} (h : WebAt K H W F ks ls as st) (k : Same H H') : WebAt K H' W F ks ls as st :=
  h.keep (fun c o e _ _ => k c o e) (fun c o e => k c _ e) fun o e => k _ _ e
theorem WebAt.fb {K : PySem.W.Frag} {H H' : Hp} {W F : Addr} {ks : List (List Key)} {ls : List Lk} {as : List Arc} {st : WState} (h : WebAt K H W F ks ls as st) (k : FB H H') : WebAt K H' W F ks ls as st :=
  h.keep (fun c o e _ n => k.k c o e n) (fun c o e => k.k c _ e True.intro) fun o e => by
    obtain ⟨dx, S, D, L, lv, br, on, bk, kvs, e1, _⟩ := h.ex
    rw [e1] at e
    cases e
    exact k.k _ _ e1 True.intro
/-- what a web's own frame keeps -/
theorem WebAt.lt {K : PySem.W.Frag} {H H' : Hp} {W F : Addr} {ks : List (List Key)} {ls : List Lk} {as : List Arc} {st : WState} (h : WebAt K H W F ks ls as st) (k : FWb W F H H') {c : Addr} {o : HO} (e : H c = some o) (n : LT o) : H' c = some o := by
  obtain ⟨dx, S, D, L, lv, br, on, bk, kvs, e1, _, _, _, _, ⟨fk, e6, _⟩, _⟩ := h.ex
  refine k.k c o e ⟨fun z => ?_, fun z => ?_⟩
  · subst z
    rw [e1] at e
    cases e
    exact n
  · subst z
    rw [e6] at e
    cases e
    exact n
theorem WebAt.tp {K : PySem.W.Frag} {H H' : Hp} {W F : Addr} {ks : List (List Key)} {ls : List Lk} {as : List Arc} {st : WState} (h : WebAt K H W F ks ls as st) (k : FWb W F H H') : TP H H' := fun c xs e => h.lt k e True.intro
theorem WebAt.bag {K : PySem.W.Frag} {H H' : Hp} {W F b c : Addr} {ks : List (List Key)} {ls : List Lk} {as : List Arc} {st : WState} (h : WebAt K H W F ks ls as st) (k : FWb W F H H') (hb : Bag H b c) : Bag H' b c := by
  obtain ⟨ns, t, r, m, z, h1, h2, h3⟩ := hb
  exact ⟨ns, t, r, m, z, h.lt k h1 True.intro, h.lt k h2 True.intro, h3⟩
theorem WebAt.spots {K : PySem.W.Frag} {H H' : Hp} {W F S : Addr} {ks ks' : List (List Key)} {ls : List Lk} {as : List Arc} {st : WState} (h : WebAt K H W F ks ls as st) (k : FWb W F H H') (hs : SpotsAt H S ks') : SpotsAt H' S ks' :=
  hs.keep (fun o e => by
    obtain ⟨xs, e', _⟩ := hs.l
    rw [e'] at e
    cases e
    exact h.lt k e' True.intro) (h.tp k)
theorem WebAt.links {K : PySem.W.Frag} {H H' : Hp} {W F S : Addr} {ks : List (List Key)} {ls ls' : List Lk} {as : List Arc} {st : WState} (h : WebAt K H W F ks ls as st) (k : FWb W F H H') (hs : LinksAt H S ls') : LinksAt H' S ls' := by
  obtain ⟨xs, e, r⟩ := hs
  exact ⟨xs, h.lt k e True.intro, lvs_mono r (h.tp k)⟩
theorem WebAt.tab {K : PySem.W.Frag} {H H' : Hp} {W F R : Addr} {N : Nat} {T : Tb} {ks : List (List Key)} {ls : List Lk} {as : List Arc} {st : WState} (h : WebAt K H W F ks ls as st) (k : FWb W F H H') (hs : TabAt H R N T) : TabAt H' R N T := by
  obtain ⟨rs, l, hs⟩ := hs
  exact ⟨rs, l, h.lt k hs.e True.intro, hs.nd, hs.nR, fun a r e => h.lt k (hs.row a r e) True.intro⟩
theorem WebAt.get {K : PySem.W.Frag} {H : Hp} {W F : Addr} {ks : List (List Key)} {ls : List Lk} {as : List Arc} {st : WState} (h : WebAt K H W F ks ls as st) : ∃ dx fs, H W = some (.ins (cWeb K) dx fs) ∧ fs.length = 8 := by
  obtain ⟨dx, S, D, L, lv, br, on, bk, kvs, e1, _⟩ := h.ex
  exact ⟨dx, _, e1, rfl⟩
/-- a frame behind a new web -/
theorem Pres.behind {p : Addr → HO → Prop} {H H1 H2 : Hp} {W F : Addr} (a : Pres p H H1) (b : FWb W F H1 H2) (hW : H W = none) (hF : H F = none) : Pres p H H2 :=
  ⟨fun c o e q => b.k c o (a.k c o e q) ⟨ne_of_none e hW, ne_of_none e hF⟩, fun c e => a.fr c (b.fr c e)⟩
end Ell
set_option maxHeartbeats 4000000
namespace Ell
open PySem PySem.Spec PyProof.Rows L2
/-! ### a web is made -/
def w1 (S : V) : List (Str × V) := [("spots", S)]
def w2 (S D : V) : List (Str × V) := [("spots", S), ("at", D)]
def w3 (S D L : V) : List (Str × V) := [("spots", S), ("at", D), ("links", L)]
def w4 (S D L a : V) : List (Str × V) := [("spots", S), ("at", D), ("links", L), ("levels", a)]
def w5 (S D L a b : V) : List (Str × V) := [("spots", S), ("at", D), ("links", L), ("levels", a), ("broken", b)]
def w6 (S D L a b c : V) : List (Str × V) := [("spots", S), ("at", D), ("links", L), ("levels", a), ("broken", b), ("onward", c)]
def w7 (S D L a b c d : V) : List (Str × V) := [("spots", S), ("at", D), ("links", L), ("levels", a), ("broken", b), ("onward", c), ("backward", d)]
theorem pf_0 {S : V} : putF "spots" S [] = w1 S := rfl
theorem pf_1 {S y : V} : putF "at" y (w1 S) = w2 S y := by kernel_rfl
theorem pf_2 {S D y : V} : putF "links" y (w2 S D) = w3 S D y := by kernel_rfl
theorem pf_3 {S D L y : V} : putF "levels" y (w3 S D L) = w4 S D L y := by kernel_rfl
theorem pf_4 {S D L a y : V} : putF "broken" y (w4 S D L a) = w5 S D L a y := by kernel_rfl
theorem pf_5 {S D L a b y : V} : putF "onward" y (w5 S D L a b) = w6 S D L a b y := by kernel_rfl
theorem pf_6 {S D L a b c y : V} : putF "backward" y (w6 S D L a b c) = w7 S D L a b c y := by kernel_rfl
theorem pf_7 {S D L F : Addr} {a b c d : V} : putF "found" (.ref F) (w7 (.ref S) (.ref D) (.ref L) a b c d) = webF S D L a b c d F := by kernel_rfl
theorem lk_1 {S : V} : List.lookup ("spots" : Str) (w1 S) = some S := by kernel_rfl
theorem lk_2 {S D : V} {L : V} : List.lookup ("at" : Str) (w3 S D L) = some D := by kernel_rfl
theorem lk_3 {S D : V} {L : V} : List.lookup ("links" : Str) (w3 S D L) = some L := by kernel_rfl
theorem lk_4 {S D : V} {L : V} : List.lookup ("spots" : Str) (w3 S D L) = some S := by kernel_rfl
def SpotsAny (H : Hp) (S : Addr) (ks : List (List Key)) : Prop := (∃ xs, H S = some (.lst xs) ∧ TKs H xs ks) ∨ SpotsT H S ks
def LinksAny (H : Hp) (S : Addr) (ls : List Lk) : Prop := LinksAt H S ls ∨ LinksT H S ls
def spWebInit (K : PySem.W.Frag) : Sp := fun vs H Q _ => ∃ (W dx S L : Addr) (sure : Bool) (ks : List (List Key)) (ls : List Lk) (as : List Arc), vs = [.ref W, .ref S, .ref L, .bl sure] ∧ H W = some (.ins (cWeb K) dx []) ∧ SpotsAny H S ks ∧ LinksAny H L ls ∧ Sps ks ∧ WF ks ls ∧ Arcs ks ls as ∧ ls.length ≤ 60 ∧ Conn as ks.length ∧ (sure = false → Tied ks ls) ∧
  ∀ (F : Addr) (H' : Hp), Pres (fun c _ => c ≠ W) H H' → H F = none → WebAt K H' W F ks ls as .new → Q .non H'
theorem WebAt.of_new {K : PySem.W.Frag} {H : Hp} {W dx S D L F : Addr} {ks : List (List Key)} {ls : List Lk} {as : List Arc} {kvs : List (List Key × V)} (eW : H W = some (.ins (cWeb K) dx (webF S D L .non .non .non .non F)))
    (hS : SpotsT H S ks) (eD : H D = some (.dT kvs)) (nD : NumD kvs ks) (hL : LinksT H L ls) (eF : H F = some (.dT [])) (ne : D ≠ F) (sp : Sps ks) (wf : WF ks ls) (ar : Arcs ks ls as) (nl : ls.length ≤ 60) (con : Conn as ks.length) : WebAt K H W F ks ls as .new :=
  ⟨⟨dx, S, D, L, .non, .non, .non, .non, kvs, eW, hS, eD, nD, hL, ⟨[], eF, List.nodup_nil, (fun k h => by cases h), fun k v h => by rw [valV_nil] at h; cases h⟩, ne, rfl, rfl⟩, sp, wf, ar, nl, con⟩
section
variable {P : Program} {w : World} {K : PySem.W.Frag} {mg : Str → Option Value} {base : Heap}
theorem fn_web_init (T : Tx K mg) (c_places_of : Cal P w K mg base CX0 3 "places_of" ["spots"] [] spPlacesOf) (c_check_links : Cal P w K mg base CX0 3 "check_links" ["table", "links"] [] spCheckLinks) (c_check_loose : Cal P w K mg base CX0 2 "check_loose" ["spots", "links"] [] spLoose) : ∃ fd, FunD K "__init__" "Web.__init__" (defArgs s_Web_init) (defBody s_Web_init) (defScope s_Web_init) [.bl false] [] (He.ma K (He.ga K "Web") "__init__") fd ∧ FnOk P w K mg base CX0 4 (He.ma K (He.ga K "Web") "__init__") fd ["self", "spots", "links", "sure"] (spWebInit K) := by
  obtain ⟨fd, F⟩ := T.f_Web_init
  refine ⟨fd, F, F.ok sc_Web_init (fun vs H Q E h => ?_) (fun cdv A outer s H vs Q E hr h => ?_)⟩
  · obtain ⟨W, dx, S, L, sure, ks, ls, as, rfl, _⟩ := h
    rfl
  obtain ⟨W, dx, S0, L0, sure, ks, ls, as, rfl, eW, hS, hL, hs, hw, har, hl, hcon, ht, kk⟩ := h
  refine ⟨_, PSs.nox ((Evl.pss_cut (psfldK K (pv 0) (pe_callTy (tupofK K) (by rfl) T.b_tuple (by decide +kernel) (pa_cons (pv 1) pa_nil)))
        (pss_cons (psfldK K (pv 0) (pcall c_places_of hr (pa_cons (fldK K (pv 0)) pa_nil)))
        (Evl.pss_cut (psfldK K (pv 0) (pe_callTy (tupofK K) (by rfl) T.b_tuple (by decide +kernel) (pa_cons (pv 2) pa_nil)))
        (Evl.pss_cut (ps_if (pt_not (pt_val (pv 3))) (pss_cons (ps_expr (pcall c_check_links hr (pa_cons (fldK K (pv 0)) (pa_cons (fldK K (pv 0)) pa_nil))))
          (pss_one (ps_expr (pcall c_check_loose hr (pa_cons (fldK K (pv 0)) (pa_cons (fldK K (pv 0)) pa_nil)))))) pss_nil)
        (pss_cons (psfldK K (pv 0) pe_non)
        (pss_cons (psfldK K (pv 0) pe_non)
        (pss_cons (psfldK K (pv 0) pe_non)
        (pss_cons (psfldK K (pv 0) pe_non)
        (pss_one (psfldK K (pv 0) pe_dnewT))))))))))), ?_⟩
  have hp0 : ∀ {H1 H2 : Hp} {S : Addr} {ks : List (List Key)}, TP H1 H2 → SpotsT H1 S ks → SpotsT H2 S ks := fun t h => h.mono t
  -- the spots
  refine ⟨fun σ' H2 => ∃ (S : Addr), σ' = [some (.ref W), some (.ref S0), some (.ref L0), some (.bl sure)] ∧ H2 W = some (.ins (cWeb K) dx (w1 (.ref S))) ∧ SpotsT H2 S ks ∧ Pres (fun c _ => c ≠ W) H H2, ?_, ?_⟩
  · refine ⟨_, rfl, ?_⟩
    rcases hS with ⟨xs, e, r⟩ | ⟨xs, e, r⟩
    · refine ⟨S0, xs, rfl, .inl ⟨SqL.of e, fun l hl => ⟨_, rfl, W, cWeb K, dx, [], rfl, same_new hl _ _ eW, T.c_Web, T.n_spots, (show 0 < 1000 by decide), ?_⟩⟩⟩
      exact ⟨l, rfl, upd_same, ⟨xs, put_tp (same_new hl _ _ eW) (fun _ z => by cases z) _ _ upd_same, tks_mono r (TP.trans (new_tp hl) (put_tp (same_new hl _ _ eW) fun _ z => by cases z))⟩, (Pres.same (same_new hl)).trans (Pres.put (same_new hl _ _ eW) fun z => z rfl)⟩
    · refine ⟨S0, xs, rfl, .inr ⟨SqT.of e, ⟨_, rfl, W, cWeb K, dx, [], rfl, eW, T.c_Web, T.n_spots, (show 0 < 1000 by decide), ?_⟩⟩⟩
      exact ⟨S0, rfl, upd_same, ⟨xs, put_tp eW (fun _ z => by cases z) _ _ e, tks_mono r (put_tp eW fun _ z => by cases z)⟩, Pres.put eW fun z => z rfl⟩
  rintro σ' H2 ⟨S, rfl, eW2, hS2, p2⟩
  -- the places
  refine ⟨_, rfl, W, _, _, _, _, rfl, eW2, T.c_Web, T.n_spots, lk_1, S, ks, rfl, hS2, hs, fun D kvs H3 s3 fD eD nD => ?_⟩
  refine ⟨_, rfl, W, _, _, _, rfl, s3 _ _ eW2, T.c_Web, T.n_at, (show 1 < 1000 by decide), ?_⟩
  rw [pf_1]
  have nDW : D ≠ W := ne_of eD (s3 _ _ eW2) fun z => by cases z
  have p3 := (p2.trans (Pres.same s3)).trans (Pres.put (u := .ins (cWeb K) dx (w2 (.ref S) (.ref D))) (s3 _ _ eW2) fun z => z rfl)
  have hS3 := (hS2.mono (same_tp s3)).mono (put_tp (u := .ins (cWeb K) dx (w2 (.ref S) (.ref D))) (s3 _ _ eW2) fun _ z => by cases z)
  have eD3 : (upd H3 W (.ins (cWeb K) dx (w2 (.ref S) (.ref D)))) D = some (.dT kvs) := by rw [upd_ne nDW]; exact eD
  generalize hH4 : upd H3 W (.ins (cWeb K) dx (w2 (.ref S) (.ref D))) = H4 at p3 hS3 eD3 ⊢
  have eW4 : H4 W = some (.ins (cWeb K) dx (w2 (.ref S) (.ref D))) := by rw [← hH4]; exact upd_same
  have hL4 : LinksAny H4 L0 ls := by
    have tp4 : TP H H4 := p3.tp fun c xs e z => by subst z; rw [eW] at e; cases e
    rcases hL with ⟨xs, e, r⟩ | ⟨xs, e, r⟩
    · exact .inl ⟨xs, p3 _ _ e (fun z => by subst z; rw [eW] at e; cases e), lvs_mono r tp4⟩
    · exact .inr ⟨xs, tp4 _ _ e, lvs_mono r tp4⟩
  -- the links
  refine ⟨fun σ' H5 => ∃ (L : Addr), σ' = [some (.ref W), some (.ref S0), some (.ref L0), some (.bl sure)] ∧ H5 W = some (.ins (cWeb K) dx (w3 (.ref S) (.ref D) (.ref L))) ∧ SpotsT H5 S ks ∧ LinksT H5 L ls ∧ H5 D = some (.dT kvs) ∧ Pres (fun c _ => c ≠ W) H H5, ?_, ?_⟩
  · refine ⟨_, rfl, ?_⟩
    rcases hL4 with ⟨xs, e, r⟩ | ⟨xs, e, r⟩
    · refine ⟨L0, xs, rfl, .inl ⟨SqL.of e, fun l hl => ⟨_, rfl, W, _, _, _, rfl, same_new hl _ _ eW4, T.c_Web, T.n_links, (show 2 < 1000 by decide), ?_⟩⟩⟩
      have tp : TP H4 (upd (upd H4 l (.tup xs)) W (.ins (cWeb K) dx (w3 (.ref S) (.ref D) (.ref l)))) := TP.trans (new_tp hl) (put_tp (same_new hl _ _ eW4) fun _ z => by cases z)
      exact ⟨l, rfl, upd_same, hS3.mono tp, ⟨xs, put_tp (same_new hl _ _ eW4) (fun _ z => by cases z) _ _ upd_same, lvs_mono r tp⟩, by rw [upd_ne nDW]; exact same_new hl _ _ eD3, (p3.trans (Pres.same (same_new hl))).trans (Pres.put (same_new hl _ _ eW4) fun z => z rfl)⟩
    · refine ⟨L0, xs, rfl, .inr ⟨SqT.of e, ⟨_, rfl, W, _, _, _, rfl, eW4, T.c_Web, T.n_links, (show 2 < 1000 by decide), ?_⟩⟩⟩
      have tp : TP H4 (upd H4 W (.ins (cWeb K) dx (w3 (.ref S) (.ref D) (.ref L0)))) := put_tp eW4 fun _ z => by cases z
      exact ⟨L0, rfl, upd_same, hS3.mono tp, ⟨xs, tp _ _ e, lvs_mono r tp⟩, by rw [upd_ne nDW]; exact eD3, p3.trans (Pres.put eW4 fun z => z rfl)⟩
  clear hL4 eW4 hH4 eD3 hS3 p3 H4
  rintro σ' H5 ⟨L, rfl, eW5, hS5, hL5, eD5, p5⟩
  -- the checks
  refine ⟨fun σ' H6 => σ' = [some (.ref W), some (.ref S0), some (.ref L0), some (.bl sure)] ∧ H6 W = some (.ins (cWeb K) dx (w3 (.ref S) (.ref D) (.ref L))) ∧ SpotsT H6 S ks ∧ LinksT H6 L ls ∧ H6 D = some (.dT kvs) ∧ Pres (fun c _ => c ≠ W) H H6, ?_, ?_⟩
  · refine ⟨_, rfl, _, rfl, ite2 (fun hsu => ?_) (fun _ => ⟨rfl, eW5, hS5, hL5, eD5, p5⟩)⟩
    have hsu' : sure = false := by
      cases sure with
      | true => cases hsu
      | false => rfl
    refine ⟨_, rfl, W, _, _, _, _, rfl, eW5, T.c_Web, T.n_at, lk_2, _, rfl, W, _, _, _, _, rfl, eW5, T.c_Web, T.n_links, lk_3, D, L, kvs, ks, ls, rfl, eD5, nD, hs, hL5, hw, ?_⟩
    refine ⟨_, rfl, W, _, _, _, _, rfl, eW5, T.c_Web, T.n_spots, lk_4, _, rfl, W, _, _, _, _, rfl, eW5, T.c_Web, T.n_links, lk_3, S, L, ks, ls, rfl, hS5, hL5, hs, hw, ht hsu', fun H6 s6 => ?_⟩
    exact ⟨rfl, s6 _ _ eW5, hS5.mono (same_tp s6), hL5.mono (same_tp s6), s6 _ _ eD5, p5.trans (Pres.same s6)⟩
  clear eW5 hS5 hL5 eD5 p5 H5
  rintro σ' H6 ⟨rfl, eW6, hS6, hL6, eD6, p6⟩
  refine ⟨_, rfl, W, _, _, _, rfl, eW6, T.c_Web, T.n_levels, (show 3 < 1000 by decide), ?_⟩
  rw [pf_3]
  refine ⟨_, rfl, W, _, _, _, rfl, upd_same, T.c_Web, T.n_broken, (show 4 < 1000 by decide), ?_⟩
  rw [pf_4, upd_upd]
  refine ⟨_, rfl, W, _, _, _, rfl, upd_same, T.c_Web, T.n_onward, (show 5 < 1000 by decide), ?_⟩
  rw [pf_5, upd_upd]
  refine ⟨_, rfl, W, _, _, _, rfl, upd_same, T.c_Web, T.n_backward, (show 6 < 1000 by decide), ?_⟩
  rw [pf_6, upd_upd]
  refine fun F hF => ?_
  have nFW : F ≠ W := fun z => by subst z; rw [upd_same] at hF; cases hF
  have eW7 : (upd (upd H6 W (.ins (cWeb K) dx (w7 (.ref S) (.ref D) (.ref L) .non .non .non .non))) F (.dT [])) W = some (.ins (cWeb K) dx (w7 (.ref S) (.ref D) (.ref L) .non .non .non .non)) := by rw [upd_ne nFW.symm, upd_same]
  refine ⟨_, rfl, W, _, _, _, rfl, eW7, T.c_Web, T.n_found, (show 7 < 1000 by decide), ?_⟩
  rw [pf_7]
  have fF : H6 F = none := upd_fr _ hF
  have q1 : Pres (fun c _ => c ≠ W) H6 (upd (upd (upd H6 W (.ins (cWeb K) dx (w7 (.ref S) (.ref D) (.ref L) .non .non .non .non))) F (.dT [])) W (.ins (cWeb K) dx (webF S D L .non .non .non .non F))) :=
    ((Pres.put eW6 fun z => z rfl).trans (Pres.new hF)).trans (Pres.put eW7 fun z => z rfl)
  have tp : TP H6 (upd (upd (upd H6 W (.ins (cWeb K) dx (w7 (.ref S) (.ref D) (.ref L) .non .non .non .non))) F (.dT [])) W (.ins (cWeb K) dx (webF S D L .non .non .non .non F))) := q1.tp (fun c xs e z => by subst z; rw [eW6] at e; cases e)
  exact kk F _ (p6.trans q1) (p6.fr F fF) (WebAt.of_new upd_same (hS6.mono tp) (q1 _ _ eD6 nDW) nD (hL6.mono tp) (by rw [upd_ne nFW, upd_same]) (ne_of_none eD6 fF) hs hw har hl hcon)
theorem ok_web_init (T : Tx K mg) (c_places_of : Cal P w K mg base CX0 3 "places_of" ["spots"] [] spPlacesOf) (c_check_links : Cal P w K mg base CX0 3 "check_links" ["table", "links"] [] spCheckLinks) (c_check_loose : Cal P w K mg base CX0 2 "check_loose" ["spots", "links"] [] spLoose) : CalC P w K mg base CX0 4 "Web" (cWeb K) ["self", "spots", "links", "sure"] [] (spWebInit K) := by
  obtain ⟨fd, F, FO⟩ := fn_web_init (P := P) (w := w) (base := base) T c_places_of c_check_links c_check_loose
  obtain ⟨ds, hd, hb⟩ := F.binds1 (ps := ["self", "spots", "links", "sure"]) 4 1 (fun z => by cases z) rfl fun _ _ _ _ _ _ _ us its hu hi => match us, its, hu, hi with | [_, _, _, _], [_], _, _ => ⟨_, rfl, rfl⟩
  exact ⟨_, fd, ds, FO, T.k_Web, T.g_Web, hb, hd⟩
theorem ok_web_init1 (T : Tx K mg) (c_places_of : Cal P w K mg base CX0 3 "places_of" ["spots"] [] spPlacesOf) (c_check_links : Cal P w K mg base CX0 3 "check_links" ["table", "links"] [] spCheckLinks) (c_check_loose : Cal P w K mg base CX0 2 "check_loose" ["spots", "links"] [] spLoose) : CalC P w K mg base CX0 4 "Web" (cWeb K) ["self", "spots", "links", "sure"] [.bl false] (spWebInit K) := by
  obtain ⟨fd, F, FO⟩ := fn_web_init (P := P) (w := w) (base := base) T c_places_of c_check_links c_check_loose
  obtain ⟨ds, hd, hb⟩ := F.binds1 (ps := ["self", "spots", "links", "sure"]) 3 0 (fun z => by cases z) rfl fun _ _ _ _ _ _ _ us its hu hi => match us, its, hu, hi with | [_, _, _], [_], _, _ => ⟨_, rfl, rfl⟩
  exact ⟨_, fd, ds, FO, T.k_Web, T.g_Web, hb, hd⟩
end
end Ell
set_option maxHeartbeats 4000000
namespace Ell
open PySem PySem.Spec PyProof.Rows L2
/-! ### prepare -/
structure AdjTo (H : Hp) (On : Addr) (N : Nat) (as : List Arc) (rs : List Addr) : Prop where
  e : H On = some (.lst (rs.map V.ref))
  len : rs.length = N
  nd : rs.Nodup
  nO : On ∉ rs
  row : ∀ (v : Nat) (r : Addr), rs[v]? = some r → ∃ xs : List V, H r = some (.lst xs) ∧ Paired (fun x (e : Arc) => StV H x e.2.1 e.2.2) xs (as.filter fun e => e.1 == v)
theorem StV.mono {H H' : Hp} {v : V} {b : Nat} {w : Int} (h : StV H v b w) (t : TP H H') : StV H' v b w := by
  obtain ⟨p, n, e, q⟩ := h
  exact ⟨p, n, e, t _ _ q⟩
theorem AdjTo.keep {H H' : Hp} {On : Addr} {N : Nat} {as : List Arc} {rs : List Addr} (h : AdjTo H On N as rs) (k1 : ∀ o, H On = some o → H' On = some o) (k2 : ∀ r ∈ rs, ∀ o, H r = some o → H' r = some o) (t : TP H H') : AdjTo H' On N as rs :=
  ⟨k1 _ h.e, h.len, h.nd, h.nO, fun v r hr => by
    obtain ⟨xs, e, p⟩ := h.row v r hr
    exact ⟨xs, k2 r (List.mem_of_getElem? hr) _ e, Paired.mapP p fun _ _ q => q.mono t⟩⟩
theorem AdjTo.same {H H' : Hp} {On : Addr} {N : Nat} {as : List Arc} {rs : List Addr} (h : AdjTo H On N as rs) (k : Same H H') : AdjTo H' On N as rs := h.keep (fun o e => k _ _ e) (fun r _ o e => k _ _ e) (same_tp k)
theorem AdjTo.snoc {H : Hp} {On : Addr} {N : Nat} {as : List Arc} {rs : List Addr} {e : Arc} {r : Addr} {xs : List V} {x : V} (h : AdjTo H On N as rs) (hr : rs[e.1]? = some r) (er : H r = some (.lst xs)) (hx : StV H x e.2.1 e.2.2) : AdjTo (upd H r (.lst (xs ++ [x]))) On N (as ++ [e]) rs := by
  have nr : On ≠ r := fun z => h.nO (by rw [z]; exact List.mem_of_getElem? hr)
  have t : TP H (upd H r (.lst (xs ++ [x]))) := put_tp er fun _ z => by cases z
  refine ⟨by rw [upd_ne nr]; exact h.e, h.len, h.nd, h.nO, fun v r' hr' => ?_⟩
  obtain ⟨ys, ey, py⟩ := h.row v r' hr'
  by_cases e1 : r' = r
  · subst e1
    have ev : e.1 = v := nd_ix h.nd hr hr'
    rw [er] at ey
    cases ey
    refine ⟨_, upd_same, ?_⟩
    rw [List.filter_append]
    have e2 : List.filter (fun e => e.1 == v) [e] = [e] := by simp [ev]
    rw [e2]
    exact pr_snoc (Paired.mapP py fun _ _ q => q.mono t) (hx.mono t)
  · have ev : ¬ e.1 = v := fun z => e1 (by subst z; rw [hr] at hr'; exact (Option.some.inj hr').symm)
    refine ⟨ys, by rw [upd_ne e1]; exact ey, ?_⟩
    rw [List.filter_append]
    have e2 : List.filter (fun e => e.1 == v) [e] = [] := by simp [ev]
    rw [e2, List.append_nil]
    exact Paired.mapP py fun _ _ q => q.mono t
theorem AdjTo.at_ {H : Hp} {On : Addr} {N : Nat} {as : List Arc} {rs : List Addr} (h : AdjTo H On N as rs) : AdjAt H On N as := by
  refine ⟨rs, h.e, h.len, fun v r hr => ?_⟩
  obtain ⟨xs, e, p⟩ := h.row v r hr
  refine ⟨xs, _, e, p, fun e he ev => List.mem_filter.mpr ⟨he, by simp [ev]⟩, fun e he => ?_, List.length_filter_le _ _⟩
  obtain ⟨h1, h2⟩ := List.mem_filter.mp he
  exact ⟨h1, by simpa using h2⟩
theorem AdjTo.put {H : Hp} {On x : Addr} {N : Nat} {as : List Arc} {rs : List Addr} {o u : HO} (h : AdjTo H On N as rs) (e : H x = some o) (n : ∀ xs, o ≠ .tup xs) (h1 : On ≠ x) (h2 : x ∉ rs) : AdjTo (upd H x u) On N as rs :=
  h.keep (fun o e => by rw [upd_ne h1]; exact e) (fun r hr o e => by rw [upd_ne (fun z => h2 (by rw [← z]; exact hr))]; exact e) (put_tp e n)
def spPrep (K : PySem.W.Frag) : Sp := fun vs H Q _ => ∃ (W F : Addr) (ks : List (List Key)) (ls : List Lk) (as : List Arc) (st : WState), vs = [.ref W] ∧ WebAt K H W F ks ls as st ∧
  ∀ (st' : WState) (H' : Hp), FWb W F H H' → WebAt K H' W F ks ls as st' → st' ≠ .new → Q .non H'
section
variable {P : Program} {w : World} {K : PySem.W.Frag} {mg : Str → Option Value} {base : Heap}
theorem ok_prep (T : Tx K mg) (c_levels_or_ring : Cal P w K mg base CX0 1 "levels_or_ring" ["many", "arcs"] [] (spLevels K)) : CalM P w K mg base CX0 2 (cWeb K) "prepare" ["self"] [] (spPrep K) := by
  obtain ⟨fd, F⟩ := T.f_Web_prepare
  refine ⟨_, fd, [], F.ok sc_Web_prepare (fun vs H Q E h => ?_) (fun cdv A outer s H vs Q E hr h => ?_), T.c_Web, T.m_Web_prepare, F.bindsN fun _ _ _ _ _ _ us hl => match us, hl with | [_], _ => rfl, .nil⟩
  · obtain ⟨W, F, ks, ls, as, st, rfl, _⟩ := h
    rfl
  obtain ⟨W, F, ks, ls, as, st, rfl, hW, kk⟩ := h
  have hu := hu_of hr
  refine ⟨_, PSs.nox ((pss_one (ps_if (PW.pt (pw_and (pt_cmpR op_isN (fldK K (pv 0)) pe_non (nomark _)) (pw_and1 (pt_cmpR op_isN (fldK K (pv 0)) pe_non (nomark _))))) (pss_cons (ps_setLc (i := 1) (own := [("link", 10)]) (g := gName 10) (tt := tYes) rfl sc_Web_prepare.nd rfl rfl (sw_true rfl rfl rfl (by decide +kernel)) (pi_tupK K (fldK K (pv 0))) (blkOk_by (N := N_Web_prepare) (sc := defScope s_Web_prepare) (by decide +kernel)) (fun _ _ _ _ _ => (pg_name (i := 10) sc_Web_prepare.nd rfl (Or.inl rfl))) (fun _ _ _ _ _ => pts_nil) (fun _ _ _ _ _ => (pe_tup (pa_cons (pe_dget hu (fldK K (pv 0)) (pe_ix (ix_tupK K) (pv 10) pe_int (fun _ _ => rfl)) (fun _ _ => rfl)) (pa_cons (pe_dget hu (fldK K (pv 0)) (pe_ix (ix_tupK K) (pv 10) pe_int (fun _ _ => rfl)) (fun _ _ => rfl)) (pa_cons (pe_ix (ix_tupK K) (pv 10) pe_int (fun _ _ => rfl)) pa_nil))))))
          (pss_cons (ps_asg (pcall c_levels_or_ring hr (pa_cons (pe_callB (call_lenK K) (by rfl) T.b_len PySem.boot_len (pa_cons (fldK K (pv 0)) pa_nil)) (pa_cons (pv 1) pa_nil))) (pg_tupK K rfl (pgs_cons (pg_name (i := 2) sc_Web_prepare.nd rfl (Or.inl rfl)) (pgs_cons (pg_name (i := 3) sc_Web_prepare.nd rfl (Or.inl rfl)) pgs_nil))))
          (pss_one (ps_if (pt_cmpR op_notN (pv 3) pe_non (nomark _)) (pss_one (psfldK K (pv 0) (pe_callTy (tupofK K) (by rfl) T.b_tuple (by decide +kernel) (pa_cons (pe_lc (own := [("number", 6)]) (g := gName 6) (tt := tYes) rfl sc_Web_prepare.nd (pi_listK K (pv 3)) (blkOk_by (N := N_Web_prepare) (sc := defScope s_Web_prepare) (by decide +kernel)) (fun _ _ _ _ _ => (pg_name (i := 6) sc_Web_prepare.nd rfl (Or.inl rfl))) (fun _ _ _ _ _ => pts_nil) (fun _ _ _ _ _ => (pe_ix (ix_tupK K) (fldK K (pv 0)) (pv 6) (fun _ _ => rfl)))) pa_nil)))) (pss_cons (ps_setLc (i := 4) (own := [("spot", 11)]) (g := gName 11) (tt := tYes) rfl sc_Web_prepare.nd rfl rfl (sw_true rfl rfl rfl (by decide +kernel)) (pi_tupK K (fldK K (pv 0))) (blkOk_by (N := N_Web_prepare) (sc := defScope s_Web_prepare) (by decide +kernel)) (fun _ _ _ _ _ => (pg_name (i := 11) sc_Web_prepare.nd rfl (Or.inl rfl))) (fun _ _ _ _ _ => pts_nil) (fun _ _ _ _ _ => (pe_lst pa_nil)))
            (pss_cons (ps_setLc (i := 5) (own := [("spot", 11)]) (g := gName 11) (tt := tYes) rfl sc_Web_prepare.nd rfl rfl (sw_true rfl rfl rfl (by decide +kernel)) (pi_tupK K (fldK K (pv 0))) (blkOk_by (N := N_Web_prepare) (sc := defScope s_Web_prepare) (by decide +kernel)) (fun _ _ _ _ _ => (pg_name (i := 11) sc_Web_prepare.nd rfl (Or.inl rfl))) (fun _ _ _ _ _ => pts_nil) (fun _ _ _ _ _ => (pe_lst pa_nil)))
            (pss_cons (ps_for PassesOwn.never rfl (pi_enumK K (by rfl) T.b_enumerate (pa_cons (pv 1) pa_nil)) (pg_tupK K rfl (pgs_cons (pg_name (i := 6) sc_Web_prepare.nd rfl (Or.inl rfl)) (pgs_cons (pg_tupK K rfl (pgs_cons (pg_name (i := 7) sc_Web_prepare.nd rfl (Or.inl rfl)) (pgs_cons (pg_name (i := 8) sc_Web_prepare.nd rfl (Or.inl rfl)) (pgs_cons (pg_name (i := 9) sc_Web_prepare.nd rfl (Or.inl rfl)) pgs_nil)))) pgs_nil)))
              (pss_cons (ps_expr (bmK K PySem.F.plainAttrs_list PySem.F.slot_list_append PySem.F.type_list_append mt_append (pe_ix (ix_listK K) (pv 4) (pv 7) (fun _ _ => rfl)) (pa_cons (pe_tup (pa_cons (pv 8) (pa_cons (pv 9) (pa_cons (pv 6) pa_nil)))) pa_nil)))
              (pss_one (ps_expr (bmK K PySem.F.plainAttrs_list PySem.F.slot_list_append PySem.F.type_list_append mt_append (pe_ix (ix_listK K) (pv 5) (pv 8) (fun _ _ => rfl)) (pa_cons (pe_tup (pa_cons (pv 7) (pa_cons (pv 9) (pa_cons (pv 6) pa_nil)))) pa_nil))))))
            (pss_cons (psfldK K (pv 0) (pv 4))
            (pss_cons (psfldK K (pv 0) (pv 5))
            (pss_one (psfldK K (pv 0) (pv 2)))))))))))) pss_nil))), ?_⟩
  obtain ⟨⟨dx, S, D, L, lv, br, on, bk, kvs, eW, hS, eD, nD, hL, hF, nDF, hst⟩, sp, wf, ar, nl, con⟩ := id hW
  have fld : ∀ {H' : Hp} {lv br on bk : V}, H' W = some (.ins (cWeb K) dx (webF S D L lv br on bk F)) → True := fun _ => True.intro
  cases st with
  | sound =>
    obtain ⟨rfl, Lv, On, Bk, p, rfl, rfl, rfl, h4⟩ := hst
    refine ⟨_, rfl, W, _, _, _, _, rfl, eW, T.c_Web, T.n_levels, wf_levels, rfl, _, rfl, ite2 (fun z => by cases z) (fun _ => kk .sound H Pres.refl hW (fun z => by cases z))⟩
  | broken =>
    obtain ⟨rfl, Br, r, rfl, h4⟩ := hst
    refine ⟨_, rfl, W, _, _, _, _, rfl, eW, T.c_Web, T.n_levels, wf_levels, rfl, _, rfl, ite2 (fun _ => ?_) (fun z => absurd rfl z)⟩
    refine ⟨_, rfl, W, _, _, _, _, rfl, eW, T.c_Web, T.n_broken, wf_broken, rfl, _, rfl, ite2 (fun z => by cases z) (fun _ => kk .broken H Pres.refl hW (fun z => by cases z))⟩
  | new =>
    obtain ⟨rfl, rfl⟩ := hst
    refine ⟨_, rfl, W, _, _, _, _, rfl, eW, T.c_Web, T.n_levels, wf_levels, rfl, _, rfl, ite2 (fun _ => ?_) (fun z => absurd rfl z)⟩
    refine ⟨_, rfl, W, _, _, _, _, rfl, eW, T.c_Web, T.n_broken, wf_broken, rfl, _, rfl, ite2 (fun _ => ?_) (fun z => absurd rfl z)⟩
    -- the arcs
    obtain ⟨xs, eL, rL⟩ := id hL
    have len := pr_len rL
    have lena := pr_len ar
    have hn := sp.n
    refine ⟨_, rfl, W, _, _, _, _, rfl, eW, T.c_Web, T.n_links, wf_links, L, rfl, ⟨_, SqT.of eL⟩, fun A0 hA0 => lc_tup (K := K) (a := L) (xs := xs) (fun i H2 => ∃ ys, H2 A0 = some (.lst ys) ∧ AVs H2 ys (as.take i) ∧ ys.length = i ∧ Same H H2) ?_ (fun i H2 _ ⟨_, _, _, _, s2⟩ => SqT.of (s2 _ _ eL)) ?_ ?_⟩
    · exact ⟨[], upd_same, .nil, rfl, same_new hA0⟩
    · rintro i x H2 hi ⟨ys, e2, a2, l2, s2⟩
      obtain ⟨l, hll, lv⟩ := pr_get rL hi
      obtain ⟨a, haa, oa⟩ := pr_get ar hll
      obtain ⟨p, x, y, z, rfl, q, h1, h2, h3⟩ := lv.mono (same_tp s2)
      have q' : SqT K H2 p _ := SqT.of q
      refine ⟨rfl, _, rfl, W, _, _, _, _, rfl, s2 _ _ eW, T.c_Web, T.n_at, wf_at, _, rfl, p, _, _, x, rfl, rfl, q', atI_nat (j := 0) rfl, D, _, rfl, num_get (s2 _ _ eD) nD h1 oa.1, ?_⟩
      refine ⟨_, rfl, W, _, _, _, _, rfl, s2 _ _ eW, T.c_Web, T.n_at, wf_at, _, rfl, p, _, _, y, rfl, rfl, q', atI_nat (j := 1) rfl, D, _, rfl, num_get (s2 _ _ eD) nD h2 oa.2.1, ?_⟩
      refine ⟨_, rfl, p, _, _, .int l.w, rfl, rfl, q', atI_nat (j := 2) rfl, (show 3 ≤ sizeLine by decide), fun t ht => ⟨ys, ?_, small1000 (by have := (List.getElem?_eq_some_iff.mp hi).1; omega), ?_⟩⟩
      · rw [upd_ne (ne_of_none e2 ht)]
        exact e2
      have e2' : (upd H2 t (.tup [.int (a.1 : Nat), .int (a.2.1 : Nat), .int l.w])) A0 = some (.lst ys) := by rw [upd_ne (ne_of_none e2 ht)]; exact e2
      have tp := put_tp (u := .lst (ys ++ [.ref t])) e2' (fun _ z => by cases z)
      refine ⟨ys ++ [.ref t], upd_same, ?_, by rw [List.length_append, l2]; rfl, fun c o e => ?_⟩
      · rw [take_snoc haa]
        refine pr_snoc (avs_mono (avs_mono a2 (new_tp ht)) tp) ⟨t, rfl, ?_⟩
        rw [oa.2.2]
        exact tp _ _ upd_same
      · rw [upd_ne (ne_of_none e hA0), upd_ne (ne_of_none (s2 _ _ e) ht)]
        exact s2 _ _ e
    rintro H2 ⟨ys, e2, a2, l2, s2⟩
    rw [List.take_of_length_le (by omega)] at a2
    have hN : ∀ e ∈ as, e.1 < ks.length ∧ e.2.1 < ks.length := fun e he => by
      obtain ⟨l, hm, o⟩ := pr_mem2 ar he
      exact ⟨(List.getElem?_eq_some_iff.mp o.1).1, (List.getElem?_eq_some_iff.mp o.2.1).1⟩
    have hne : ∀ e ∈ as, e.1 ≠ e.2.1 := fun e he z => by
      obtain ⟨l, hm, o⟩ := pr_mem2 ar he
      have h1 := o.1
      rw [z, o.2.1] at h1
      exact wf.ne l hm (Option.some.inj h1).symm
    obtain ⟨sx, eS, rS⟩ := id hS
    have lens := pr_len rS
    refine ⟨_, rfl, W, _, _, _, _, rfl, s2 _ _ eW, T.c_Web, T.n_spots, wf_spots, _, ks.length, rfl, .inr ⟨_, SqT.of (s2 _ _ eS), lens.symm⟩, _, rfl, A0, ks.length, ys, as, rfl, sp.pos, by omega, e2, a2, by omega, hN, hne, ?_, ?_⟩
    · -- levels
      intro p Lv lv H3 s3 fLv ep eLv hp
      refine ⟨p, _, rfl, SqT.of ep, rfl, _, _, rfl, _, _, rfl, rfl, ?_⟩
      refine ⟨_, rfl, rfl, _, rfl, ite2 (fun z => by cases z) (fun _ => ?_)⟩
      have s03 := s2.trans s3
      have eW3 := s03 _ _ eW
      have eS3 := s03 _ _ eS
      refine ⟨_, rfl, W, _, _, _, _, rfl, eW3, T.c_Web, T.n_spots, wf_spots, S, rfl, ⟨_, SqT.of eS3⟩, fun On hOn => lc_tup (K := K) (a := S) (xs := sx) (fun i H9 => ∃ rs : List Addr, H9 On = some (.lst (rs.map V.ref)) ∧ rs.length = i ∧ rs.Nodup ∧ On ∉ rs ∧ (∀ r ∈ rs, H9 r = some (.lst [])) ∧ (∀ r ∈ rs, H3 r = none) ∧ Same H3 H9) ?_ (fun i H9 _ ⟨_, _, _, _, _, _, _, s9⟩ => SqT.of (s9 _ _ eS3)) ?_ ?_⟩
      · exact ⟨[], upd_same, rfl, List.nodup_nil, (fun z => by cases z), (fun r z => by cases z), (fun r z => by cases z), same_new hOn⟩
      · rintro i x H9 hi ⟨rs, q1, q2, q3, q4, q5, q6, q7⟩
        have hi' := (List.getElem?_eq_some_iff.mp hi).1
        refine ⟨rfl, Nat.zero_le _, fun t ht => ?_⟩
        have nt : On ≠ t := ne_of_none q1 ht
        have ntr : ∀ r ∈ rs, r ≠ t := fun r hr => ne_of_none (q5 r hr) ht
        refine ⟨_, by rw [upd_ne nt]; exact q1, by rw [List.length_map]; exact small1000 (by omega), rs ++ [t], by rw [upd_same, List.map_append]; rfl, by rw [List.length_append, q2]; rfl, nd_snoc' q3 (fun z => ntr t z rfl), fun z => ?_, fun r hr => ?_, fun r hr => ?_, fun c o e => ?_⟩
        · rcases List.mem_append.mp z with z | z
          · exact q4 z
          · exact nt (List.mem_singleton.mp z)
        · have nr : r ≠ On := fun z => by
            rcases List.mem_append.mp hr with y | y
            · exact q4 (z ▸ y)
            · exact nt (z.symm.trans (List.mem_singleton.mp y))
          rw [upd_ne nr]
          rcases List.mem_append.mp hr with z | z
          · rw [upd_ne (ntr r z)]
            exact q5 r z
          · rw [List.mem_singleton.mp z, upd_same]
        · rcases List.mem_append.mp hr with z | z
          · exact q6 r z
          · rw [List.mem_singleton.mp z]
            exact q7.free ht
        · rw [upd_ne (ne_of_none e hOn), upd_ne (ne_of_none (q7 _ _ e) ht)]
          exact q7 _ _ e
      rintro H4 ⟨rs4, e4, l4, n4, o4, z4, f4, s4⟩
      have eW4 := s4 _ _ eW3
      have eS4 := s4 _ _ eS3
      refine ⟨_, rfl, W, _, _, _, _, rfl, eW4, T.c_Web, T.n_spots, wf_spots, S, rfl, ⟨_, SqT.of eS4⟩, fun Bk hBk => lc_tup (K := K) (a := S) (xs := sx) (fun i H9 => ∃ rs : List Addr, H9 Bk = some (.lst (rs.map V.ref)) ∧ rs.length = i ∧ rs.Nodup ∧ Bk ∉ rs ∧ (∀ r ∈ rs, H9 r = some (.lst [])) ∧ (∀ r ∈ rs, H4 r = none) ∧ Same H4 H9) ?_ (fun i H9 _ ⟨_, _, _, _, _, _, _, s9⟩ => SqT.of (s9 _ _ eS4)) ?_ ?_⟩
      · exact ⟨[], upd_same, rfl, List.nodup_nil, (fun z => by cases z), (fun r z => by cases z), (fun r z => by cases z), same_new hBk⟩
      · rintro i x H9 hi ⟨rs, q1, q2, q3, q4, q5, q6, q7⟩
        have hi' := (List.getElem?_eq_some_iff.mp hi).1
        refine ⟨rfl, Nat.zero_le _, fun t ht => ?_⟩
        have nt : Bk ≠ t := ne_of_none q1 ht
        have ntr : ∀ r ∈ rs, r ≠ t := fun r hr => ne_of_none (q5 r hr) ht
        refine ⟨_, by rw [upd_ne nt]; exact q1, by rw [List.length_map]; exact small1000 (by omega), rs ++ [t], by rw [upd_same, List.map_append]; rfl, by rw [List.length_append, q2]; rfl, nd_snoc' q3 (fun z => ntr t z rfl), fun z => ?_, fun r hr => ?_, fun r hr => ?_, fun c o e => ?_⟩
        · rcases List.mem_append.mp z with z | z
          · exact q4 z
          · exact nt (List.mem_singleton.mp z)
        · have nr : r ≠ Bk := fun z => by
            rcases List.mem_append.mp hr with y | y
            · exact q4 (z ▸ y)
            · exact nt (z.symm.trans (List.mem_singleton.mp y))
          rw [upd_ne nr]
          rcases List.mem_append.mp hr with z | z
          · rw [upd_ne (ntr r z)]
            exact q5 r z
          · rw [List.mem_singleton.mp z, upd_same]
        · rcases List.mem_append.mp hr with z | z
          · exact q6 r z
          · rw [List.mem_singleton.mp z]
            exact q7.free ht
        · rw [upd_ne (ne_of_none e hBk), upd_ne (ne_of_none (q7 _ _ e) ht)]
          exact q7 _ _ e
      rintro H5 ⟨rs5, e5, l5, n5, o5, z5, f5, s5⟩
      have s05 := s03.trans (s4.trans s5)
      have eA5 := (s3.trans (s4.trans s5)) _ _ e2
      have aO5 : AdjTo H5 On ks.length (as.take 0) rs4 := by
        refine ⟨s5 _ _ e4, by rw [l4]; exact lens, n4, o4, fun v r hr => ⟨[], s5 _ _ (z4 r (List.mem_of_getElem? hr)), ?_⟩⟩
        rw [List.take_zero]
        exact .nil
      have aB5 : AdjTo H5 Bk ks.length (rev (as.take 0)) rs5 := by
        refine ⟨e5, by rw [l5]; exact lens, n5, o5, fun v r hr => ⟨[], z5 r (List.mem_of_getElem? hr), ?_⟩⟩
        rw [List.take_zero]
        exact .nil
      have d1 : ∀ r ∈ rs5, r ∉ rs4 ∧ r ≠ On := fun r hr => ⟨(fun z => by have := z4 r z; rw [f5 r hr] at this; cases this), (fun z => by have := f5 r hr; rw [z, e4] at this; cases this)⟩
      have d2 : Bk ∉ rs4 ∧ Bk ≠ On := ⟨(fun z => by have := z4 Bk z; rw [hBk] at this; cases this), (fun z => by rw [z, e4] at hBk; cases hBk)⟩
      refine ⟨_, rfl, A0, ys, rfl, SqL.of eA5, for_enum (K := K) (a := A0) (xs := ys) (fun i σ H6 => ∃ (o1 o6 o7 o8 o9 o10 o11 : Option V), σ = [some (.ref W), o1, some (.ref Lv), some .non, some (.ref On), some (.ref Bk), o6, o7, o8, o9, o10, o11] ∧ AdjTo H6 On ks.length (as.take i) rs4 ∧ AdjTo H6 Bk ks.length (rev (as.take i)) rs5 ∧ Same H3 H6) ?_ (fun i σ H6 _ ⟨_, _, _, _, _, _, _, _, _, _, s6⟩ => SqL.of (s6 _ _ (s3 _ _ e2))) ?_ ?_⟩
      · exact ⟨_, _, _, _, _, _, _, rfl, aO5, aB5, s4.trans s5⟩
      · rintro i x Tp σ H6 hi ⟨o1, o6, o7, o8, o9, o10, o11, rfl, aO, aB, s6⟩ hT
        have a6 := avs_mono a2 (same_tp (s3.trans s6))
        obtain ⟨e, he, q, rfl, hq⟩ := pr_get a6 hi
        obtain ⟨ha, hb⟩ := hN e (List.mem_of_getElem? he)
        have sT := same_new (o := .tup [.int (i : Nat), .ref q]) hT
        have aO7 := aO.same sT
        have aB7 := aB.same sT
        obtain ⟨ra, hra⟩ : ∃ ra, rs4[e.1]? = some ra := ⟨_, List.getElem?_eq_getElem (by rw [aO.len]; exact ha)⟩
        obtain ⟨rb, hrb⟩ : ∃ rb, rs5[e.2.1]? = some rb := ⟨_, List.getElem?_eq_getElem (by rw [aB.len]; exact hb)⟩
        have mra := List.mem_of_getElem? hra
        have mrb := List.mem_of_getElem? hrb
        have ila := (List.getElem?_eq_some_iff.mp he).1
        refine ⟨Tp, _, rfl, SqT.of upd_same, rfl, _, _, rfl, _, _, rfl, q, _, rfl, SqT.of (sT _ _ hq), rfl, _, _, rfl, _, _, rfl, _, _, rfl, rfl, rfl, ?_⟩
        -- onward
        obtain ⟨xa, exa, pxa⟩ := aO7.row e.1 ra hra
        have lxa : xa.length ≤ 1000 := by
          have := pr_len pxa
          have := List.length_filter_le (fun g : Arc => g.1 == e.1) (as.take i)
          have := List.length_take_le i as
          omega
        refine ⟨_, rfl, _, rfl, On, _, _, .ref ra, rfl, rfl, SqL.of aO7.e, atI_nat (by rw [List.getElem?_map, hra]; rfl), .inl ⟨rfl, _, SqL.of exa⟩, _, rfl, _, rfl, _, rfl, (show 3 ≤ sizeLine by decide), fun t1 ht1 => ?_⟩
        have st1 := same_new (o := .tup [.int (e.2.1 : Nat), .int e.2.2, .int (i : Nat)]) ht1
        refine ⟨ra, xa, .ref t1, rfl, rfl, st1 _ _ exa, small1000 lxa, ?_⟩
        have aO8 := (aO7.same st1).snoc (e := e) (x := .ref t1) hra (st1 _ _ exa) ⟨t1, _, rfl, upd_same⟩
        have aB8 := (aB7.same st1).put (u := .lst (xa ++ [.ref t1])) (st1 _ _ exa) (fun _ z => by cases z) (fun z => d2.1 (by rw [z]; exact mra)) (fun z => (d1 ra z).1 mra)
        have fra : H3 ra = none := f4 ra mra
        have s8 : Same H3 (upd (upd (upd H6 Tp (.tup [.int (i : Nat), .ref q])) t1 (.tup [.int (e.2.1 : Nat), .int e.2.2, .int (i : Nat)])) ra (.lst (xa ++ [.ref t1]))) := fun c o ec => by
          rw [upd_ne (ne_of_none ec fra)]
          exact st1 _ _ (sT _ _ (s6 _ _ ec))
        generalize upd (upd (upd H6 Tp (.tup [.int (i : Nat), .ref q])) t1 (.tup [.int (e.2.1 : Nat), .int e.2.2, .int (i : Nat)])) ra (.lst (xa ++ [.ref t1])) = H8 at aO8 aB8 s8 ⊢
        -- backward
        obtain ⟨xb, exb, pxb⟩ := aB8.row e.2.1 rb hrb
        have lxb : xb.length ≤ 1000 := by
          have := pr_len pxb
          have := List.length_filter_le (fun g : Arc => g.1 == e.2.1) (rev (as.take i))
          have : (rev (as.take i)).length = (as.take i).length := List.length_map _
          have := List.length_take_le i as
          omega
        refine ⟨_, rfl, _, rfl, Bk, _, _, .ref rb, rfl, rfl, SqL.of aB8.e, atI_nat (by rw [List.getElem?_map, hrb]; rfl), .inl ⟨rfl, _, SqL.of exb⟩, _, rfl, _, rfl, _, rfl, (show 3 ≤ sizeLine by decide), fun t2 ht2 => ?_⟩
        have st2 := same_new (o := .tup [.int (e.1 : Nat), .int e.2.2, .int (i : Nat)]) ht2
        refine ⟨rb, xb, .ref t2, rfl, rfl, st2 _ _ exb, small1000 lxb, ?_⟩
        have aB9 := (aB8.same st2).snoc (e := revA e) (x := .ref t2) hrb (st2 _ _ exb) ⟨t2, _, rfl, upd_same⟩
        have aO9 := (aO8.same st2).put (u := .lst (xb ++ [.ref t2])) (st2 _ _ exb) (fun _ z => by cases z) (fun z => (d1 rb mrb).2 z.symm) (d1 rb mrb).1
        refine ⟨_, _, _, _, _, _, _, rfl, ?_, ?_, fun c o ec => ?_⟩
        · rw [take_snoc he]
          exact aO9
        · rw [take_snoc he, rev, List.map_append]
          exact aB9
        · rw [upd_ne (ne_of_none ec (s4.free (f5 rb mrb)))]
          exact st2 _ _ (s8 _ _ ec)
      · rintro σ H6 ⟨o1, o6, o7, o8, o9, o10, o11, rfl, aO, aB, s6⟩
        rw [show ys.length = as.length by omega, List.take_length] at aO aB
        have s06 := s03.trans s6
        have eW6 := s6 _ _ eW3
        refine ⟨_, rfl, _, rfl, W, _, _, _, rfl, eW6, T.c_Web, T.n_onward, wf_len, ?_⟩
        rw [wp_onward]
        refine ⟨_, rfl, _, rfl, W, _, _, _, rfl, upd_same, T.c_Web, T.n_backward, wf_len, ?_⟩
        rw [wp_backward, upd_upd]
        refine ⟨_, rfl, _, rfl, W, _, _, _, rfl, upd_same, T.c_Web, T.n_levels, wf_len, ?_⟩
        rw [wp_levels, upd_upd]
        have sW : ∀ c o, H6 c = some o → c ≠ W → (upd H6 W (.ins (cWeb K) dx (webF S D L (.ref Lv) .non (.ref On) (.ref Bk) F))) c = some o := fun c o ec n => by rw [upd_ne n]; exact ec
        have lt : ∀ c o, H6 c = some o → LT o → (upd H6 W (.ins (cWeb K) dx (webF S D L (.ref Lv) .non (.ref On) (.ref Bk) F))) c = some o := fun c o ec n => sW c o ec fun z => by
          subst z
          rw [eW6] at ec
          cases ec
          exact n
        have nDW : D ≠ W := ne_of eD eW fun z => by cases z
        have h6 := hW.same s06
        refine kk .sound _ ((Pres.same s06).trans ⟨fun c o ec n => sW c o ec n.1, upd_fr⟩) ?_ (fun z => by cases z)
        obtain ⟨⟨dx', S', D', L', lv', br', on', bk', kvs', eW', hS', eD', nD', hL', ⟨fk, eF', nF', mF', vF'⟩, nDF', -⟩, -, -, -, -, -⟩ := h6
        rw [eW6] at eW'
        have tp := TP.of fun c o ec n _ => lt c o ec n
        refine ⟨⟨dx, S, D, L, .ref Lv, .non, .ref On, .ref Bk, kvs, upd_same, (hS.mono (same_tp s06)).mono tp, sW _ _ (s06 _ _ eD) nDW, nD, (hL.mono (same_tp s06)).mono tp, ⟨fk, sW _ _ eF' (ne_of eF' eW6 fun z => by cases z), nF', mF', fun k v hv => ?_⟩, nDF, rfl, Lv, On, Bk, lv, rfl, rfl, rfl, lt _ _ (s6 _ _ eLv) True.intro, hp, aO.at_.keep fun c o e n _ => lt c o e n, aB.at_.keep fun c o e n _ => lt c o e n⟩, sp, wf, ar, nl, con⟩
        obtain ⟨q, Bl, Ll, d, h1, h2, h3, h4⟩ := vF' k v hv
        exact ⟨q, Bl, Ll, d, h1, tp _ _ h2, lt _ _ h3 True.intro, h4⟩
    · -- a ring
      intro p G is r a H3 s3 ep eG pi wr rne nd neg
      refine ⟨p, _, rfl, SqT.of ep, rfl, _, _, rfl, _, _, rfl, rfl, ?_⟩
      refine ⟨_, rfl, rfl, _, rfl, ite2 (fun _ => ?_) (fun z => absurd rfl z)⟩
      obtain ⟨rl, prl, rok⟩ := ring_of sp.nd ar pi wr rne nd neg
      have s03 := s2.trans s3
      have eW3 := s03 _ _ eW
      have lis := pr_len prl
      have lrl : rl.length ≤ 1000 := by
        have h1 : (rl.map (·.a)).length ≤ ks.length := sub_len rok.nd fun x hx => by
          obtain ⟨l, hl, rfl⟩ := List.mem_map.mp hx
          exact wf.a l (rok.m l hl)
        rw [List.length_map] at h1
        omega
      refine ⟨_, rfl, G, rfl, ⟨_, SqL.of eG⟩, fun R hR => lc_list (K := K) (a := G) (xs := is.map fun i => V.int (i : Nat)) (fun i H4 => ∃ zs, H4 R = some (.lst zs) ∧ LVs H4 zs (rl.take i) ∧ Same H3 H4) ?_ (fun i H4 _ ⟨_, _, _, s4⟩ => SqL.of (s4 _ _ eG)) ?_ ?_⟩
      · exact ⟨[], upd_same, .nil, same_new hR⟩
      · rintro i x H4 hi ⟨zs, e4, p4, s4⟩
        rw [List.getElem?_map] at hi
        obtain ⟨n, hn', rfl⟩ := Option.map_eq_some_iff.mp hi
        obtain ⟨l, hl, hln⟩ := pr_get prl hn'
        obtain ⟨v, hv, lv⟩ := pr_get2 rL hln
        have eL4 := s4 _ _ (s03 _ _ eL)
        refine ⟨rfl, _, rfl, W, _, _, _, _, rfl, s4 _ _ eW3, T.c_Web, T.n_links, wf_links, _, rfl, L, xs, _, v, rfl, rfl, SqT.of eL4, atI_nat hv, zs, e4, small1000 (by have := pr_len p4; have := List.length_take_le' i rl; omega), ?_⟩
        have tp := put_tp (u := .lst (zs ++ [v])) e4 (fun _ z => by cases z)
        refine ⟨_, upd_same, ?_, fun c o e => ?_⟩
        · rw [take_snoc hl]
          exact pr_snoc (lvs_mono p4 tp) ((lv.mono (same_tp (s03.trans s4))).mono tp)
        · rw [upd_ne (ne_of_none e hR)]
          exact s4 _ _ e
      · rintro H4 ⟨zs, e4, p4, s4⟩
        rw [List.take_of_length_le (by rw [List.length_map]; omega)] at p4
        refine ⟨R, zs, rfl, .inl ⟨SqL.of e4, fun Br hBr => ?_⟩⟩
        have s5 := same_new (o := .tup zs) hBr
        have s05 := s03.trans (s4.trans s5)
        have eW5 := s05 _ _ eW
        refine ⟨_, rfl, W, _, _, _, rfl, eW5, T.c_Web, T.n_broken, wf_len, ?_⟩
        rw [wp_broken]
        generalize hH5 : upd H4 Br (.tup zs) = H5 at s5 s05 eW5 ⊢
        have eBr : H5 Br = some (.tup zs) := by rw [← hH5]; exact upd_same
        have sW : ∀ c o, H5 c = some o → c ≠ W → (upd H5 W (.ins (cWeb K) dx (webF S D L .non (.ref Br) on bk F))) c = some o := fun c o ec n => by rw [upd_ne n]; exact ec
        have lt : ∀ c o, H5 c = some o → LT o → (upd H5 W (.ins (cWeb K) dx (webF S D L .non (.ref Br) on bk F))) c = some o := fun c o ec n => sW c o ec fun z => by
          subst z
          rw [eW5] at ec
          cases ec
          exact n
        have nDW : D ≠ W := ne_of eD eW fun z => by cases z
        have tp := TP.of fun c o ec n _ => lt c o ec n
        refine kk .broken _ ((Pres.same s05).trans ⟨fun c o ec n => sW c o ec n.1, upd_fr⟩) ?_ (fun z => by cases z)
        obtain ⟨⟨dx', S', D', L', lv', br', on', bk', kvs', eW', hS', eD', nD', hL', ⟨fk, eF', nF', mF', vF'⟩, nDF', -⟩, -, -, -, -, -⟩ := hW.same s05
        refine ⟨⟨dx, S, D, L, .non, .ref Br, on, bk, kvs, upd_same, (hS.mono (same_tp s05)).mono tp, sW _ _ (s05 _ _ eD) nDW, nD, (hL.mono (same_tp s05)).mono tp, ⟨fk, sW _ _ eF' (ne_of eF' eW5 fun z => by cases z), nF', mF', fun k v hv => ?_⟩, nDF, rfl, Br, rl, rfl, ⟨zs, tp _ _ eBr, lvs_mono (lvs_mono p4 (same_tp s5)) tp⟩, rok⟩, sp, wf, ar, nl, con⟩
        obtain ⟨q, Bl, Ll, d, h1, h2, h3, h4⟩ := vF' k v hv
        exact ⟨q, Bl, Ll, d, h1, tp _ _ h2, lt _ _ h3 True.intro, h4⟩
end
end Ell
set_option maxHeartbeats 4000000
namespace Ell
open PySem PySem.Spec PyProof.Rows L2
/-! ### the two errors: class C(EllError), its __init__: super().__init__(a text), self.f = f -/
structure ExTxt (P : Program) (K : PySem.W.Frag) (mg : Str → Option Value) (st : Stmt) (x f qual : Str) (C fI : Addr) : Prop where
  gC : mg x = some (.ref C)
  cls : ∃ nm q N bs bm sn sub ab col dd k0 k1 k2 k3 k5, K.lookup C = some (excClassObj nm q C N bs bm true sn sub ab col dd k0 k1 k2 k3 k5 "ValueError.__new__") ∧ PySem.HandSPX.refsVE bm = true
  sa : PySem.W.findIn K (.ref C) "__setattr__" = some (some (.builtin "object.__setattr__"))
  ga : PySem.W.findIn K (.ref C) "__getattribute__" = some (some (.builtin "BaseException.__getattribute__"))
  gg : PySem.W.findIn K (.ref C) "__getattr__" = some none
  noN : PySem.W.findIn K (.ref C) f = some none
  iC : PySem.W.findIn K (.ref C) "__init__" = some (some (.ref fI))
  tC : PySem.W.typeIn K (.ref fI) = some (.type "function")
  kC : PySem.W.keepIn K (.ref C) = true
  exC : PySem.W.subIn K (.ref C) (.type "BaseException") = some true
  tyC : PySem.W.typeIn K (.ref C) = some (.type "type")
  hdC : PySem.W.hasDictIn K C = true
  op : PySem.W.nsIn K cStatics "thirdparty.any" = some none
  su : mg "super" = none
  si : PySem.W.ks_superIn K C C "__init__" = some (some (.builtin "ValueError.__init__"))
  sub : PySem.W.subIn K (.ref C) (.type "ValueError") = some true
  ms : PySem.W.mroIn K C (.ref C) = some true
  fn : ∃ (oc : Value) (od : Option Addr) (doc pm : Value) (an : Option Addr) (cda : Addr) (ct : Value) (osl : Array (Option Value)) (cc : Addr),
    K.lookup fI = some ⟨oc, od, .func (PySem.W.ksFn "__init__" qual (defArgs st) (defBody st) (defScope st) .none .none doc pm an (.ref cda) ct cc), osl⟩ ∧ PySem.W.codeIn K (.ref cda) qual = true ∧
    (∃ (ccl : Value) (cdd : Option Addr) (vs : Array Value) (ccs : Array (Option Value)) (file : Str) (tf : Tok), K.lookup cda = some ⟨ccl, cdd, .fields vs, ccs⟩ ∧ vs[2]? = some (.str file tf) ∧ ((P.main.file : Str) == file) = true) ∧
    ∃ (cl : Value) (cld : Option Addr) (csl : Array (Option Value)), K.lookup cc = some ⟨cl, cld, .cell (some (.ref C)), csl⟩
  top : (P.main.scope.names.lookup ("super" : Str)).isSome = false
namespace Exw
open PySem.W PySem.Calls PyProof.Rows PySem.HandSPX
/-- what __init__ leaves of a fresh exception at x -/
structure InitEnd (h h' : Heap) (x C dx t1 : Addr) (f : Str) (v : Value) : Prop where
  keep : ∀ b o, b ≠ x → h.get? b = some o → h'.get? b = some o
  obj : h'.get? x = some { cls := .ref C, dict := some dx, data := .fields #[.ref t1, .none, .none, .none, .bool false, .none] }
  dbig : h.objs.size ≤ dx
  dne : dx ≠ x
  ns : h'.Ns1 dx (fun y => if y = f then some v else none)
structure OwnMade (h h' : Heap) (e C d : Addr) (f : Str) (v : Value) : Prop where
  keep : ∀ b o, h.get? b = some o → h'.get? b = some o
  new : h.objs.size ≤ e
  obj : ∃ oe vs, h'.get? e = some oe ∧ oe.cls = .ref C ∧ oe.dict = some d ∧ oe.data = .fields vs ∧ vs[1]? = some .none ∧ vs[2]? = some .none
  dbig : h.objs.size ≤ d
  dne : d ≠ e
  ns : h'.Ns1 d (fun y => if y = f then some v else none)
section
variable {prog : Program} {w : World} {A : Around} {E : Value → Shared → Prop} {R : Result → Shared → Prop} {s : Shared} {K : Frag} {mg mb : Str → Option Value} {x0 f : Str} {C fI : Addr}
theorem kept_but {h h' : Heap} {x : Addr} (X : K.In h) (hx : K.lookup x = none) (k : ∀ b o, b ≠ x → h.get? b = some o → h'.get? b = some o) : K.In h' := fun a o e =>
  k a o (fun z => by rw [z, hx] at e; cases e) (X a o e)
theorem ev_args {M : Model} {fv : Value} {args : List (Bool × Sem Value)} {Q : Args → Shared → Prop} (hpl : args.any (·.1) = false) (h : wpAny M A (spliced args) (fun vs s' => Q ⟨vs, []⟩ s') E s) (hne : args ≠ []) : wpAny M A (evalArgs fv true args []) Q E s := by
  cases args with
  | cons a rest =>
    obtain ⟨b, x⟩ := a
    cases b with
    | true => exact absurd (show true = false from hpl) (by decide)
    | false => exact Calls.evalArgs_plain h
  | nil => exact absurd rfl hne
theorem ex_init_Clash (T : ExTxt prog K mg s_Clash_init x0 "ring" "Clash.__init__" C fI) {x t0 : Addr} {v : Value} (X : K.In s.heap) (G : s.heap.Ns mainGlobals mg) (B : s.heap.Ns builtinsNs mb) (hmb : mb "super" = bootBuiltins "super") (hlim : s.heap.NoLimit) (hx : s.heap.get? x = some (excO C t0)) (hnx : K.lookup x = none) (hroom : A.depth < recursionLimit)
    (hq : ∀ h' tk dx t1, InitEnd s.heap h' x C dx t1 "ring" v → R (.ok (.ret .none)) { s with heap := h', toks := tk }) :
    codeAny (model prog w) A (.call (.ref fI) ⟨[.ref x, v], []⟩) R s := by
  obtain ⟨oc, od, doc, pm, an, cda, ct, osl, cc, ho, hcd, ⟨ccl, cdd, vs, ccs, file, tf, hcode, hvs, hfile⟩, cl, cld, csl, hcell⟩ := T.fn
  obtain ⟨nm, q, N, bs, bm, sn, sub, ab, col, dd, k0, k1, k2, k3, k5, hC, hbm⟩ := T.cls
  have hcl : clsIn K C = some { name := nm, bases := bs, mro := .ref C :: bm, ns := N, qualname := q, hasDict := true, slotNames := sn, subclasses := sub, abstract := ab, collection := col, hasDel := false } := by unfold clsIn; rw [hC] <;> rfl
  refine ks_codeAny_call_defAt (binds := [("self", .ref x), ("ring", v)]) hroom (X _ _ ho) rfl hlim (codeRec_of X hcd) rfl (BindsTo.of_eq rfl) (show ∀ z ∈ (defScope s_Clash_init).names, z.2 ≠ .cell by decide) ?_ (fun h₁ hns k => ?_)
  · intro z hz
    rcases List.mem_cons.mp hz with rfl | hz
    · rfl
    · cases List.mem_singleton.mp hz
      rfl
  have hxL : s.heap.objs.size ≠ x := Nat.ne_of_gt (Heap.lt_size hx)
  have X₁ : K.In h₁ := X.keeps k
  have hx₁ := k _ _ hx
  -- super().__init__(msg)
  refine ks_wpAt_execs_cons (ks_wpAt_Expr_any (ks_wpAt_MethodCall ?_))
  refine ks_wpAt_super_base rfl rfl (by decide) rfl (X₁ _ _ ho) rfl rfl rfl (X₁ _ _ hcode) rfl hvs hfile T.top ?_
  refine ks_loadName_global rfl rfl (loadGlobal_builtin (G.keeps k) T.su (B.keeps k) (hmb.trans (show bootBuiltins "super" = some (.type "super") by first | boot_by_name | rfl | kernel_rfl)) ⟨rfl, ?_⟩)
  refine wpAny_loadName_free rfl rfl rfl ⟨_, X₁ _ _ hcell, rfl⟩ ?_
  refine wpAny_loadName_local rfl rfl hns (show _ = some (Value.ref x) from rfl) ?_
  refine ks_wpAny_isType_cls (X₁ _ _ hC) rfl ⟨rfl, ?_⟩
  refine ks_wpAny_call_super (X₁ _ _ hC) rfl hx₁ rfl (fun c e => by cases e) (looks_mroIn X₁ T.ms) (fun h₂ e₂ k₂ => ?_)
  have X₂ : K.In h₂ := X₁.keeps k₂
  have hx₂ := k₂ _ _ hx₁
  have I₂ : InstAt h₂ x (excO C t0) C none := ⟨hx₂, rfl, rfl, trivial⟩
  have hm : alongIn K "__init__" (((Value.ref C :: bm).dropWhile (· != .ref C)).drop 1) = some (some (.builtin "ValueError.__init__")) := by
    have z := T.si
    unfold ks_superIn at z
    rw [hcl] at z
    exact z
  have hne : x ≠ C := by
    rintro rfl
    have z := X₂ _ _ hC
    rw [hx₂] at z
    cases z
  have hI : Looks (model prog w) h₂ (isInstance (.ref x) (.type "ValueError")) true := I₂.type.andThen (looks_subIn X₂ T.sub)
  refine kxs_getMethod kxs_ValueError e₂ (looks_opaque X₂ T.op) (l₀ := .ref C :: bm) (fun A Q E s k q => wpAny_bind ((looks_clsIn X₂ hcl) A _ E s k (wpAny_pure q))) rfl X₂ hm hI hne (by decide) ?_
  have hu : (h₂.push (kxs_mw "ValueError.__init__" x)).get? h₂.objs.size = some (kxs_mw "ValueError.__init__" x) := Heap.get?_push_size _ rfl
  have k₃ : ∀ b o, h₂.get? b = some o → (h₂.push (kxs_mw "ValueError.__init__" x)).get? b = some o := fun b o e => Heap.get?_push_of_some _ e
  refine kxs_callWith (i := "ValueError.__init__") (x := x) rfl (ev_args rfl (spliced_more (Constant_str (spliced_none ⟨hu, ?_⟩))) (by intro z; cases z))
  have hx₃ := k₃ _ _ hx₂
  refine wpAny_call (codeAny_of_tree ?_)
  show wpAny _ _ (callAny (.ref h₂.objs.size) ⟨[.str _ _], []⟩) _ _ _
  simp only [callAny]
  refine wpAny_bind (wpAny_load hu ?_)
  simp only [kxs_mw, show (Value.type "method-wrapper" == Value.type "method" || Value.type "method-wrapper" == Value.type "builtin_function_or_method" || Value.type "method-wrapper" == Value.type "method-wrapper") = true by decide, if_true]
  refine KFB.if_so (by decide) ?_
  refine wpAny_bind (check_bound_init F.excBase_ValueError.toExcCallFacts (k₃ _ _ (X₂ _ _ hC)) hx₃ rfl ?_)
  refine wpAny_bind (wpAny_pure (wpAny_pure ?_))
  refine ⟨plainId_quiet F.excBase_ValueError.init.plain _, codeAny_builtin F.excBase_ValueError.initEntry ?_⟩
  refine exc_init_tree (cls := .ref C) (t0 := t0) (dv := none) (c2 := .none) (c3 := .none) (b4 := .bool false) hx₃ (show 1 ≤ sizeLine by decide) (fun h₄ k₄ hx₄ _ => ?_)
  -- self.f = f
  have k04 : ∀ b o, b ≠ x → s.heap.get? b = some o → h₄.get? b = some o := fun b o hb e => k₄ b o hb (k₃ _ _ (k₂ _ _ (k _ _ e)))
  have X₄ : K.In h₄ := kept_but X hnx k04
  obtain ⟨oL, es, ep, hL, hns'⟩ := hns
  have hns₄ : h₄.Ns s.heap.objs.size (fun y => ([("self", Value.ref x), ("ring", v)] : List (Str × Value)).reverse.lookup y) := ⟨oL, es, ep, k₄ _ _ hxL (k₃ _ _ (k₂ _ _ hL)), hns'⟩
  refine wpAt_of_wpAny ?_
  refine wpAny_execs_cons (plainObj_wpAny_Assign_Attribute ?_)
  refine wpAny_Name (wpAny_loadName_local rfl rfl hns₄ (show _ = some v from rfl) ?_) (by decide)
  refine wpAny_Name (wpAny_loadName_local rfl rfl hns₄ (show _ = some (Value.ref x) from rfl) ?_) (by decide)
  refine set_plain X₄ (ox := excO C (h₂.push (kxs_mw "ValueError.__init__" x)).objs.size) (od := none) ⟨hx₄, rfl, rfl, trivial⟩ T.sa ?_
  refine exc_osa X₄ hx₄ hcl (show refsVE (.ref C :: bm) = true from hbm) rfl T.noN (fun h₅ tk₅ dx k₅ dn dne hx₅ hn₅ => ?_)
  have z : s.heap.objs.size < h₄.objs.size := Heap.lt_size (k₄ _ _ hxL (k₃ _ _ (k₂ _ _ hL)))
  exact wpAny_execs_nil (hq h₅ tk₅ dx _ ⟨fun b o hb e => k₅ b o hb (k04 b o hb e), hx₅, Nat.le_of_lt (Nat.lt_of_lt_of_le z dn), dne, hn₅⟩)
theorem ex_init_NoSpot (T : ExTxt prog K mg s_NoSpot_init x0 "spot" "NoSpot.__init__" C fI) {x t0 : Addr} {v : Value} (X : K.In s.heap) (G : s.heap.Ns mainGlobals mg) (B : s.heap.Ns builtinsNs mb) (hmb : mb "super" = bootBuiltins "super") (hlim : s.heap.NoLimit) (hx : s.heap.get? x = some (excO C t0)) (hnx : K.lookup x = none) (hroom : A.depth < recursionLimit)
    (hq : ∀ h' tk dx t1, InitEnd s.heap h' x C dx t1 "spot" v → R (.ok (.ret .none)) { s with heap := h', toks := tk }) :
    codeAny (model prog w) A (.call (.ref fI) ⟨[.ref x, v], []⟩) R s := by
  obtain ⟨oc, od, doc, pm, an, cda, ct, osl, cc, ho, hcd, ⟨ccl, cdd, vs, ccs, file, tf, hcode, hvs, hfile⟩, cl, cld, csl, hcell⟩ := T.fn
  obtain ⟨nm, q, N, bs, bm, sn, sub, ab, col, dd, k0, k1, k2, k3, k5, hC, hbm⟩ := T.cls
  have hcl : clsIn K C = some { name := nm, bases := bs, mro := .ref C :: bm, ns := N, qualname := q, hasDict := true, slotNames := sn, subclasses := sub, abstract := ab, collection := col, hasDel := false } := by unfold clsIn; rw [hC] <;> rfl
  refine ks_codeAny_call_defAt (binds := [("self", .ref x), ("spot", v)]) hroom (X _ _ ho) rfl hlim (codeRec_of X hcd) rfl (BindsTo.of_eq rfl) (show ∀ z ∈ (defScope s_NoSpot_init).names, z.2 ≠ .cell by decide) ?_ (fun h₁ hns k => ?_)
  · intro z hz
    rcases List.mem_cons.mp hz with rfl | hz
    · rfl
    · cases List.mem_singleton.mp hz
      rfl
  have hxL : s.heap.objs.size ≠ x := Nat.ne_of_gt (Heap.lt_size hx)
  have X₁ : K.In h₁ := X.keeps k
  have hx₁ := k _ _ hx
  -- super().__init__(msg)
  refine ks_wpAt_execs_cons (ks_wpAt_Expr_any (ks_wpAt_MethodCall ?_))
  refine ks_wpAt_super_base rfl rfl (by decide) rfl (X₁ _ _ ho) rfl rfl rfl (X₁ _ _ hcode) rfl hvs hfile T.top ?_
  refine ks_loadName_global rfl rfl (loadGlobal_builtin (G.keeps k) T.su (B.keeps k) (hmb.trans (show bootBuiltins "super" = some (.type "super") by first | boot_by_name | rfl | kernel_rfl)) ⟨rfl, ?_⟩)
  refine wpAny_loadName_free rfl rfl rfl ⟨_, X₁ _ _ hcell, rfl⟩ ?_
  refine wpAny_loadName_local rfl rfl hns (show _ = some (Value.ref x) from rfl) ?_
  refine ks_wpAny_isType_cls (X₁ _ _ hC) rfl ⟨rfl, ?_⟩
  refine ks_wpAny_call_super (X₁ _ _ hC) rfl hx₁ rfl (fun c e => by cases e) (looks_mroIn X₁ T.ms) (fun h₂ e₂ k₂ => ?_)
  have X₂ : K.In h₂ := X₁.keeps k₂
  have hx₂ := k₂ _ _ hx₁
  have I₂ : InstAt h₂ x (excO C t0) C none := ⟨hx₂, rfl, rfl, trivial⟩
  have hm : alongIn K "__init__" (((Value.ref C :: bm).dropWhile (· != .ref C)).drop 1) = some (some (.builtin "ValueError.__init__")) := by
    have z := T.si
    unfold ks_superIn at z
    rw [hcl] at z
    exact z
  have hne : x ≠ C := by
    rintro rfl
    have z := X₂ _ _ hC
    rw [hx₂] at z
    cases z
  have hI : Looks (model prog w) h₂ (isInstance (.ref x) (.type "ValueError")) true := I₂.type.andThen (looks_subIn X₂ T.sub)
  refine kxs_getMethod kxs_ValueError e₂ (looks_opaque X₂ T.op) (l₀ := .ref C :: bm) (fun A Q E s k q => wpAny_bind ((looks_clsIn X₂ hcl) A _ E s k (wpAny_pure q))) rfl X₂ hm hI hne (by decide) ?_
  have hu : (h₂.push (kxs_mw "ValueError.__init__" x)).get? h₂.objs.size = some (kxs_mw "ValueError.__init__" x) := Heap.get?_push_size _ rfl
  have k₃ : ∀ b o, h₂.get? b = some o → (h₂.push (kxs_mw "ValueError.__init__" x)).get? b = some o := fun b o e => Heap.get?_push_of_some _ e
  refine kxs_callWith (i := "ValueError.__init__") (x := x) rfl (ev_args rfl (spliced_more (Constant_str (spliced_none ⟨hu, ?_⟩))) (by intro z; cases z))
  have hx₃ := k₃ _ _ hx₂
  refine wpAny_call (codeAny_of_tree ?_)
  show wpAny _ _ (callAny (.ref h₂.objs.size) ⟨[.str _ _], []⟩) _ _ _
  simp only [callAny]
  refine wpAny_bind (wpAny_load hu ?_)
  simp only [kxs_mw, show (Value.type "method-wrapper" == Value.type "method" || Value.type "method-wrapper" == Value.type "builtin_function_or_method" || Value.type "method-wrapper" == Value.type "method-wrapper") = true by decide, if_true]
  refine KFB.if_so (by decide) ?_
  refine wpAny_bind (check_bound_init F.excBase_ValueError.toExcCallFacts (k₃ _ _ (X₂ _ _ hC)) hx₃ rfl ?_)
  refine wpAny_bind (wpAny_pure (wpAny_pure ?_))
  refine ⟨plainId_quiet F.excBase_ValueError.init.plain _, codeAny_builtin F.excBase_ValueError.initEntry ?_⟩
  refine exc_init_tree (cls := .ref C) (t0 := t0) (dv := none) (c2 := .none) (c3 := .none) (b4 := .bool false) hx₃ (show 1 ≤ sizeLine by decide) (fun h₄ k₄ hx₄ _ => ?_)
  -- self.f = f
  have k04 : ∀ b o, b ≠ x → s.heap.get? b = some o → h₄.get? b = some o := fun b o hb e => k₄ b o hb (k₃ _ _ (k₂ _ _ (k _ _ e)))
  have X₄ : K.In h₄ := kept_but X hnx k04
  obtain ⟨oL, es, ep, hL, hns'⟩ := hns
  have hns₄ : h₄.Ns s.heap.objs.size (fun y => ([("self", Value.ref x), ("spot", v)] : List (Str × Value)).reverse.lookup y) := ⟨oL, es, ep, k₄ _ _ hxL (k₃ _ _ (k₂ _ _ hL)), hns'⟩
  refine wpAt_of_wpAny ?_
  refine wpAny_execs_cons (plainObj_wpAny_Assign_Attribute ?_)
  refine wpAny_Name (wpAny_loadName_local rfl rfl hns₄ (show _ = some v from rfl) ?_) (by decide)
  refine wpAny_Name (wpAny_loadName_local rfl rfl hns₄ (show _ = some (Value.ref x) from rfl) ?_) (by decide)
  refine set_plain X₄ (ox := excO C (h₂.push (kxs_mw "ValueError.__init__" x)).objs.size) (od := none) ⟨hx₄, rfl, rfl, trivial⟩ T.sa ?_
  refine exc_osa X₄ hx₄ hcl (show refsVE (.ref C :: bm) = true from hbm) rfl T.noN (fun h₅ tk₅ dx k₅ dn dne hx₅ hn₅ => ?_)
  have z : s.heap.objs.size < h₄.objs.size := Heap.lt_size (k₄ _ _ hxL (k₃ _ _ (k₂ _ _ hL)))
  exact wpAny_execs_nil (hq h₅ tk₅ dx _ ⟨fun b o hb e => k₅ b o hb (k04 b o hb e), hx₅, Nat.le_of_lt (Nat.lt_of_lt_of_le z dn), dne, hn₅⟩)
theorem ex_made_Clash (T : ExTxt prog K mg s_Clash_init x0 "ring" "Clash.__init__" C fI) {v : Value} (X : K.In s.heap) (G : s.heap.Ns mainGlobals mg) (B : s.heap.Ns builtinsNs mb) (hmb : mb "super" = bootBuiltins "super") (hlim : s.heap.NoLimit) (hroom : A.depth + 1 < recursionLimit)
    (hq : ∀ h' tk e d, OwnMade s.heap h' e C d "ring" v → R (.ok (.ret (.ref e))) { s with heap := h', toks := tk }) :
    codeAny (model prog w) A (.call (.ref C) ⟨[v], []⟩) R s := by
  obtain ⟨nm, q, N, bs, bm, sn, sub, ab, col, dd, k0, k1, k2, k3, k5, hC, hbm⟩ := T.cls
  obtain ⟨hp, g, dr, tk, os⟩ := s
  have k : ∀ b o, hp.get? b = some o → ((hp.push (kdv_tup [v])).push (excO C hp.objs.size)).get? b = some o := fun b o e => Heap.get?_push_of_some _ (Heap.get?_push_of_some _ e)
  have hget : ((hp.push (kdv_tup [v])).push (excO C hp.objs.size)).get? (hp.objs.size + 1) = some (excO C hp.objs.size) := by heap_get
  have hnx : K.lookup (hp.objs.size + 1) = none := by
    cases e : K.lookup (hp.objs.size + 1) with
    | none => rfl
    | some o =>
      have z : hp.get? (hp.objs.size + 1) = some o := X _ _ e
      exact absurd (Nat.lt_of_succ_lt (Heap.lt_size z)) (Nat.lt_irrefl _)
  refine call_own F.excBase_ValueError (fun X => refsVE_contains X bm hbm) (X _ _ hC) (looks_findIn X T.iC) (fun self => bind_fn X self T.tC) (show 1 ≤ sizeLine by decide) ?_
  refine ex_init_Clash (s := ⟨(hp.push (kdv_tup [v])).push (excO C hp.objs.size), g, dr, tk, os⟩) T (X.keeps k) (G.keeps k) (B.keeps k) hmb (hlim.keeps k) hget hnx ?_ fun h' tk' dx t1 ⟨k', hx, dn, dne, hns⟩ => ?_
  · show A.depth + 1 < recursionLimit
    exact hroom
  · have old : ∀ b o, hp.get? b = some o → h'.get? b = some o := fun b o e => k' b o (Nat.ne_of_lt (Nat.lt_succ_of_lt (Heap.lt_size e))) (k b o e)
    have z : hp.objs.size + 1 + 1 ≤ dx := by
      first
        | (simpa only [Heap.size_push] using dn)
        | exact dn
        | (have q := dn; rw [Heap.size_push, Heap.size_push] at q; exact q)
    exact ⟨rfl, hq h' tk' (hp.objs.size + 1) dx ⟨old, Nat.le_succ _, ⟨_, _, hx, rfl, rfl, rfl, rfl, rfl⟩, Nat.le_trans (Nat.le_trans (Nat.le_succ _) (Nat.le_succ _)) z, dne, hns⟩⟩
theorem ex_made_NoSpot (T : ExTxt prog K mg s_NoSpot_init x0 "spot" "NoSpot.__init__" C fI) {v : Value} (X : K.In s.heap) (G : s.heap.Ns mainGlobals mg) (B : s.heap.Ns builtinsNs mb) (hmb : mb "super" = bootBuiltins "super") (hlim : s.heap.NoLimit) (hroom : A.depth + 1 < recursionLimit)
    (hq : ∀ h' tk e d, OwnMade s.heap h' e C d "spot" v → R (.ok (.ret (.ref e))) { s with heap := h', toks := tk }) :
    codeAny (model prog w) A (.call (.ref C) ⟨[v], []⟩) R s := by
  obtain ⟨nm, q, N, bs, bm, sn, sub, ab, col, dd, k0, k1, k2, k3, k5, hC, hbm⟩ := T.cls
  obtain ⟨hp, g, dr, tk, os⟩ := s
  have k : ∀ b o, hp.get? b = some o → ((hp.push (kdv_tup [v])).push (excO C hp.objs.size)).get? b = some o := fun b o e => Heap.get?_push_of_some _ (Heap.get?_push_of_some _ e)
  have hget : ((hp.push (kdv_tup [v])).push (excO C hp.objs.size)).get? (hp.objs.size + 1) = some (excO C hp.objs.size) := by heap_get
  have hnx : K.lookup (hp.objs.size + 1) = none := by
    cases e : K.lookup (hp.objs.size + 1) with
    | none => rfl
    | some o =>
      have z : hp.get? (hp.objs.size + 1) = some o := X _ _ e
      exact absurd (Nat.lt_of_succ_lt (Heap.lt_size z)) (Nat.lt_irrefl _)
  refine call_own F.excBase_ValueError (fun X => refsVE_contains X bm hbm) (X _ _ hC) (looks_findIn X T.iC) (fun self => bind_fn X self T.tC) (show 1 ≤ sizeLine by decide) ?_
  refine ex_init_NoSpot (s := ⟨(hp.push (kdv_tup [v])).push (excO C hp.objs.size), g, dr, tk, os⟩) T (X.keeps k) (G.keeps k) (B.keeps k) hmb (hlim.keeps k) hget hnx ?_ fun h' tk' dx t1 ⟨k', hx, dn, dne, hns⟩ => ?_
  · show A.depth + 1 < recursionLimit
    exact hroom
  · have old : ∀ b o, hp.get? b = some o → h'.get? b = some o := fun b o e => k' b o (Nat.ne_of_lt (Nat.lt_succ_of_lt (Heap.lt_size e))) (k b o e)
    have z : hp.objs.size + 1 + 1 ≤ dx := by
      first
        | (simpa only [Heap.size_push] using dn)
        | exact dn
        | (have q := dn; rw [Heap.size_push, Heap.size_push] at q; exact q)
    exact ⟨rfl, hq h' tk' (hp.objs.size + 1) dx ⟨old, Nat.le_succ _, ⟨_, _, hx, rfl, rfl, rfl, rfl, rfl⟩, Nat.le_trans (Nat.le_trans (Nat.le_succ _) (Nat.le_succ _)) z, dne, hns⟩⟩
end
end Exw
theorem relO_one {f0 : Str} {v : V} {v' : Value} (r : RelV v v') (f : Str) : RelO (List.lookup f [(f0, v)]) (if f = f0 then some v' else none) := by
  by_cases hw : f = f0
  · subst hw
    rw [if_pos rfl]
    have q : List.lookup f [(f, v)] = some v := by simp [List.lookup]
    rw [q]
    exact r
  · rw [if_neg hw]
    have qw : (f == f0) = false := by simpa using hw
    have q2 : List.lookup f [(f0, v)] = none := by simp [List.lookup, qw]
    rw [q2]
    trivial
/-- C(e) -/
def tMkEx (C : Addr) (f : Str) (ta : TA) : L2.St → Hp → XK → Prop := fun σ H Q => ta σ H fun vs H1 => ∃ v, vs = [v] ∧ ∀ d, H1 d = none → Q (.ref C) (some d) (upd H1 d (.xd [(f, v)]))
/-- raise C(e) -/
def tRaiseEx (C : Addr) (f : Str) (W : WX) (ta : TA) : TS := fun _ σ H => tMkEx C f ta σ H fun cls d H' => W cls d σ H'
section
variable {X : Cx}
theorem pmk_Clash {a : Expr} {ta : TA} {p pos : Pos} {k : Nat} {C fI : Addr} (T : ExTxt X.prog X.K X.mg s_Clash_init "Clash" "ring" "Clash.__init__" C fI) (hr : Room k X.A) (ha : PA X [a] ta) (hg : Gl X "Clash" := by rfl)
    (he : starEach (a :: []) X.env = (false, eval a X.env) :: starEach [] X.env := by rfl) (hpl : (backTo pos (starEach [] X.env)).any (·.1) = false := by rfl) :
    L2N.PMk X (.Call (.Name "Clash" p) [a] [] pos) (tMkEx C "ring" ta) := by
  intro pins s σ H Q I h
  refine wpAny_Call_Name_kw (ld_glob I hg T.gC ?_)
  refine PySem.W.callWith_K (h₀ := X.base) I.ok.mod.kin T.kC (thn (ha.run pos pins s σ H _ I h) fun us s1 hh => ?_) he hpl
  obtain ⟨vs, H1, I1, r1, v, ev, q1⟩ := hh
  subst ev
  refine ⟨I1.kIn, ?_⟩
  cases r1 with
  | cons rv rn =>
    rename_i v' us'
    cases rn
    show wpAny _ _ (call (.ref C) [v']) _ _ _
    have hlim := I1.nolimit
    have hgl := I1.mod.glob.keeps I1.bk
    obtain ⟨mb, hb1, hb2⟩ := I1.mod.blt
    have hbl := hb1.keeps I1.bk
    obtain ⟨hp, g, dr, tk, os⟩ := s1
    refine wpAny_call (Exw.ex_made_Clash T I1.kIn hgl hbl (hb2 "super" (by decide)) hlim (by have := hr.dp; omega) fun h' tk' e d M => ?_)
    show L2N.MkP X pins σ Q (.ref e) ⟨h', g, dr, tk', os⟩
    obtain ⟨oe, fv, hoe, hc, hd, hdat, h1, h2⟩ := M.obj
    have hns := M.ns
    obtain ⟨G', g1, g2⟩ := restrict h' fun b => decide (b ≠ e)
    have gk : ∀ b, b ≠ e → G'.get? b = h'.get? b := fun b hb => g1 b (decide_eq_true hb)
    have ge : G'.get? e = none := g2 e (by simp)
    have old : ∀ b o, hp.get? b = some o → G'.get? b = some o := fun b o q => (gk b (Nat.ne_of_lt (Nat.lt_of_lt_of_le (Heap.lt_size q) M.new))).trans (M.keep b o q)
    have ob : ObjOk X.prog X.w (upd H1 d (.xd [(("ring" : Str), v)])) G' d (.xd [(("ring" : Str), v)]) :=
      ⟨_, hns.at (fun o q => (gk d M.dne).trans q), fun f => relO_one rv f⟩
    have J : Inv X pins σ (upd H1 d (.xd [(("ring" : Str), v)])) ⟨G', g, dr, tk', os⟩ := I1.laid (t' := tk') old M.dbig ob
    refine ⟨e, oe, fv, ⟨G', g, dr, tk', os⟩, _, .ref C, some d, rfl, J, fun b o q => ?_, ge, hoe, ⟨hc, hd, fun vs' e' => (by rw [hdat] at e'; cases e'; exact h2)⟩, hdat, h1, ?_, rfl, I1.bare, raises_own T.exC T.tyC, q1 d (I1.hok.fresh M.dbig)⟩
    · by_cases hb : b = e
      · have q' : G'.get? b = some o := q
        rw [hb, ge] at q'; cases q'
      · exact (gk b hb).symm.trans q
    · rw [upd_ne (Ne.symm M.dne)]
      exact I1.hok.fresh M.new
theorem ps_raise_Clash {a : Expr} {ta : TA} {W : WX} {p pos pos2 : Pos} {k : Nat} {C fI : Addr} (hc : X.calm = true) (T : ExTxt X.prog X.K X.mg s_Clash_init "Clash" "ring" "Clash.__init__" C fI) (hr : Room k X.A) (tk : L2N.Takes X W) (ha : PA X [a] ta) (hg : Gl X "Clash" := by rfl)
    (he : starEach (a :: []) X.env = (false, eval a X.env) :: starEach [] X.env := by rfl) (hpl : (backTo pos (starEach [] X.env)).any (·.1) = false := by rfl) :
    PS X (.Raise (some (.Call (.Name "Clash" p) [a] [] pos)) none pos2) (tRaiseEx C "ring" W ta) := L2N.ps_raise hc tk (pmk_Clash T hr ha hg he hpl)
theorem pmk_NoSpot {a : Expr} {ta : TA} {p pos : Pos} {k : Nat} {C fI : Addr} (T : ExTxt X.prog X.K X.mg s_NoSpot_init "NoSpot" "spot" "NoSpot.__init__" C fI) (hr : Room k X.A) (ha : PA X [a] ta) (hg : Gl X "NoSpot" := by rfl)
    (he : starEach (a :: []) X.env = (false, eval a X.env) :: starEach [] X.env := by rfl) (hpl : (backTo pos (starEach [] X.env)).any (·.1) = false := by rfl) :
    L2N.PMk X (.Call (.Name "NoSpot" p) [a] [] pos) (tMkEx C "spot" ta) := by
  intro pins s σ H Q I h
  refine wpAny_Call_Name_kw (ld_glob I hg T.gC ?_)
  refine PySem.W.callWith_K (h₀ := X.base) I.ok.mod.kin T.kC (thn (ha.run pos pins s σ H _ I h) fun us s1 hh => ?_) he hpl
  obtain ⟨vs, H1, I1, r1, v, ev, q1⟩ := hh
  subst ev
  refine ⟨I1.kIn, ?_⟩
  cases r1 with
  | cons rv rn =>
    rename_i v' us'
    cases rn
    show wpAny _ _ (call (.ref C) [v']) _ _ _
    have hlim := I1.nolimit
    have hgl := I1.mod.glob.keeps I1.bk
    obtain ⟨mb, hb1, hb2⟩ := I1.mod.blt
    have hbl := hb1.keeps I1.bk
    obtain ⟨hp, g, dr, tk, os⟩ := s1
    refine wpAny_call (Exw.ex_made_NoSpot T I1.kIn hgl hbl (hb2 "super" (by decide)) hlim (by have := hr.dp; omega) fun h' tk' e d M => ?_)
    show L2N.MkP X pins σ Q (.ref e) ⟨h', g, dr, tk', os⟩
    obtain ⟨oe, fv, hoe, hc, hd, hdat, h1, h2⟩ := M.obj
    have hns := M.ns
    obtain ⟨G', g1, g2⟩ := restrict h' fun b => decide (b ≠ e)
    have gk : ∀ b, b ≠ e → G'.get? b = h'.get? b := fun b hb => g1 b (decide_eq_true hb)
    have ge : G'.get? e = none := g2 e (by simp)
    have old : ∀ b o, hp.get? b = some o → G'.get? b = some o := fun b o q => (gk b (Nat.ne_of_lt (Nat.lt_of_lt_of_le (Heap.lt_size q) M.new))).trans (M.keep b o q)
    have ob : ObjOk X.prog X.w (upd H1 d (.xd [(("spot" : Str), v)])) G' d (.xd [(("spot" : Str), v)]) :=
      ⟨_, hns.at (fun o q => (gk d M.dne).trans q), fun f => relO_one rv f⟩
    have J : Inv X pins σ (upd H1 d (.xd [(("spot" : Str), v)])) ⟨G', g, dr, tk', os⟩ := I1.laid (t' := tk') old M.dbig ob
    refine ⟨e, oe, fv, ⟨G', g, dr, tk', os⟩, _, .ref C, some d, rfl, J, fun b o q => ?_, ge, hoe, ⟨hc, hd, fun vs' e' => (by rw [hdat] at e'; cases e'; exact h2)⟩, hdat, h1, ?_, rfl, I1.bare, raises_own T.exC T.tyC, q1 d (I1.hok.fresh M.dbig)⟩
    · by_cases hb : b = e
      · have q' : G'.get? b = some o := q
        rw [hb, ge] at q'; cases q'
      · exact (gk b hb).symm.trans q
    · rw [upd_ne (Ne.symm M.dne)]
      exact I1.hok.fresh M.new
theorem ps_raise_NoSpot {a : Expr} {ta : TA} {W : WX} {p pos pos2 : Pos} {k : Nat} {C fI : Addr} (hc : X.calm = true) (T : ExTxt X.prog X.K X.mg s_NoSpot_init "NoSpot" "spot" "NoSpot.__init__" C fI) (hr : Room k X.A) (tk : L2N.Takes X W) (ha : PA X [a] ta) (hg : Gl X "NoSpot" := by rfl)
    (he : starEach (a :: []) X.env = (false, eval a X.env) :: starEach [] X.env := by rfl) (hpl : (backTo pos (starEach [] X.env)).any (·.1) = false := by rfl) :
    PS X (.Raise (some (.Call (.Name "NoSpot" p) [a] [] pos)) none pos2) (tRaiseEx C "spot" W ta) := L2N.ps_raise hc tk (pmk_NoSpot T hr ha hg he hpl)
end
end Ell
set_option maxHeartbeats 4000000
namespace Ell
open PySem PySem.Spec PyProof.Rows L2
/-! ### heappush, heappop -/
namespace Hq
theorem entry_push : entryFor table "_heapq.heappush" = some Builtin.«_heapq.heappush» := entryFor_of_tree (by kernel_rfl)
theorem kind_push : builtinKind "_heapq.heappush" = none := by kernel_rfl
theorem plain_push : plainId "_heapq.heappush" = true := by decide +kernel
theorem args_push (a b : Value) : argsOk "_heapq.heappush" ⟨[a, b], []⟩ := by unfold argsOk; kernel_rfl
theorem entry_pop : entryFor table "_heapq.heappop" = some Builtin.«_heapq.heappop» := entryFor_of_tree (by kernel_rfl)
theorem kind_pop : builtinKind "_heapq.heappop" = none := by kernel_rfl
theorem plain_pop : plainId "_heapq.heappop" = true := by decide +kernel
theorem args_pop (a : Value) : argsOk "_heapq.heappop" ⟨[a], []⟩ := by unfold argsOk; kernel_rfl
theorem entry_sift : entryFor table "_heapq.heapify.sift" = some Builtin.«_heapq.heapify.sift» := entryFor_of_tree (by kernel_rfl)
theorem plain_sift : plainId "_heapq.heapify.sift" = true := by decide +kernel
abbrev lo (l : List Value) (n : Nat) : Obj := { cls := .type "list", data := .seq l.toArray n }
theorem sub_list : isSubtype (.type "list") (.type "list") = pure true := by rw [isSubtype_type]; kernel_rfl
/-- the call that goes on: up from pos -/
abbrev upC (a : Addr) (pos : Nat) (res : Value) : Code := .builtin "_heapq.heapify.sift" ⟨[.ref a, .bool false, .bool false, rawInt pos, rawInt (0 : Nat), res, rawInt (-1)], []⟩
abbrev dnC (a : Addr) (pos : Nat) (res : Value) : Code := .builtin "_heapq.heapify.sift" ⟨[.ref a, .bool false, .bool true, rawInt pos, rawInt (0 : Nat), res, rawInt (-1)], []⟩
section
variable {M : Model} {A : Around} {hp : Heap} {g : Array GenState} {d : Drawn} {tk : Nat} {os : OsState} {a : Addr} {res : Value} {l : List Value} {n pos : Nat} {Q : Fin → Shared → Prop} {E : Value → Shared → Prop}
theorem got {h : Heap} {n : Nat} {l : List Value} {f : Array Value → Array Value} {l' : List Value} (e : h.get? a = some (lo l n)) (hf : f l.toArray = l'.toArray) : ∃ n', (h.update a (Obj.mapSeq f)).get? a = some (lo l' n') := by
  rw [Heap.get?_update_self _ e rfl]
  show ∃ n', some ({ cls := .type "list", data := .seq (f l.toArray) (if (f l.toArray).size == l.toArray.size then n else n + 1) } : Obj) = _
  rw [hf]
  exact ⟨_, rfl⟩
theorem tree_push {v : Value} (h : hp.get? a = some (lo l n)) (hz : l.length ≤ 1000) (q : ∀ h' n', h'.get? a = some (lo (l ++ [v]) n') → Heap.SameBut a hp h' → Q (.again (upC a l.length .none)) ⟨h', g, d, tk, os⟩) :
    wpAny M A (Builtin.«_heapq.heappush» ⟨[.ref a, v], []⟩) Q E ⟨hp, g, d, tk, os⟩ := by
  unfold Builtin.«_heapq.heappush»
  have h' : (⟨hp, g, d, tk, os⟩ : Shared).heap.get? a = some (lo l n) := h
  have hz1 : l.toArray.size ≤ sizeLine := by rw [sizeLine_eq]; simp; omega
  have hz2 : (l.toArray.push v).size ≤ sizeLine + 1 := by rw [sizeLine_eq, Array.size_push]; simp; omega
  wp_walk
  refine wpAny_of_eq (a := true) sub_list ?_
  wp_walk using wpAny_updateSeq (f := fun x => x.push v) h' rfl
  obtain ⟨n', e'⟩ := got (f := fun x => x.push v) (l' := l ++ [v]) h (by simp)
  have e := q _ n' e' (Heap.SameBut.update ..)
  have e2 : ((fun x : Array Value => x.push v) l.toArray).size - 1 = l.length := by simp
  rw [e2]
  exact e
theorem tree_up {x y : Value} (h : hp.get? a = some (lo l n)) (hz : l.length ≤ 1000) (h0 : 1 ≤ pos) (hx : l[pos]? = some x) (hy : l[(pos - 1) / 2]? = some y) (b : Bool) (hlt : ∀ Q' : Value → Shared → Prop, Q' (.bool b) ⟨hp, g, d, tk, os⟩ → wpAny M A (richCompare .Lt x y) Q' E ⟨hp, g, d, tk, os⟩)
    (q1 : b = true → ∀ h' n', h'.get? a = some (lo (swp l ((pos - 1) / 2) pos y x) n') → Heap.SameBut a hp h' → Q (.again (upC a ((pos - 1) / 2) res)) ⟨h', g, d, tk, os⟩) (q2 : b = false → Q (.done (.ret res)) ⟨hp, g, d, tk, os⟩) :
    wpAny M A (Builtin.«_heapq.heapify.sift» ⟨[.ref a, .bool false, .bool false, rawInt pos, rawInt (0 : Nat), res, rawInt (-1)], []⟩) Q E ⟨hp, g, d, tk, os⟩ := by
  unfold Builtin.«_heapq.heapify.sift»
  have h' : (⟨hp, g, d, tk, os⟩ : Shared).heap.get? a = some (lo l n) := h
  have hx' : l.toArray[pos]? = some x := by simpa using hx
  have hy' : l.toArray[(pos - 1) / 2]? = some y := by simpa using hy
  have hz1 : l.toArray.size ≤ sizeLine := by rw [sizeLine_eq]; simp; omega
  have hz2 : ((l.toArray.setIfInBounds ((pos - 1) / 2) x).setIfInBounds pos y).size ≤ sizeLine + 1 := by rw [sizeLine_eq]; simp; omega
  wp_walk
  simp only [Int.toNat_natCast]
  rw [if_pos (show pos > 0 from h0)]
  wp_walk
  rw [hx']
  wp_walk
  rw [hy']
  wp_walk using hlt _
  cases b with
  | true =>
    wp_walk
    rw [hy']
    wp_walk
    rw [hx']
    wp_walk using wpAny_updateSeq (f := fun xs => (xs.setIfInBounds ((pos - 1) / 2) x).setIfInBounds pos y) h' rfl
    obtain ⟨n', e'⟩ := got (f := fun xs => (xs.setIfInBounds ((pos - 1) / 2) x).setIfInBounds pos y) (l' := swp l ((pos - 1) / 2) pos y x) h (by simp [swp])
    exact q1 rfl _ n' e' (Heap.SameBut.update ..)
  | false =>
    wp_walk
    exact q2 rfl
theorem tree_up0 (h : hp.get? a = some (lo l n)) (q2 : Q (.done (.ret res)) ⟨hp, g, d, tk, os⟩) :
    wpAny M A (Builtin.«_heapq.heapify.sift» ⟨[.ref a, .bool false, .bool false, rawInt (0 : Nat), rawInt (0 : Nat), res, rawInt (-1)], []⟩) Q E ⟨hp, g, d, tk, os⟩ := by
  unfold Builtin.«_heapq.heapify.sift»
  have h' : (⟨hp, g, d, tk, os⟩ : Shared).heap.get? a = some (lo l n) := h
  wp_walk
  exact q2
theorem tree_leaf (h : hp.get? a = some (lo l n)) (hp' : l.length ≤ 2 * pos + 1) (q2 : Q (.again (upC a pos res)) ⟨hp, g, d, tk, os⟩) :
    wpAny M A (Builtin.«_heapq.heapify.sift» ⟨[.ref a, .bool false, .bool true, rawInt pos, rawInt (0 : Nat), res, rawInt (-1)], []⟩) Q E ⟨hp, g, d, tk, os⟩ := by
  unfold Builtin.«_heapq.heapify.sift»
  have h' : (⟨hp, g, d, tk, os⟩ : Shared).heap.get? a = some (lo l n) := h
  wp_walk
  simp only [Int.toNat_natCast]
  rw [if_neg (show ¬ pos < l.toArray.size / 2 by simp; omega)]
  wp_walk
  exact q2
theorem tree_dn1 {x y : Value} (h : hp.get? a = some (lo l n)) (hz : l.length ≤ 1000) (hl : l.length = 2 * pos + 2) (hx : l[pos]? = some x) (hy : l[2 * pos + 1]? = some y)
    (q1 : ∀ h' n', h'.get? a = some (lo (swp l (2 * pos + 1) pos y x) n') → Heap.SameBut a hp h' → Q (.again (dnC a (2 * pos + 1) res)) ⟨h', g, d, tk, os⟩) :
    wpAny M A (Builtin.«_heapq.heapify.sift» ⟨[.ref a, .bool false, .bool true, rawInt pos, rawInt (0 : Nat), res, rawInt (-1)], []⟩) Q E ⟨hp, g, d, tk, os⟩ := by
  unfold Builtin.«_heapq.heapify.sift»
  have h' : (⟨hp, g, d, tk, os⟩ : Shared).heap.get? a = some (lo l n) := h
  have hx' : l.toArray[pos]? = some x := by simpa using hx
  have hy' : l.toArray[2 * pos + 1]? = some y := by simpa using hy
  have hz1 : l.toArray.size ≤ sizeLine := by rw [sizeLine_eq]; simp; omega
  have hz2 : ((l.toArray.setIfInBounds (2 * pos + 1) x).setIfInBounds pos y).size ≤ sizeLine + 1 := by rw [sizeLine_eq]; simp; omega
  wp_walk
  simp only [Int.toNat_natCast]
  wp_walk
  rw [hy']
  wp_walk
  rw [hx']
  wp_walk using wpAny_updateSeq (f := fun xs => (xs.setIfInBounds (2 * pos + 1) x).setIfInBounds pos y) h' rfl
  obtain ⟨n', e'⟩ := got (f := fun xs => (xs.setIfInBounds (2 * pos + 1) x).setIfInBounds pos y) (l' := swp l (2 * pos + 1) pos y x) h (by simp [swp])
  exact q1 _ n' e' (Heap.SameBut.update ..)
theorem tree_dn2 {x y z : Value} (h : hp.get? a = some (lo l n)) (hz : l.length ≤ 1000) (hl : 2 * pos + 2 < l.length) (hx : l[pos]? = some x) (hy : l[2 * pos + 1]? = some y) (hzz : l[2 * pos + 2]? = some z) (b : Bool)
    (hlt : ∀ Q' : Value → Shared → Prop, Q' (.bool b) ⟨hp, g, d, tk, os⟩ → wpAny M A (richCompare .Lt y z) Q' E ⟨hp, g, d, tk, os⟩)
    (q1 : b = true → ∀ h' n', h'.get? a = some (lo (swp l (2 * pos + 1) pos y x) n') → Heap.SameBut a hp h' → Q (.again (dnC a (2 * pos + 1) res)) ⟨h', g, d, tk, os⟩)
    (q2 : b = false → ∀ h' n', h'.get? a = some (lo (swp l (2 * pos + 2) pos z x) n') → Heap.SameBut a hp h' → Q (.again (dnC a (2 * pos + 2) res)) ⟨h', g, d, tk, os⟩) :
    wpAny M A (Builtin.«_heapq.heapify.sift» ⟨[.ref a, .bool false, .bool true, rawInt pos, rawInt (0 : Nat), res, rawInt (-1)], []⟩) Q E ⟨hp, g, d, tk, os⟩ := by
  unfold Builtin.«_heapq.heapify.sift»
  have h' : (⟨hp, g, d, tk, os⟩ : Shared).heap.get? a = some (lo l n) := h
  have hx' : l.toArray[pos]? = some x := by simpa using hx
  have hy' : l.toArray[2 * pos + 1]? = some y := by simpa using hy
  have hz' : l.toArray[2 * pos + 1 + 1]? = some z := by simpa using hzz
  have hz1 : l.toArray.size ≤ sizeLine := by rw [sizeLine_eq]; simp; omega
  wp_walk
  simp only [Int.toNat_natCast]
  rw [if_pos (show pos < l.toArray.size / 2 by simp; omega)]
  wp_walk
  rw [hy']
  wp_walk
  rw [hz']
  wp_walk using hlt _
  cases b with
  | true =>
    have hz2 : ((l.toArray.setIfInBounds (2 * pos + 1) x).setIfInBounds pos y).size ≤ sizeLine + 1 := by rw [sizeLine_eq]; simp; omega
    wp_walk
    rw [hy']
    wp_walk
    rw [hx']
    wp_walk using wpAny_updateSeq (f := fun xs => (xs.setIfInBounds (2 * pos + 1) x).setIfInBounds pos y) h' rfl
    obtain ⟨n', e'⟩ := got (f := fun xs => (xs.setIfInBounds (2 * pos + 1) x).setIfInBounds pos y) (l' := swp l (2 * pos + 1) pos y x) h (by simp [swp])
    exact q1 rfl _ n' e' (Heap.SameBut.update ..)
  | false =>
    have hz2 : ((l.toArray.setIfInBounds (2 * pos + 1 + 1) x).setIfInBounds pos z).size ≤ sizeLine + 1 := by rw [sizeLine_eq]; simp; omega
    wp_walk
    rw [hz']
    wp_walk
    rw [hx']
    wp_walk using wpAny_updateSeq (f := fun xs => (xs.setIfInBounds (2 * pos + 1 + 1) x).setIfInBounds pos z) h' rfl
    obtain ⟨n', e'⟩ := got (f := fun xs => (xs.setIfInBounds (2 * pos + 1 + 1) x).setIfInBounds pos z) (l' := swp l (2 * pos + 2) pos z x) h (by simp [swp])
    exact q2 rfl _ n' e' (Heap.SameBut.update ..)
theorem tree_pop1 {x : Value} (h : hp.get? a = some (lo [x] n)) (q : ∀ h' n', h'.get? a = some (lo [] n') → Heap.SameBut a hp h' → Q (.done (.ret x)) ⟨h', g, d, tk, os⟩) : wpAny M A (Builtin.«_heapq.heappop» ⟨[.ref a], []⟩) Q E ⟨hp, g, d, tk, os⟩ := by
  unfold Builtin.«_heapq.heappop»
  have h' : (⟨hp, g, d, tk, os⟩ : Shared).heap.get? a = some (lo [x] n) := h
  have hz1 : ([x] : List Value).toArray.size ≤ sizeLine := by rw [sizeLine_eq]; simp
  have hz2 : (([x] : List Value).toArray.pop).size ≤ sizeLine + 1 := by rw [sizeLine_eq]; simp
  wp_walk
  refine wpAny_of_eq (a := true) sub_list ?_
  wp_walk using wpAny_updateSeq (f := fun x => x.pop) h' rfl
  obtain ⟨n', e'⟩ := got (f := fun x => x.pop) (l' := []) h (by simp)
  exact q _ n' e' (Heap.SameBut.update ..)
theorem tree_pop2 {x y : Value} {r : List Value} (h : hp.get? a = some (lo (x :: (r ++ [y])) n)) (hz : r.length ≤ 900) (q : ∀ h' n', h'.get? a = some (lo (y :: r) n') → Heap.SameBut a hp h' → Q (.again (dnC a 0 x)) ⟨h', g, d, tk, os⟩) :
    wpAny M A (Builtin.«_heapq.heappop» ⟨[.ref a], []⟩) Q E ⟨hp, g, d, tk, os⟩ := by
  unfold Builtin.«_heapq.heappop»
  have h' : (⟨hp, g, d, tk, os⟩ : Shared).heap.get? a = some (lo (x :: (r ++ [y])) n) := h
  have hz1 : (x :: (r ++ [y]) : List Value).toArray.size ≤ sizeLine := by rw [sizeLine_eq]; simp; omega
  have hz2 : ((x :: (r ++ [y]) : List Value).toArray.pop).size ≤ sizeLine + 1 := by rw [sizeLine_eq]; simp; omega
  wp_walk
  refine wpAny_of_eq (a := true) sub_list ?_
  wp_walk using wpAny_updateSeq (f := fun x => x.pop) h' rfl
  have hb : (x :: (r ++ [y])).toArray.back? = some y := by
    rw [List.back?_toArray, List.getLast?_cons, List.getLast?_append]
    simp
  rw [hb]
  wp_walk using wpAny_updateSeq (f := fun x => x.pop) h' rfl
  have hz3 : ((x :: (r ++ [y]) : List Value).toArray.pop.setIfInBounds 0 y).size ≤ sizeLine + 1 := by rw [sizeLine_eq]; simp; omega
  have hl : (Obj.mapSeq (fun x => x.setIfInBounds 0 y) (Obj.mapSeq (fun x => x.pop) (lo (x :: (r ++ [y])) n))).data.pastItsLine = none := pastItsLine_seq hz3
  rw [hl]
  wp_walk
  obtain ⟨n1, e1⟩ := got (f := fun x => x.pop) (l' := x :: r) h (by show (x :: (r ++ [y])).toArray.pop = _; rw [List.pop_toArray, ← List.cons_append, List.dropLast_concat])
  obtain ⟨n2, e2⟩ := got (f := fun x => x.setIfInBounds 0 y) (l' := y :: r) e1 (by simp)
  exact q _ n2 e2 ((Heap.SameBut.update ..).trans (Heap.SameBut.update ..))
end
end Hq
end Ell
set_option maxHeartbeats 4000000
namespace Ell
open PySem PySem.Spec PyProof.Rows L2
namespace Hq
/-- an item of the heap: the tuple at an address, its three numbers -/
abbrev Q3 := Addr × T3
def ltQ (a b : Q3) : Bool := lt3 a.2 b.2
theorem ltQ_ord : Ord ltQ := ⟨fun a b h => lt3_ord.as a.2 b.2 h, fun a b c h1 h2 => lt3_ord.tr a.2 b.2 c.2 h1 h2⟩
def TT (h : Heap) (q : Q3) : Prop := ∃ t1 t2 t3, h.IsTuple q.1 #[.int q.2.1 t1, .int q.2.2.1 t2, .int q.2.2.2 t3]
abbrev vl (l : List Q3) : List Value := l.map fun q => .ref q.1
theorem TT.but {h h' : Heap} {a : Addr} {q : Q3} (x : TT h q) (ha : ∃ l n, h.get? a = some (lo l n)) (s : Heap.SameBut a h h') : TT h' q := by
  obtain ⟨t1, t2, t3, o, e, c, r⟩ := x
  obtain ⟨l, n, ea⟩ := ha
  have ne : q.1 ≠ a := fun z => by
    rw [z, ea] at e
    cases e
    exact absurd c (by intro z; injection z with z; exact absurd z (by decide))
  exact ⟨t1, t2, t3, o, (s.2 _ ne).trans e, c, r⟩
theorem lex3 {a b : T3} : Ob.lexAt (fun j => if j = 0 then decide (a.1 = b.1) else if j = 1 then decide (a.2.1 = b.2.1) else decide (a.2.2 = b.2.2)) (fun j => if j = 0 then decide (a.1 < b.1) else if j = 1 then decide (a.2.1 < b.2.1) else decide (a.2.2 < b.2.2)) false 0 3 = lt3 a b := by
  unfold lt3
  rw [Ob.lexAt_succ, Ob.lexAt_succ, Ob.lexAt_succ, Ob.lexAt_zero]
  simp
theorem eqi {A : Around} {s : Shared} (a : Int) (t : Tok) (b : Int) (u : Tok) : SeqAt.EqAt A s (.int a t) (.int b u) (decide (a = b)) := by
  have e : (a == b) = decide (a = b) := by by_cases h : a = b <;> simp [h]
  rw [← e]
  exact SeqAt.EqAt.int_int a t b u
theorem lt_rc {A : Around} {s : Shared} {p q : Q3} (hp : TT s.heap p) (hq : TT s.heap q) (hu : A.units < cLine) (hu1 : A.in1.units < cLine) : Ob.RcOp .Lt A s (.ref p.1) (.ref q.1) (ltQ p q) := by
  obtain ⟨t1, t2, t3, h1⟩ := hp
  obtain ⟨u1, u2, u3, h2⟩ := hq
  have := Ob.RcOp.tuples_lt (A := A) (s := s) (e := fun j => if j = 0 then decide (p.2.1 = q.2.1) else if j = 1 then decide (p.2.2.1 = q.2.2.1) else decide (p.2.2.2 = q.2.2.2)) (r := fun j => if j = 0 then decide (p.2.1 < q.2.1) else if j = 1 then decide (p.2.2.1 < q.2.2.1) else decide (p.2.2.2 < q.2.2.2)) h1 h2 hu (fun j j1 j2 => ?_) (fun j j1 j2 _ => ?_)
  · have e : Ob.lexAt (fun j => if j = 0 then decide (p.2.1 = q.2.1) else if j = 1 then decide (p.2.2.1 = q.2.2.1) else decide (p.2.2.2 = q.2.2.2)) (fun j => if j = 0 then decide (p.2.1 < q.2.1) else if j = 1 then decide (p.2.2.1 < q.2.2.1) else decide (p.2.2.2 < q.2.2.2)) false 0 3 = ltQ p q := lex3
    rw [← e]
    exact this
  · have j1' : j < 3 := j1
    match j, j1' with
    | 0, _ => exact eqi _ _ _ _
    | 1, _ => exact eqi _ _ _ _
    | 2, _ => exact eqi _ _ _ _
  · have j1' : j < 3 := j1
    match j, j1' with
    | 0, _ => exact Ob.RcOp.lt_int _ _ _ _
    | 1, _ => exact Ob.RcOp.lt_int _ _ _ _
    | 2, _ => exact Ob.RcOp.lt_int _ _ _ _
section
variable {prog : Program} {w : World} {A : Around} {a : Addr} {res : Value}
/-- up from pos -/
theorem code_up (hu : A.units + 2 < cLine) : ∀ (pos : Nat) (l : List Q3) (s : Shared) (n : Nat) (R : Result → Shared → Prop), UpI ltQ l pos → pos < l.length → l.length ≤ 1000 → s.heap.get? a = some (lo (vl l) n) → (∀ q ∈ l, TT s.heap q) →
    (∀ l' h' n', HP ltQ l' → (∀ z, z ∈ l' ↔ z ∈ l) → l'.length = l.length → h'.get? a = some (lo (vl l') n') → Heap.SameBut a s.heap h' → R (.ok (.ret res)) { s with heap := h' }) → codeAny (model prog w) A (upC a pos res) R s := by
  intro pos
  induction pos using Nat.strongRecOn with
  | ind pos ih =>
    intro l s n R hI hl hz hg ht hR
    obtain ⟨hp, g, d, tk, os⟩ := s
    refine codeAny_builtin entry_sift ?_
    rw [Around.under_plainId plain_sift _]
    by_cases h0 : pos = 0
    · subst h0
      refine tree_up0 hg ?_
      exact hR l hp n (hI.done fun z => absurd z (by decide)) (fun z => Iff.rfl) rfl hg (Heap.SameBut.refl _ _)
    · have hx : l[pos]? = some l[pos] := List.getElem?_eq_getElem hl
      have hy : l[(pos - 1) / 2]? = some (l[(pos - 1) / 2]'(by omega)) := List.getElem?_eq_getElem (by omega)
      generalize l[pos] = x at hx
      generalize (l[(pos - 1) / 2]'(by omega)) = y at hy
      have mx := List.mem_of_getElem? hx
      have my := List.mem_of_getElem? hy
      have hvx : (vl l)[pos]? = some (.ref x.1) := by rw [List.getElem?_map, hx]; rfl
      have hvy : (vl l)[(pos - 1) / 2]? = some (.ref y.1) := by rw [List.getElem?_map, hy]; rfl
      have sw : swp (vl l) ((pos - 1) / 2) pos (.ref y.1) (.ref x.1) = vl (swp l ((pos - 1) / 2) pos y x) := by simp [swp, List.map_set]
      refine tree_up hg (by rw [List.length_map]; exact hz) (by omega) hvx hvy (ltQ x y) (fun Q' q => lt_rc (ht x mx) (ht y my) (by show A.units + 1 < cLine; omega) (by show A.units + 1 + 1 < cLine; omega) prog w _ _ q) (fun e h' n' e' sb => ?_) (fun e => ?_)
      · refine ⟨plainId_quiet plain_sift _, ?_⟩
        rw [sw] at e'
        have hne : (pos - 1) / 2 ≠ pos := by omega
        refine ih ((pos - 1) / 2) (by omega) (swp l ((pos - 1) / 2) pos y x) ⟨h', g, d, tk, os⟩ n' R (hI.step ltQ_ord (by omega) rfl hx hy e) (by rw [swp_len]; omega) (by rw [swp_len]; exact hz) e' (fun q hq => (ht q ((swp_mem hy hx hne q).mp hq)).but ⟨_, _, hg⟩ sb) fun l' h'' n'' p1 p2 p3 p4 p5 => ?_
        exact hR l' h'' n'' p1 (fun z => (p2 z).trans (swp_mem hy hx hne z)) (p3.trans swp_len) p4 (sb.trans p5)
      · refine hR l hp n (hI.done fun _ u v hu hv => ?_) (fun z => Iff.rfl) rfl hg (Heap.SameBut.refl _ _)
        rw [hx] at hu
        rw [hy] at hv
        cases hu
        cases hv
        exact e
/-- down from pos -/
theorem code_dn (hu : A.units + 2 < cLine) : ∀ (m pos : Nat) (l : List Q3) (s : Shared) (n : Nat) (R : Result → Shared → Prop), l.length - pos ≤ m → DnI ltQ l pos → pos < l.length → l.length ≤ 1000 → s.heap.get? a = some (lo (vl l) n) → (∀ q ∈ l, TT s.heap q) →
    (∀ l' h' n', HP ltQ l' → (∀ z, z ∈ l' ↔ z ∈ l) → l'.length = l.length → h'.get? a = some (lo (vl l') n') → Heap.SameBut a s.heap h' → R (.ok (.ret res)) { s with heap := h' }) → codeAny (model prog w) A (dnC a pos res) R s := by
  intro m
  induction m with
  | zero =>
    intro pos l s n R hm hI hl
    omega
  | succ m ih =>
    intro pos l s n R hm hI hl hz hg ht hR
    obtain ⟨hp, g, d, tk, os⟩ := s
    refine codeAny_builtin entry_sift ?_
    rw [Around.under_plainId plain_sift _]
    by_cases h0 : l.length ≤ 2 * pos + 1
    · refine tree_leaf hg (by rw [List.length_map]; exact h0) ?_
      exact ⟨plainId_quiet plain_sift _, code_up hu pos l ⟨hp, g, d, tk, os⟩ n R (hI.leaf h0) hl hz hg ht hR⟩
    · have hx : l[pos]? = some l[pos] := List.getElem?_eq_getElem hl
      have hy : l[2 * pos + 1]? = some (l[2 * pos + 1]'(by omega)) := List.getElem?_eq_getElem (by omega)
      generalize l[pos] = x at hx
      generalize (l[2 * pos + 1]'(by omega)) = y at hy
      have hvx : (vl l)[pos]? = some (.ref x.1) := by rw [List.getElem?_map, hx]; rfl
      have hvy : (vl l)[2 * pos + 1]? = some (.ref y.1) := by rw [List.getElem?_map, hy]; rfl
      have fin : ∀ (c : Nat) (y : Q3) (h' : Heap) (n' : Nat), (c = 2 * pos + 1 ∨ c = 2 * pos + 2) → l[c]? = some y → (∀ k z, (k = 2 * pos + 1 ∨ k = 2 * pos + 2) → k ≠ c → l[k]? = some z → ltQ z y = false) → h'.get? a = some (lo (vl (swp l c pos y x)) n') → Heap.SameBut a hp h' → codeAny (model prog w) A (dnC a c res) R ⟨h', g, d, tk, os⟩ := fun c y h' n' hc hy hs e' sb => by
        have hne : c ≠ pos := by omega
        have hcl := (List.getElem?_eq_some_iff.mp hy).1
        refine ih c (swp l c pos y x) ⟨h', g, d, tk, os⟩ n' R (by rw [swp_len]; omega) (hI.step hc hx hy hs) (by rw [swp_len]; exact hcl) (by rw [swp_len]; exact hz) e' (fun q hq => (ht q ((swp_mem hy hx hne q).mp hq)).but ⟨_, _, hg⟩ sb) fun l' h'' n'' p1 p2 p3 p4 p5 => ?_
        exact hR l' h'' n'' p1 (fun z => (p2 z).trans (swp_mem hy hx hne z)) (p3.trans swp_len) p4 (sb.trans p5)
      by_cases h1 : l.length = 2 * pos + 2
      · refine tree_dn1 hg (by rw [List.length_map]; exact hz) (by rw [List.length_map]; exact h1) hvx hvy fun h' n' e' sb => ⟨plainId_quiet plain_sift _, ?_⟩
        have sw : swp (vl l) (2 * pos + 1) pos (.ref y.1) (.ref x.1) = vl (swp l (2 * pos + 1) pos y x) := by simp [swp, List.map_set]
        rw [sw] at e'
        refine fin (2 * pos + 1) y h' n' (.inl rfl) hy (fun k z hk hk2 hz' => ?_) e' sb
        have := (List.getElem?_eq_some_iff.mp hz').1
        omega
      · have hzz : l[2 * pos + 2]? = some (l[2 * pos + 2]'(by omega)) := List.getElem?_eq_getElem (by omega)
        generalize (l[2 * pos + 2]'(by omega)) = z at hzz
        have hvz : (vl l)[2 * pos + 2]? = some (.ref z.1) := by rw [List.getElem?_map, hzz]; rfl
        have sw : ∀ c y, swp (vl l) c pos (.ref y.1) (.ref x.1) = vl (swp l c pos y x) := fun c y => by simp [swp, List.map_set]
        refine tree_dn2 hg (by rw [List.length_map]; exact hz) (by rw [List.length_map]; omega) hvx hvy hvz (ltQ y z) (fun Q' q => lt_rc (ht y (List.mem_of_getElem? hy)) (ht z (List.mem_of_getElem? hzz)) (by show A.units + 1 < cLine; omega) (by show A.units + 1 + 1 < cLine; omega) prog w _ _ q) (fun e h' n' e' sb => ⟨plainId_quiet plain_sift _, ?_⟩) (fun e h' n' e' sb => ⟨plainId_quiet plain_sift _, ?_⟩)
        · rw [sw] at e'
          refine fin (2 * pos + 1) y h' n' (.inl rfl) hy (fun k u hk hk2 hu' => ?_) e' sb
          have ek : k = 2 * pos + 2 := by omega
          subst ek
          rw [hzz] at hu'
          cases hu'
          exact ltQ_ord.as _ _ e
        · rw [sw] at e'
          refine fin (2 * pos + 2) z h' n' (.inr rfl) hzz (fun k u hk hk2 hu' => ?_) e' sb
          have ek : k = 2 * pos + 1 := by omega
          subst ek
          rw [hy] at hu'
          cases hu'
          exact e
end
theorem meets_push (a b : Addr) : Meets (Builtin.«_heapq.heappush» ⟨[.ref a, .ref b], []⟩) (fun A R s => A.units + 2 < cLine ∧ ∃ (l : List Q3) (n : Nat) (q : Q3), q.1 = b ∧ s.heap.get? a = some (lo (vl l) n) ∧ (∀ q ∈ l, TT s.heap q) ∧ TT s.heap q ∧ HP ltQ l ∧ l.length ≤ 900 ∧
    ∀ l' h' n', HP ltQ l' → (∀ z, z ∈ l' ↔ (z ∈ l ∨ z = q)) → l'.length = l.length + 1 → h'.get? a = some (lo (vl l') n') → Heap.SameBut a s.heap h' → R (.ok (.ret .none)) { s with heap := h' }) := by
  rintro prog w A R ⟨hp, g, d, tk, os⟩ ⟨hu, l, n, q, rfl, hg, ht, hq, hh, hl, hR⟩
  refine tree_push hg (by rw [List.length_map]; omega) fun h' n' e' sb => ⟨plainId_quiet plain_sift _, ?_⟩
  have e1 : vl l ++ [Value.ref q.1] = vl (l ++ [q]) := by simp
  rw [e1] at e'
  have e2 : (vl l).length = l.length := List.length_map _
  rw [e2]
  refine code_up hu l.length (l ++ [q]) ⟨h', g, d, tk, os⟩ n' R hh.push (by simp) (by simp; omega) e' (fun z hz => ?_) fun l' h'' n'' p1 p2 p3 p4 p5 => hR l' h'' n'' p1 (fun z => ?_) (by rw [p3]; simp) p4 (sb.trans p5)
  · rcases List.mem_append.mp hz with m | m
    · exact (ht z m).but ⟨_, _, hg⟩ sb
    · rw [List.mem_singleton.mp m]
      exact hq.but ⟨_, _, hg⟩ sb
  · rw [p2, List.mem_append, List.mem_singleton]
theorem meets_pop (a : Addr) : Meets (Builtin.«_heapq.heappop» ⟨[.ref a], []⟩) (fun A R s => A.units + 2 < cLine ∧ ∃ (l : List Q3) (n : Nat), 1 ≤ l.length ∧ s.heap.get? a = some (lo (vl l) n) ∧ (∀ q ∈ l, TT s.heap q) ∧ HP ltQ l ∧ l.length ≤ 900 ∧
    ∀ q l' h' n', q ∈ l → (∀ z ∈ l, ltQ z q = false) → HP ltQ l' → (∀ z, z ∈ l' → z ∈ l) → (∀ z, z ∈ l → z = q ∨ z ∈ l') → l'.length + 1 = l.length → h'.get? a = some (lo (vl l') n') → Heap.SameBut a s.heap h' → R (.ok (.ret (.ref q.1))) { s with heap := h' }) := by
  rintro prog w A R ⟨hp, g, d, tk, os⟩ ⟨hu, l, n, hl1, hg, ht, hh, hl, hR⟩
  match l, hl1, hg, ht, hh, hl, hR with
  | [x], _, hg, ht, hh, hl, hR =>
    refine tree_pop1 hg fun h' n' e' sb => ?_
    exact hR x [] h' n' List.mem_cons_self (hh.least ltQ_ord rfl) (fun i i1 u p hu => by simp at hu) (fun z hz => by cases hz) (fun z hz => .inl (List.mem_singleton.mp hz)) rfl e' sb
  | x :: y0 :: r0, _, hg, ht, hh, hl, hR =>
    obtain ⟨r, y, hr⟩ : ∃ r y, y0 :: r0 = r ++ [y] := ⟨(y0 :: r0).dropLast, (y0 :: r0).getLast (by simp), (List.dropLast_concat_getLast (by simp)).symm⟩
    rw [hr] at hg ht hh hl hR
    have e1 : vl (x :: (r ++ [y])) = .ref x.1 :: (vl r ++ [.ref y.1]) := by simp
    have hd := hh.pop (x := y)
    have e3 : (x :: (r ++ [y])).dropLast.set 0 y = y :: r := by
      rw [← List.cons_append, List.dropLast_concat]
      rfl
    rw [e3] at hd
    have hlr : r.length ≤ 900 := by simp at hl; omega
    refine tree_pop2 (by rw [← e1]; exact hg) (by rw [List.length_map]; exact hlr) fun h' n' e' sb => ⟨plainId_quiet plain_sift _, ?_⟩
    refine code_dn hu (y :: r).length 0 (y :: r) ⟨h', g, d, tk, os⟩ n' R (by omega) hd (by simp) (by simp; omega) e' (fun z hz => (ht z ?_).but ⟨_, _, hg⟩ sb) fun l' h'' n'' p1 p2 p3 p4 p5 => ?_
    · rcases List.mem_cons.mp hz with m | m
      · rw [m]; simp
      · exact List.mem_cons_of_mem _ (List.mem_append_left _ m)
    · refine hR x l' h'' n'' List.mem_cons_self (hh.least ltQ_ord rfl) p1 (fun z hz => ?_) (fun z hz => ?_) (by rw [p3]; simp) p4 (sb.trans p5)
      · rcases List.mem_cons.mp ((p2 z).mp hz) with m | m
        · rw [m]; simp
        · exact List.mem_cons_of_mem _ (List.mem_append_left _ m)
      · rcases List.mem_cons.mp hz with m | m
        · exact .inl m
        · refine .inr ((p2 z).mpr ?_)
          rcases List.mem_append.mp m with m | m
          · exact List.mem_cons_of_mem _ m
          · rw [List.mem_singleton.mp m]; exact List.mem_cons_self
end Hq
/-! ### the rules -/
def T3V (H : Hp) (v : V) (t : T3) : Prop := ∃ p, v = .ref p ∧ H p = some (.tup [.int t.1, .int t.2.1, .int t.2.2])
abbrev T3s (H : Hp) : List V → List T3 → Prop := Paired (T3V H)
theorem T3V.mono {H H' : Hp} {v : V} {t : T3} (h : T3V H v t) (k : Ell.TP H H') : T3V H' v t := by
  obtain ⟨p, e, q⟩ := h
  exact ⟨p, e, k _ _ q⟩
theorem t3s_mono {H H' : Hp} {xs : List V} {ts : List T3} (h : T3s H xs ts) (k : Ell.TP H H') : T3s H' xs ts := Paired.mapP h fun _ _ q => q.mono k
def rPush : List V → Hp → VK → Prop := fun vs H Q => ∃ (p : Addr) (xs : List V) (ts : List T3) (x : V) (t : T3), vs = [.ref p, x] ∧ H p = some (.lst xs) ∧ T3s H xs ts ∧ T3V H x t ∧ HP lt3 ts ∧ ts.length ≤ 900 ∧
  ∀ (xs' : List V) (ts' : List T3), T3s H xs' ts' → HP lt3 ts' → (∀ z, z ∈ ts' ↔ (z ∈ ts ∨ z = t)) → ts'.length = ts.length + 1 → Q .non (upd H p (.lst xs'))
def rPop : List V → Hp → VK → Prop := fun vs H Q => ∃ (p : Addr) (xs : List V) (ts : List T3), vs = [.ref p] ∧ H p = some (.lst xs) ∧ T3s H xs ts ∧ HP lt3 ts ∧ 1 ≤ ts.length ∧ ts.length ≤ 900 ∧
  ∀ (x : V) (t : T3) (xs' : List V) (ts' : List T3), T3V H x t → t ∈ ts → (∀ z ∈ ts, lt3 z t = false) → T3s H xs' ts' → HP lt3 ts' → (∀ z, z ∈ ts' → z ∈ ts) → (∀ z, z ∈ ts → z = t ∨ z ∈ ts') → ts'.length + 1 = ts.length → Q x (upd H p (.lst xs'))
theorem t3_l {H : Hp} : ∀ {xs : List V} {ts : List T3}, T3s H xs ts → ∃ l : List Hq.Q3, xs = l.map (fun q => V.ref q.1) ∧ ts = l.map (·.2) ∧ ∀ q ∈ l, H q.1 = some (.tup [.int q.2.1, .int q.2.2.1, .int q.2.2.2])
  | _, _, .nil => ⟨[], rfl, rfl, fun q h => by cases h⟩
  | _, _, .cons (b := t) r s => by
    obtain ⟨p, rfl, e⟩ := r
    obtain ⟨l, h1, h2, h3⟩ := t3_l s
    refine ⟨(p, t) :: l, by rw [h1]; rfl, by rw [h2]; rfl, fun q hq => ?_⟩
    rcases List.mem_cons.mp hq with m | m
    · rw [m]; exact e
    · exact h3 q m
theorem l_t3 {H : Hp} : ∀ (l : List Hq.Q3), (∀ q ∈ l, H q.1 = some (.tup [.int q.2.1, .int q.2.2.1, .int q.2.2.2])) → T3s H (l.map fun q => V.ref q.1) (l.map (·.2))
  | [], _ => .nil
  | q :: l, h => .cons ⟨q.1, rfl, h q List.mem_cons_self⟩ (l_t3 l fun z hz => h z (List.mem_cons_of_mem _ hz))
theorem hp_l {l : List Hq.Q3} : HP Hq.ltQ l ↔ HP lt3 (l.map (·.2)) := by
  constructor
  · intro h i i1 x p hx hp
    rw [List.getElem?_map] at hx hp
    obtain ⟨u, hu, rfl⟩ := Option.map_eq_some_iff.mp hx
    obtain ⟨v, hv, rfl⟩ := Option.map_eq_some_iff.mp hp
    exact h i i1 u v hu hv
  · intro h i i1 x p hx hp
    exact h i i1 x.2 p.2 (by rw [List.getElem?_map, hx]; rfl) (by rw [List.getElem?_map, hp]; rfl)
theorem vals_refs : ∀ {l : List Hq.Q3} {us : List Value}, Vals (l.map fun q => V.ref q.1) us → us = Hq.vl l
  | [], _, h => by cases h; rfl
  | q :: l, _, .cons (b := u) r t => by
    obtain rfl : u = Value.ref q.1 := r
    rw [vals_refs t]
    rfl
section
variable {X : Cx} {pins : List (Addr × Obj)} {σ : L2.St} {H : Hp} {s : Shared}
theorem tt_of (I : Inv X pins σ H s) {q : Hq.Q3} (h : H q.1 = some (.tup [.int q.2.1, .int q.2.2.1, .int q.2.2.2])) : Hq.TT s.heap q := by
  obtain ⟨_, its, r, o, e, c, n, d⟩ := (show ObjOk X.prog X.w H s.heap q.1 (.tup _) from I.hok q.1 _ h)
  match its, r with
  | _, .cons (b := u1) r1 (.cons (b := u2) r2 (.cons (b := u3) r3 .nil)) =>
    obtain ⟨t1, rfl⟩ := r1
    obtain ⟨t2, rfl⟩ := r2
    obtain ⟨t3, rfl⟩ := r3
    exact ⟨t1, t2, t3, o, e, c, n, d⟩
theorem lst_write (I : Inv X pins σ H s) {p : Addr} {xs : List V} (e : H p = some (.lst xs)) {l' : List Hq.Q3} {h' : Heap} {n' : Nat} (hl : l'.length ≤ 1000) (e' : h'.get? p = some (Hq.lo (Hq.vl l') n')) (sb : Heap.SameBut p s.heap h') :
    Inv X pins σ (upd H p (.lst (l'.map fun q => V.ref q.1))) { s with heap := h' } := by
  have vv : ∀ l : List Hq.Q3, Vals (l.map fun q => V.ref q.1) (Hq.vl l) := fun l => by
    induction l with
    | nil => exact .nil
    | cons a r ih => exact .cons rfl ih
  exact I.write (t' := s.toks) (x := p) (e := p) (by rw [e]; exact True.intro) (.inl rfl) (fun b u hb z => (sb.2 b hb).trans z) ⟨_, e'⟩ ⟨by rw [List.length_map]; exact sl1000 hl, _, n', vv l', e'⟩
theorem cr_heappush (hu : X.A.units + 64 < cLine) : CallR X (.builtin "_heapq.heappush") rPush := by
  intro pins s σ H xs us Q I r h
  obtain ⟨p, ys, ts, x, t, rfl, ep, rp, ⟨b, rfl, eb⟩, hh, hl, q⟩ := h
  obtain ⟨l, rfl, rfl, hm⟩ := t3_l rp
  obtain ⟨u1, u2, rfl, r1, r2⟩ := vals2 r
  obtain rfl : u1 = Value.ref p := r1
  obtain rfl : u2 = Value.ref b := r2
  obtain ⟨_, its, n, rv, eg⟩ := (show ObjOk X.prog X.w H s.heap p (.lst _) from I.hok p _ ep)
  rw [vals_refs rv] at eg
  rw [List.length_map] at hl
  refine call_function_meets Hq.kind_push Hq.plain_push Hq.entry_push (Hq.args_push _ _) (Hq.meets_push p b) ⟨by omega, l, n, (b, t), rfl, eg, fun z hz => tt_of I (hm z hz), tt_of I (q := (b, t)) eb, hp_l.mpr hh, hl, fun l' h' n' p1 p2 p3 p4 p5 => ?_⟩
  refine ⟨.non, _, lst_write I ep (by omega) p4 p5, rfl, q _ (l'.map (·.2)) (l_t3 l' fun z hz => ?_) (hp_l.mp p1) (fun z => ?_) (by rw [List.length_map, List.length_map, p3])⟩
  · rcases (p2 z).mp hz with m | m
    · exact hm z m
    · rw [m]; exact eb
  · constructor
    · intro hz
      obtain ⟨y, hy, rfl⟩ := List.mem_map.mp hz
      rcases (p2 y).mp hy with m | m
      · exact .inl (List.mem_map_of_mem m)
      · rw [m]; exact .inr rfl
    · rintro (hz | rfl)
      · obtain ⟨y, hy, rfl⟩ := List.mem_map.mp hz
        exact List.mem_map_of_mem ((p2 y).mpr (.inl hy))
      · exact List.mem_map.mpr ⟨(b, z), (p2 _).mpr (.inr rfl), rfl⟩
theorem cr_heappop (hu : X.A.units + 64 < cLine) : CallR X (.builtin "_heapq.heappop") rPop := by
  intro pins s σ H xs us Q I r h
  obtain ⟨p, ys, ts, rfl, ep, rp, hh, h1, hl, q⟩ := h
  obtain ⟨l, rfl, rfl, hm⟩ := t3_l rp
  cases r with
  | @cons _ u1 _ us' r1 rr =>
    cases rr
    obtain rfl : u1 = Value.ref p := r1
    obtain ⟨_, its, n, rv, eg⟩ := (show ObjOk X.prog X.w H s.heap p (.lst _) from I.hok p _ ep)
    rw [vals_refs rv] at eg
    rw [List.length_map] at h1 hl
    refine call_function_meets Hq.kind_pop Hq.plain_pop Hq.entry_pop (Hq.args_pop _) (Hq.meets_pop p) ⟨by omega, l, n, h1, eg, fun z hz => tt_of I (hm z hz), hp_l.mpr hh, hl, fun y l' h' n' p0 p1 p2 p3 p4 p5 p6 p7 => ?_⟩
    refine ⟨.ref y.1, _, lst_write I ep (by omega) p6 p7, rfl, q _ y.2 _ (l'.map (·.2)) ⟨y.1, rfl, hm y p0⟩ (List.mem_map_of_mem p0) (fun z hz => ?_) (l_t3 l' fun z hz => hm z (p3 z hz)) (hp_l.mp p2) (fun z hz => ?_) (fun z hz => ?_) (by rw [List.length_map, List.length_map, p5])⟩
    · obtain ⟨u, hu', rfl⟩ := List.mem_map.mp hz
      exact p1 u hu'
    · obtain ⟨u, hu', rfl⟩ := List.mem_map.mp hz
      exact List.mem_map_of_mem (p3 u hu')
    · obtain ⟨u, hu', rfl⟩ := List.mem_map.mp hz
      rcases p4 u hu' with m | m
      · exact .inl (by rw [m])
      · exact .inr (List.mem_map_of_mem m)
end
end Ell
set_option maxHeartbeats 4000000
namespace Ell
open PySem PySem.Spec PyProof.Rows L2
/-! ### nearest -/
def spNearest (K : PySem.W.Frag) : Sp := fun vs H Q _ => ∃ (st N : Nat) (On Lv : Addr) (as : List Arc) (p : Nat → Int), vs = [.int (st : Nat), .ref On, .ref Lv] ∧ st < N ∧ N ≤ 11 ∧ as.length ≤ 60 ∧ AdjAt H On N as ∧ H Lv = some (.lst (fl N fun v => .int (p v))) ∧ Pot as p ∧ (∀ e ∈ as, e.1 < N ∧ e.2.1 < N) ∧ (∀ v, v < N → ∃ r, Walk as r st v) ∧
  ∀ (q Bl Ll : Addr) (d : Nat → Int) (H' : Hp), Same H H' → H' q = some (.tup [.ref Bl, .ref Ll]) → H' Bl = some (.lst (fl N fun v => .int (d v))) → Dist as N st d → Q (.ref q) H'
section
variable {P : Program} {w : World} {K : PySem.W.Frag} {mg : Str → Option Value} {base : Heap}
theorem ok_nearest (T : Tx K mg) : Cal P w K mg base CX0 1 "nearest" ["start", "steps", "levels"] [] (spNearest K) := by
  obtain ⟨fd, F⟩ := T.f_nearest
  refine ⟨_, fd, [], F.ok sc_nearest (fun vs H Q E h => ?_) (fun cdv A outer s H vs Q E hr h => ?_), T.g_nearest, F.kp, F.bindsN fun _ _ _ _ _ _ us hl => match us, hl with | [_, _, _], _ => rfl, .nil⟩
  · obtain ⟨st, N, On, Lv, as, p, rfl, _⟩ := h
    rfl
  obtain ⟨st, N, On, Lv, as, p, rfl, hs, hN11, hM, hAdj, eLv, hpot, hN, hreach, kk⟩ := h
  have hu64 := hu64_of hr
  refine ⟨_, PSs.nox ((pss_cons (ps_set (i := 3) sc_nearest.nd rfl (Or.inl rfl) (pe_op op_rep (pe_lst (pa_cons pe_non pa_nil)) (pe_callB (call_lenK K) (by rfl) T.b_len PySem.boot_len (pa_cons (pv 1) pa_nil))))
        (pss_cons (ps_set (i := 4) sc_nearest.nd rfl (Or.inl rfl) (pe_op op_rep (pe_lst (pa_cons (pe_un un_neg pe_int) pa_nil)) (pe_callB (call_lenK K) (by rfl) T.b_len PySem.boot_len (pa_cons (pv 1) pa_nil))))
        (pss_cons (ps_set (i := 5) sc_nearest.nd rfl (Or.inl rfl) (pe_lst (pa_cons (pe_tup (pa_cons pe_int (pa_cons (pv 0) (pa_cons (pe_un un_neg pe_int) pa_nil)))) pa_nil)))
        (pss_cons (ps_while PassesOwn.never (truthK K (pv 5) (fun _ => rfl))
          (pss_cons (ps_asg (pe_callBfun (cr_heappop hu64) (by rfl) T.g_heappop (pa_cons (pv 5) pa_nil)) (pg_tupK K rfl (pgs_cons (pg_name (i := 6) sc_nearest.nd rfl (Or.inl rfl)) (pgs_cons (pg_name (i := 7) sc_nearest.nd rfl (Or.inl rfl)) (pgs_cons (pg_name (i := 8) sc_nearest.nd rfl (Or.inl rfl)) pgs_nil)))))
          (pss_one (ps_if (pt_cmpR op_isN (pe_ix (ix_listK K) (pv 3) (pv 7) (fun _ _ => rfl)) pe_non (nomark _)) (pss_cons (ps_asg (pe_op op_sub (pe_op op_add (pv 6) (pe_ix (ix_listK K) (pv 2) (pv 7) (fun _ _ => rfl))) (pe_ix (ix_listK K) (pv 2) (pv 0) (fun _ _ => rfl))) (pg_sub (pv 3) (pv 7) set_list))
            (pss_cons (ps_asg (pv 8) (pg_sub (pv 4) (pv 7) set_list))
            (pss_one (ps_for PassesOwn.never rfl (pi_listK K (pe_ix (ix_listK K) (pv 1) (pv 7) (fun _ _ => rfl))) (pg_tupK K rfl (pgs_cons (pg_name (i := 9) sc_nearest.nd rfl (Or.inl rfl)) (pgs_cons (pg_name (i := 10) sc_nearest.nd rfl (Or.inl rfl)) (pgs_cons (pg_name (i := 11) sc_nearest.nd rfl (Or.inl rfl)) pgs_nil))))
              (pss_one (ps_if (pt_cmpR op_isN (pe_ix (ix_listK K) (pv 3) (pv 9) (fun _ _ => rfl)) pe_non (nomark _)) (pss_one (ps_expr (pe_callBfun (cr_heappush hu64) (by rfl) T.g_heappush (pa_cons (pv 5) (pa_cons (pe_tup (pa_cons (pe_op op_add (pe_op op_sub (pe_op op_add (pv 6) (pv 10)) (pe_ix (ix_listK K) (pv 2) (pv 9) (fun _ _ => rfl))) (pe_ix (ix_listK K) (pv 2) (pv 7) (fun _ _ => rfl))) (pa_cons (pv 9) (pa_cons (pv 11) pa_nil)))) pa_nil))))) pss_nil)))))) pss_nil))))
        (pss_one (ps_ret (pe_tup (pa_cons (pv 3) (pa_cons (pv 4) pa_nil)))))))))), ?_⟩
  obtain ⟨rs, eOn, lrs, rows⟩ := id hAdj
  have hNM : N * as.length ≤ 660 := Nat.mul_le_mul hN11 hM
  have N0 : ((N : Int)).toNat = N := by omega
  have lenOn : ∀ {H' : Hp}, Same H H' → LenV K (.ref On) H' N := fun k => .inl ⟨_, SqL.of (k _ _ eOn), by rw [List.length_map, lrs]⟩
  refine ⟨(show 1 ≤ sizeLine by decide), fun q0 hq0 => ⟨_, rfl, _, N, rfl, lenOn (same_new hq0), q0, N, _, rfl, rfl, upd_same, by omega, by omega, by rw [N0]; exact sl1000 (by simp; omega), fun Bd hBd => ?_⟩⟩
  have s1 : Same H (upd H q0 (.lst [.non])) := same_new hq0
  have s2 := s1.trans (same_new (o := .lst (List.replicate ((N : Int)).toNat [V.non]).flatten) hBd)
  refine ⟨_, rfl, (show 1 ≤ sizeLine by decide), fun q1 hq1 => ⟨_, rfl, _, N, rfl, lenOn (s2.trans (same_new hq1)), q1, N, _, rfl, rfl, upd_same, by omega, by omega, by rw [N0]; exact sl1000 (by simp; omega), fun La hLa => ?_⟩⟩
  rw [N0, fl_const] at s2 hq1 hLa ⊢
  rw [fl_const] at ⊢
  have fBd : H Bd = none := s1.free hBd
  have s3 := s2.trans (same_new (o := .lst [V.int (-1)]) hq1)
  have fLa : H La = none := s3.free hLa
  have s4 := s3.trans (same_new (o := .lst (fl N fun _ => V.int (-1))) hLa)
  have e4Bd := (same_new (o := .lst (fl N fun _ => V.int (-1))) hLa) _ _ ((same_new (o := .lst [V.int (-1)]) hq1) _ _ (upd_same (H := upd H q0 (.lst [.non])) (a := Bd) (o := .lst (fl N fun _ => V.non))))
  have nBL : Bd ≠ La := fun z => by
    have h1 := (same_new (o := .lst [V.int (-1)]) hq1) _ _ (upd_same (H := upd H q0 (.lst [.non])) (a := Bd) (o := .lst (fl N fun _ => V.non)))
    subst z
    have h2 := h1.symm.trans hLa
    cases h2
  have e4La : (upd (upd (upd (upd H q0 (.lst [.non])) Bd (.lst (fl N fun _ => V.non))) q1 (.lst [V.int (-1)])) La (.lst (fl N fun _ => V.int (-1)))) La = some (.lst (fl N fun _ => V.int (-1))) := upd_same
  generalize upd (upd (upd (upd H q0 (.lst [.non])) Bd (.lst (fl N fun _ => V.non))) q1 (.lst [V.int (-1)])) La (.lst (fl N fun _ => V.int (-1))) = H4 at s4 e4Bd e4La ⊢
  refine ⟨_, rfl, _, rfl, (show 3 ≤ sizeLine by decide), fun t0 ht0 => ⟨(show 1 ≤ sizeLine by decide), fun Wt hWt => ?_⟩⟩
  have st0 := same_new (o := .tup [.int 0, .int (st : Nat), .int (-1)]) ht0
  have fWt : H Wt = none := (s4.trans st0).free hWt
  have sW := same_new (o := .lst [.ref t0]) hWt
  have s5 := (s4.trans st0).trans sW
  have nBW : Bd ≠ Wt := ne_of_none (st0 _ _ e4Bd) hWt
  have nLW : La ≠ Wt := ne_of_none (st0 _ _ e4La) hWt
  refine ⟨fun m σ H2 => ∃ (bd : Nat → Option Int) (la : Nat → Int) (ts : List T3) (xs : List V) (o6 o7 o8 o9 o10 o11 : Option V), σ = [some (.int (st : Nat)), some (.ref On), some (.ref Lv), some (.ref Bd), some (.ref La), some (.ref Wt), o6, o7, o8, o9, o10, o11] ∧ H2 Bd = some (.lst (fl N fun v => oV (bd v))) ∧ H2 La = some (.lst (fl N fun v => .int (la v))) ∧ H2 Wt = some (.lst xs) ∧
    T3s H2 xs ts ∧ HP lt3 ts ∧ DJ as N st p bd ts [] ∧ ts.length + as.length * cnt bd N ≤ as.length * N + 1 ∧ Same H H2 ∧ m = cnt bd N * (as.length + 1) + ts.length, ⟨_, fun _ => none, fun _ => -1, [(0, (st : Int), -1)], [.ref t0], none, none, none, none, none, none, rfl, sW _ _ (st0 _ _ e4Bd), sW _ _ (st0 _ _ e4La), upd_same, .cons ⟨t0, rfl, sW _ _ upd_same⟩ .nil, (fun i i1 x p hx => ?_), DJ.zero hs _, ?_, s5, rfl⟩, ?_⟩
  · have := (List.getElem?_eq_some_iff.mp hx).1
    simp at this
    omega
  · have := cnt_le (bd := fun _ => none) N
    have := Nat.mul_le_mul_left as.length this
    simp only [List.length_singleton]
    omega
  clear s5 sW st0 e4Bd e4La s4 s3 s2 s1 hWt ht0 hLa hBd hq1 hq0
  rintro m σ H2 ⟨bd, la, ts, xs, o6, o7, o8, o9, o10, o11, rfl, eBd, eLa, eWt, r2, hh, dj, hlen, s2, rfl⟩
  have hcnt := cnt_le (bd := bd) N
  have hcm := Nat.mul_le_mul_left as.length hcnt
  have hcomm : as.length * N = N * as.length := Nat.mul_comm _ _
  have hts : ts.length ≤ 661 := by
    have : 0 ≤ as.length * cnt bd N := Nat.zero_le _
    omega
  have lx := pr_len r2
  refine ⟨_, rfl, _, .inl ⟨_, SqL.of eWt, rfl⟩, ite2 (fun hne => ?_) (fun hne => ?_)⟩
  · have h1 : 1 ≤ ts.length := by
      cases ts with
      | nil => cases r2; cases hne
      | cons a r => simp
    refine ⟨fun σ' H' => ∃ m', m' < cnt bd N * (as.length + 1) + ts.length ∧ ∃ (bd : Nat → Option Int) (la : Nat → Int) (ts : List T3) (xs : List V) (o6 o7 o8 o9 o10 o11 : Option V), σ' = [some (.int (st : Nat)), some (.ref On), some (.ref Lv), some (.ref Bd), some (.ref La), some (.ref Wt), o6, o7, o8, o9, o10, o11] ∧ H' Bd = some (.lst (fl N fun v => oV (bd v))) ∧ H' La = some (.lst (fl N fun v => .int (la v))) ∧ H' Wt = some (.lst xs) ∧
      T3s H' xs ts ∧ HP lt3 ts ∧ DJ as N st p bd ts [] ∧ ts.length + as.length * cnt bd N ≤ as.length * N + 1 ∧ Same H H' ∧ m' = cnt bd N * (as.length + 1) + ts.length, fun σ' H' h => h, ?_⟩
    refine ⟨_, rfl, Wt, xs, ts, rfl, eWt, r2, hh, h1, by omega, fun x t xs' ts' hxt tm tle r3 hh3 sub1 sub2 hl3 => ?_⟩
    have tpW := put_tp (u := .lst xs') eWt (fun _ z => by cases z)
    have kW : ∀ c o, H2 c = some o → c ≠ Wt → (upd H2 Wt (.lst xs')) c = some o := fun c o e n => by rw [upd_ne n]; exact e
    have eBd3 := kW _ _ eBd nBW
    have eLa3 := kW _ _ eLa nLW
    have eWt3 : (upd H2 Wt (.lst xs')) Wt = some (.lst xs') := upd_same
    have s3 : Same H (upd H2 Wt (.lst xs')) := fun c o e => kW c o (s2 _ _ e) (ne_of_none e fWt)
    have r3' := t3s_mono r3 tpW
    have hxt' := hxt.mono tpW
    generalize upd H2 Wt (.lst xs') = H3 at eBd3 eLa3 eWt3 s3 r3' hxt' ⊢
    clear kW tpW
    obtain ⟨q, rfl, eq⟩ := hxt'
    obtain ⟨v, ev, hv, t0, _⟩ := dj.ent t tm
    have le : ∀ z ∈ ts, t.1 ≤ z.1 := fun z hz => lt3_fst (tle z hz)
    have eLv3 := s3 _ _ eLv
    refine ⟨q, _, rfl, SqT.of eq, rfl, _, _, rfl, _, _, rfl, _, _, rfl, rfl, ?_⟩
    refine ⟨_, rfl, _, rfl, Bd, _, _, _, rfl, rfl, SqL.of eBd3, fl_at ev hv, rfl, _, rfl, ite2 (fun hb => ?_) (fun hb => ?_)⟩
    · have hb0 : bd v = none := by
        have z : oV (bd v) = .non := of_decide_eq_true hb
        cases e : bd v with
        | none => rfl
        | some i => rw [e] at z; cases z
      -- settled
      refine ⟨_, rfl, _, rfl, _, rfl, Lv, _, _, .int (p v), rfl, rfl, SqL.of eLv3, fl_at ev hv, _, _, rfl, rfl, _, rfl, _, rfl, Lv, _, _, .int (p st), rfl, rfl, SqL.of eLv3, fl_at rfl hs, _, _, rfl, rfl, _, rfl, _, rfl, Bd, _, _, v, rfl, rfl, eBd3, by rw [fl_len]; exact ixn ev hv, ?_⟩
      refine ⟨_, rfl, _, rfl, _, rfl, La, _, _, v, rfl, rfl, by rw [upd_ne nBL.symm]; exact eLa3, by rw [fl_len]; exact ixn ev hv, ?_⟩
      have g1 : (fl N fun v => oV (bd v)).set v (.int (t.1 + p v - p st)) = fl N fun u => oV (fset bd v (some (t.1 + p v - p st)) u) := fl_set (by rw [fset_same]; rfl) fun j hj => by rw [fset_ne hj]
      have g2 : (fl N fun v => V.int (la v)).set v (.int t.2.2) = fl N fun u => V.int (fset la v t.2.2 u) := fl_set (by rw [fset_same]) fun j hj => by rw [fset_ne hj]
      rw [g1, g2]
      have tpB := (put_tp (u := .lst (fl N fun u => oV (fset bd v (some (t.1 + p v - p st)) u))) eBd3 (fun _ z => by cases z))
      have eLa3' : (upd H3 Bd (.lst (fl N fun u => oV (fset bd v (some (t.1 + p v - p st)) u)))) La = some (.lst (fl N fun v => V.int (la v))) := by rw [upd_ne nBL.symm]; exact eLa3
      have tpB2 := tpB.trans (put_tp (u := .lst (fl N fun u => V.int (fset la v t.2.2 u))) eLa3' (fun _ z => by cases z))
      have s4 : Same H (upd (upd H3 Bd (.lst (fl N fun u => oV (fset bd v (some (t.1 + p v - p st)) u)))) La (.lst (fl N fun u => V.int (fset la v t.2.2 u)))) := fun c o e => by
        rw [upd_ne (ne_of_none e fLa), upd_ne (ne_of_none e fBd)]
        exact s3 _ _ e
      have eBd4 : (upd (upd H3 Bd (.lst (fl N fun u => oV (fset bd v (some (t.1 + p v - p st)) u)))) La (.lst (fl N fun u => V.int (fset la v t.2.2 u)))) Bd = some (.lst (fl N fun u => oV (fset bd v (some (t.1 + p v - p st)) u))) := by rw [upd_ne nBL, upd_same]
      have eLa4 : (upd (upd H3 Bd (.lst (fl N fun u => oV (fset bd v (some (t.1 + p v - p st)) u)))) La (.lst (fl N fun u => V.int (fset la v t.2.2 u)))) La = some (.lst (fl N fun u => V.int (fset la v t.2.2 u))) := upd_same
      have eWt4 : (upd (upd H3 Bd (.lst (fl N fun u => oV (fset bd v (some (t.1 + p v - p st)) u)))) La (.lst (fl N fun u => V.int (fset la v t.2.2 u)))) Wt = some (.lst xs') := by rw [upd_ne nLW.symm, upd_ne nBW.symm]; exact eWt3
      have r4 := t3s_mono r3' tpB2
      generalize upd (upd H3 Bd (.lst (fl N fun u => oV (fset bd v (some (t.1 + p v - p st)) u)))) La (.lst (fl N fun u => V.int (fset la v t.2.2 u))) = H4 at s4 eBd4 eLa4 eWt4 r4 ⊢
      clear tpB tpB2 eLa3' g1 g2
      -- its steps
      obtain ⟨r, hrv⟩ : ∃ r, rs[v]? = some r := ⟨_, List.getElem?_eq_getElem (by rw [lrs]; exact hv)⟩
      obtain ⟨ys, es, er, pes, m1, m2, les⟩ := rows v r hrv
      have pes4 : Paired (fun x (e : Arc) => StV H4 x e.2.1 e.2.2) ys es := Paired.mapP pes fun _ _ q => q.mono (same_tp s4)
      obtain ⟨dj4, top⟩ := dj.settle tm ev hb0 le sub1 sub2 (pend := es) m1
      have hz0 : fset bd v (some (t.1 + p v - p st)) v = some (t.1 + p v - p st) := fset_same
      have hc1 := cnt_set (x := t.1 + p v - p st) hb0 N hv
      generalize hbd' : fset bd v (some (t.1 + p v - p st)) = bd' at dj4 top hz0 hc1 eBd4 ⊢
      generalize fset la v t.2.2 = la' at eLa4 ⊢
      refine ⟨_, rfl, _, rfl, On, _, _, .ref r, rfl, rfl, SqL.of (s4 _ _ eOn), at_of ev (by rw [List.getElem?_map, hrv]; rfl), r, rfl, ⟨_, SqL.of (s4 _ _ er)⟩, for_list (K := K) (a := r) (xs := ys) (fun i σ H5 => ∃ (ts5 : List T3) (xs5 : List V) (o9 o10 o11 : Option V), σ = [some (.int (st : Nat)), some (.ref On), some (.ref Lv), some (.ref Bd), some (.ref La), some (.ref Wt), some (.int t.1), some (.int t.2.1), some (.int t.2.2), o9, o10, o11] ∧ H5 Bd = some (.lst (fl N fun v => oV (bd' v))) ∧ H5 La = some (.lst (fl N fun v => .int (la' v))) ∧ H5 Wt = some (.lst xs5) ∧
        T3s H5 xs5 ts5 ∧ HP lt3 ts5 ∧ DJ as N st p bd' ts5 (es.drop i) ∧ ts5.length ≤ ts'.length + i ∧ Same H H5) ?_ (fun i σ H5 _ ⟨_, _, _, _, _, _, _, _, _, _, _, _, _, s5⟩ => SqL.of (s5 _ _ er)) ?_ ?_⟩
      · exact ⟨ts', xs', _, _, _, rfl, eBd4, eLa4, eWt4, r4, hh3, dj4, Nat.le_refl _, s4⟩
      · clear eBd4 eLa4 eWt4 r4 dj4 pes4 s4
        rintro i x σ H5 hi ⟨ts5, xs5, o9, o10, o11, rfl, eBd5, eLa5, eWt5, r5, hh5, dj5, hl5, s5⟩
        obtain ⟨e, he, qq, nn, rfl, hqq⟩ := pr_get pes hi
        have hqq5 := s5 _ _ hqq
        obtain ⟨hea, he1⟩ := m2 e (List.mem_of_getElem? he)
        obtain ⟨_, ho⟩ := hN e hea
        have eLv5 := s5 _ _ eLv
        have hdrop : es.drop i = e :: es.drop (i + 1) := by
          obtain ⟨h1, h2⟩ := List.getElem?_eq_some_iff.mp he
          rw [List.drop_eq_getElem_cons h1, h2]
        rw [hdrop] at dj5
        have hi' := (List.getElem?_eq_some_iff.mp he).1
        have hze : bd' e.1 = some (t.1 + p v - p st) := by rw [he1]; exact hz0
        have hle : t.1 = (t.1 + p v - p st) - p e.1 + p st := by rw [he1]; omega
        refine ⟨qq, _, rfl, SqT.of hqq5, rfl, _, _, rfl, _, _, rfl, _, _, rfl, rfl, ?_⟩
        refine ⟨_, rfl, _, rfl, Bd, _, _, _, rfl, rfl, SqL.of eBd5, fl_at rfl ho, rfl, _, rfl, ite2 (fun hb => ?_) (fun hb => ?_)⟩
        · have hbo : bd' e.2.1 = none := by
            have z : oV (bd' e.2.1) = .non := of_decide_eq_true hb
            cases e' : bd' e.2.1 with
            | none => rfl
            | some i => rw [e'] at z; cases z
          refine ⟨_, rfl, _, rfl, _, rfl, _, _, rfl, rfl, _, rfl, _, rfl, Lv, _, _, .int (p e.2.1), rfl, rfl, SqL.of eLv5, fl_at rfl ho, _, _, rfl, rfl, _, rfl, _, rfl, Lv, _, _, .int (p v), rfl, rfl, SqL.of eLv5, fl_at ev hv, _, _, rfl, rfl, _, rfl, _, rfl, (show 3 ≤ sizeLine by decide), fun pt hpt => ?_⟩
          have spt := same_new (o := .tup [.int (t.1 + e.2.2 - p e.2.1 + p v), .int (e.2.1 : Nat), .int nn]) hpt
          refine ⟨Wt, xs5, ts5, .ref pt, (t.1 + e.2.2 - p e.2.1 + p v, (e.2.1 : Int), nn), rfl, spt _ _ eWt5, t3s_mono r5 (same_tp spt), ⟨pt, rfl, upd_same⟩, hh5, by omega, fun xs6 ts6 r6 hh6 mem6 hl6 => ?_⟩
          have eWt5' := spt _ _ eWt5
          refine ⟨ts6, xs6, _, _, _, rfl, ?_, ?_, upd_same, t3s_mono r6 (put_tp eWt5' fun _ z => by cases z), hh6, dj5.push (t := t) hpot hea ho hze hbo hle top t0 (n := nn) (fun z => by rw [mem6, he1]), by omega, fun c o ec => ?_⟩
          · rw [upd_ne nBW]
            exact spt _ _ eBd5
          · rw [upd_ne nLW]
            exact spt _ _ eLa5
          · rw [upd_ne (ne_of_none ec fWt)]
            exact spt _ _ (s5 _ _ ec)
        · obtain ⟨y, hy⟩ : ∃ y, bd' e.2.1 = some y := by
            cases e' : bd' e.2.1 with
            | none => exact absurd (decide_eq_true (show oV (bd' e.2.1) = .non by rw [e']; rfl)) hb
            | some i => exact ⟨i, rfl⟩
          exact ⟨ts5, xs5, _, _, _, rfl, eBd5, eLa5, eWt5, r5, hh5, dj5.skip (t := t) hpot hea hze hy hle top, by omega, s5⟩
      · rintro σ H5 ⟨ts5, xs5, o9, o10, o11, rfl, eBd5, eLa5, eWt5, r5, hh5, dj5, hl5, s5⟩
        have lys := pr_len pes
        rw [List.drop_of_length_le (by omega)] at dj5
        have hmul : as.length * cnt bd N = as.length * cnt bd' N + as.length := by
          rw [← hc1, Nat.mul_add, Nat.mul_one]
        have hmul2 : cnt bd N * (as.length + 1) = cnt bd' N * (as.length + 1) + (as.length + 1) := by
          rw [← hc1, Nat.add_mul, Nat.one_mul]
        exact ⟨_, by omega, bd', la', ts5, xs5, _, _, _, _, _, _, rfl, eBd5, eLa5, eWt5, r5, hh5, dj5, by omega, s5, rfl⟩
    · have hb0 : bd v ≠ none := fun z => hb (decide_eq_true (show oV (bd v) = .non by rw [z]; rfl))
      exact ⟨_, by omega, bd, la, ts', xs', _, _, _, _, _, _, rfl, eBd3, eLa3, eWt3, r3', hh3, dj.drop ev hb0 sub1 sub2, by omega, s3, rfl⟩
  · -- done
    have h0 : ts = [] := by
      cases ts with
      | nil => rfl
      | cons a r =>
        cases r2
        exact absurd rfl hne
    subst h0
    obtain ⟨all, dd⟩ := dj.dist hN hreach
    refine ⟨_, rfl, _, rfl, (show 2 ≤ sizeLine by decide), fun pr hpr => ?_⟩
    have sp := same_new (o := .tup [.ref Bd, .ref La]) hpr
    refine kk pr Bd La _ _ (s2.trans sp) upd_same ?_ dd
    rw [sp _ _ eBd]
    congr 2
    unfold fl
    refine List.map_congr_left fun v hv => ?_
    obtain ⟨z, hz⟩ := all v (List.mem_range.mp hv)
    rw [hz]
    rfl
end
end Ell
set_option maxHeartbeats 4000000
namespace Ell
open PySem PySem.Spec PyProof.Rows L2
/-! ### the web's methods -/
abbrev cClash (K : PySem.W.Frag) : Addr := He.ga K "Clash"
abbrev cNoSpot (K : PySem.W.Frag) : Addr := He.ga K "NoSpot"
/-- the two errors' classes -/
structure Exs (P : Program) (K : PySem.W.Frag) (mg : Str → Option Value) : Prop where
  cl : ExTxt P K mg s_Clash_init "Clash" "ring" "Clash.__init__" (cClash K) (He.ma K (cClash K) "__init__")
  ns : ExTxt P K mg s_NoSpot_init "NoSpot" "spot" "NoSpot.__init__" (cNoSpot K) (He.ma K (cNoSpot K) "__init__")
/-- a web without a world: what is let out -/
def ClashE (K : PySem.W.Frag) (E : XK) (H : Hp) (W F : Addr) (ks : List (List Key)) (ls : List Lk) (as : List Arc) : Prop :=
  ∀ (H' : Hp) (Br d : Addr) (r : List Lk), FWb W F H H' → WebAt K H' W F ks ls as .broken → LinksT H' Br r → RingOk ls r → H' d = none → E (.ref (cClash K)) (some d) (upd H' d (.xd [("ring", .ref Br)]))
def spPlace (K : PySem.W.Frag) : Sp := fun vs H Q E => ∃ (W F : Addr) (ks : List (List Key)) (ls : List Lk) (as : List Arc) (st : WState) (v : V) (k : List Key), vs = [.ref W, v] ∧ WebAt K H W F ks ls as st ∧ TK H v k ∧ IsSp k ∧
  (∀ j, ks[j]? = some k → Q (.int (j : Nat)) H) ∧ (k ∉ ks → ∀ d, H d = none → E (.ref (cNoSpot K)) (some d) (upd H d (.xd [("spot", v)])))
def spSound (K : PySem.W.Frag) : Sp := fun vs H Q E => ∃ (W F : Addr) (ks : List (List Key)) (ls : List Lk) (as : List Arc) (st : WState), vs = [.ref W] ∧ WebAt K H W F ks ls as st ∧
  (∀ H', FWb W F H H' → WebAt K H' W F ks ls as .sound → Q .non H') ∧ ClashE K E H W F ks ls as
def spBadRing (K : PySem.W.Frag) : Sp := fun vs H Q _ => ∃ (W F : Addr) (ks : List (List Key)) (ls : List Lk) (as : List Arc) (st : WState), vs = [.ref W] ∧ WebAt K H W F ks ls as st ∧
  (∀ H', FWb W F H H' → WebAt K H' W F ks ls as .sound → Q .non H') ∧
  (∀ H' Br r, FWb W F H H' → WebAt K H' W F ks ls as .broken → LinksT H' Br r → RingOk ls r → Q (.ref Br) H')
def spFrom (K : PySem.W.Frag) (rv : List Arc → List Arc) : Sp := fun vs H Q E => ∃ (W F : Addr) (ks : List (List Key)) (ls : List Lk) (as : List Arc) (st : WState) (pl : Nat), vs = [.ref W, .int (pl : Nat)] ∧ WebAt K H W F ks ls as st ∧ pl < ks.length ∧
  (∀ (H' : Hp) (Bl : Addr) (d : Nat → Int), FWb W F H H' → WebAt K H' W F ks ls as .sound → H' Bl = some (.lst (fl ks.length fun i => .int (d i))) → Dist (rv as) ks.length pl d → Q (.ref Bl) H') ∧ ClashE K E H W F ks ls as
section
variable {P : Program} {w : World} {K : PySem.W.Frag} {mg : Str → Option Value} {base : Heap}
theorem ok_place (T : Tx K mg) (TE : Exs P K mg) (c_is_spot : Cal P w K mg base CX0 2 "is_spot" ["thing"] [] spIsSpot) : CalM P w K mg base (L2N.CX P w) 3 (cWeb K) "place_of" ["self", "spot"] [] (spPlace K) := by
  obtain ⟨fd, F⟩ := T.f_Web_place_of
  refine ⟨_, fd, [], F.ok sc_Web_place_of (fun vs H Q E h => ?_) (fun cdv A outer s H vs Q E hr h => ?_), T.c_Web, T.m_Web_place_of, F.bindsN fun _ _ _ _ _ _ us hl => match us, hl with | [_, _], _ => rfl, .nil⟩
  · obtain ⟨W, F, ks, ls, as, st, v, k, rfl, _⟩ := h
    rfl
  obtain ⟨W, F, ks, ls, as, st, v, k, rfl, hW, hv, hk, kk1, kk2⟩ := h
  have hu := hu_of hr
  refine ⟨_, ((pss_cons (ps_if (PW.pt (pw_or (pt_not (pt_val (pcall c_is_spot hr (pa_cons (pv 1) pa_nil)))) (pw_or1 (pt_cmp (pc_dnotin hu (pv 1) (fldK K (pv 0))))))) (pss_one (ps_raise_NoSpot rfl TE.ns hr (L2N.takes_of rfl rfl rfl rfl) (pa_cons (pv 1) pa_nil))) pss_nil)
        (pss_one (ps_ret (pe_dget hu (fldK K (pv 0)) (pv 1) (fun _ _ => rfl)))))), ?_⟩
  obtain ⟨⟨dx, S, D, L, lv, br, on, bk, kvs, eW, hS, eD, nD, hL, hF, nDF, hst⟩, sp, wf, ar, nl, con⟩ := id hW
  obtain ⟨b, rfl, hb, ob⟩ := id hv
  refine ⟨_, rfl, _, k, rfl, hv, hk, true, rfl, ?_⟩
  by_cases hm : k ∈ ks
  · obtain ⟨j, hj⟩ := List.mem_iff_getElem?.mp hm
    have g := num_get eD nD hv hj
    refine ⟨_, rfl, _, rfl, W, _, _, _, _, rfl, eW, T.c_Web, T.n_at, wf_at, D, _, rfl, g, _, rfl, ite2 (fun z => by cases z) (fun _ => ?_)⟩
    exact ⟨_, rfl, W, _, _, _, _, rfl, eW, T.c_Web, T.n_at, wf_at, _, rfl, D, _, rfl, g, kk1 j hj⟩
  · have g : DGet H D (.ref b) none := by
      have := DGet.t eD hb
      rw [nD.no' hm] at this
      exact this
    refine ⟨_, rfl, _, rfl, W, _, _, _, _, rfl, eW, T.c_Web, T.n_at, wf_at, D, _, rfl, g, _, rfl, ite2 (fun _ => ?_) (fun z => absurd rfl z)⟩
    exact ⟨_, rfl, _, rfl, fun d hd => kk2 hm d hd⟩
theorem ok_sound (T : Tx K mg) (TE : Exs P K mg) (c_Web_prepare : CalM P w K mg base CX0 2 (cWeb K) "prepare" ["self"] [] (spPrep K)) : CalM P w K mg base (L2N.CX P w) 3 (cWeb K) "sound" ["self"] [] (spSound K) := by
  obtain ⟨fd, F⟩ := T.f_Web_sound
  refine ⟨_, fd, [], F.ok sc_Web_sound (fun vs H Q E h => ?_) (fun cdv A outer s H vs Q E hr h => ?_), T.c_Web, T.m_Web_sound, F.bindsN fun _ _ _ _ _ _ us hl => match us, hl with | [_], _ => rfl, .nil⟩
  · obtain ⟨W, F, ks, ls, as, st, rfl, _⟩ := h
    rfl
  obtain ⟨W, F, ks, ls, as, st, rfl, hW, kk1, kk2⟩ := h
  refine ⟨_, ((pss_cons (ps_expr (pmeth0 c_Web_prepare hr (pv 0)))
        (pss_one (ps_if (pt_cmpR op_notN (fldK K (pv 0)) pe_non (nomark _)) (pss_one (ps_raise_Clash rfl TE.cl hr (L2N.takes_of rfl rfl rfl rfl) (pa_cons (fldK K (pv 0)) pa_nil))) pss_nil)))), ?_⟩
  obtain ⟨dx0, fs0, eW0, _⟩ := hW.get
  refine ⟨_, rfl, W, _, _, rfl, eW0, ?_, W, F, ks, ls, as, st, rfl, hW, fun st' H' k' w' ne => ?_⟩
  · obtain ⟨dx, S, D, L, lv, br, on, bk, kvs, eW, _⟩ := hW.ex
    rw [eW] at eW0
    cases eW0
    kernel_rfl
  obtain ⟨dx, S, D, L, lv, br, on, bk, kvs, eW, hS, eD, nD, hL, hF, nDF, hst⟩ := w'.ex
  cases st' with
  | new => exact absurd rfl ne
  | sound =>
    obtain ⟨rfl, _⟩ := hst
    exact ⟨_, rfl, W, _, _, _, _, rfl, eW, T.c_Web, T.n_broken, wf_broken, rfl, _, rfl, ite2 (fun z => by cases z) (fun _ => kk1 H' k' w')⟩
  | broken =>
    obtain ⟨rfl, Br, r, rfl, hB, hR⟩ := hst
    exact ⟨_, rfl, W, _, _, _, _, rfl, eW, T.c_Web, T.n_broken, wf_broken, rfl, _, rfl, ite2 (fun _ => ⟨_, rfl, W, _, _, _, _, rfl, eW, T.c_Web, T.n_broken, wf_broken, _, rfl, fun d hd => kk2 H' Br d r k' w' hB hR hd⟩) (fun z => absurd rfl z)⟩
theorem ok_bad_ring (T : Tx K mg) (c_Web_prepare : CalM P w K mg base CX0 2 (cWeb K) "prepare" ["self"] [] (spPrep K)) : CalM P w K mg base CX0 3 (cWeb K) "bad_ring" ["self"] [] (spBadRing K) := by
  obtain ⟨fd, F⟩ := T.f_Web_bad_ring
  refine ⟨_, fd, [], F.ok sc_Web_bad_ring (fun vs H Q E h => ?_) (fun cdv A outer s H vs Q E hr h => ?_), T.c_Web, T.m_Web_bad_ring, F.bindsN fun _ _ _ _ _ _ us hl => match us, hl with | [_], _ => rfl, .nil⟩
  · obtain ⟨W, F, ks, ls, as, st, rfl, _⟩ := h
    rfl
  obtain ⟨W, F, ks, ls, as, st, rfl, hW, kk1, kk2⟩ := h
  refine ⟨_, PSs.nox ((pss_cons (ps_expr (pmeth0 c_Web_prepare hr (pv 0)))
        (pss_one (ps_ret (fldK K (pv 0)))))), ?_⟩
  obtain ⟨dx0, fs0, eW0, _⟩ := hW.get
  refine ⟨_, rfl, W, _, _, rfl, eW0, ?_, W, F, ks, ls, as, st, rfl, hW, fun st' H' k' w' ne => ?_⟩
  · obtain ⟨dx, S, D, L, lv, br, on, bk, kvs, eW, _⟩ := hW.ex
    rw [eW] at eW0
    cases eW0
    kernel_rfl
  obtain ⟨dx, S, D, L, lv, br, on, bk, kvs, eW, hS, eD, nD, hL, hF, nDF, hst⟩ := w'.ex
  cases st' with
  | new => exact absurd rfl ne
  | sound =>
    obtain ⟨rfl, _⟩ := hst
    exact ⟨_, rfl, W, _, _, _, _, rfl, eW, T.c_Web, T.n_broken, wf_broken, kk1 H' k' w'⟩
  | broken =>
    obtain ⟨rfl, Br, r, rfl, hB, hR⟩ := hst
    exact ⟨_, rfl, W, _, _, _, _, rfl, eW, T.c_Web, T.n_broken, wf_broken, kk2 H' Br r k' w' hB hR⟩
end
end Ell
set_option maxHeartbeats 4000000
namespace Ell
open PySem PySem.Spec PyProof.Rows L2
theorem from_inj {a b : Nat} (h : fromK a = fromK b) : a = b := by
  injection h with _ h
  injection h with h
  injection h with h
  omega
theorem to_inj {a b : Nat} (h : toK a = toK b) : a = b := by
  injection h with _ h
  injection h with h
  injection h with h
  omega
theorem str_ne : ("from" : Str) ≠ "to" := by decide +kernel
theorem from_to (a b : Nat) : fromK a ≠ toK b := fun h => by
  injection h with h
  injection h with h
  exact str_ne h
theorem found_len {kvs : List (List Key × V)} {N : Nat} (nd : (kvs.map (·.1)).Nodup) (m : ∀ k ∈ kvs.map (·.1), ∃ p, p < N ∧ (k = fromK p ∨ k = toK p)) : kvs.length ≤ 2 * N := by
  have := sub_len nd (m := (List.range N).map fromK ++ (List.range N).map toK) fun k hk => by
    obtain ⟨p, hp, e⟩ := m k hk
    rcases e with rfl | rfl
    · exact List.mem_append_left _ (List.mem_map.mpr ⟨p, List.mem_range.mpr hp, rfl⟩)
    · exact List.mem_append_right _ (List.mem_map.mpr ⟨p, List.mem_range.mpr hp, rfl⟩)
  simp at this
  omega
/-- a method's name is no field's -/
def webNm (m : Str) : Bool := ["spots", "at", "links", "levels", "broken", "onward", "backward", "found"].all fun f => !(m == (f : Str))
theorem WebAt.meth {K : PySem.W.Frag} {H : Hp} {W F : Addr} {ks : List (List Key)} {ls : List Lk} {as : List Arc} {st : WState} (h : WebAt K H W F ks ls as st) (m : Str) (hm : webNm m = true) : ∃ dx fs, H W = some (.ins (cWeb K) dx fs) ∧ fs.lookup m = none := by
  obtain ⟨dx, S, D, L, lv, br, on, bk, kvs, e1, _⟩ := h.ex
  refine ⟨dx, _, e1, ?_⟩
  unfold webNm at hm
  simp only [List.all_cons, List.all_nil, Bool.and_true, Bool.and_eq_true, Bool.not_eq_true'] at hm
  obtain ⟨h1, h2, h3, h4, h5, h6, h7, h8⟩ := hm
  unfold webF
  simp only [List.lookup, h1, h2, h3, h4, h5, h6, h7, h8]
theorem WebAt.bnd {K : PySem.W.Frag} {H : Hp} {W F : Addr} {ks : List (List Key)} {ls : List Lk} {as : List Arc} {st : WState} (h : WebAt K H W F ks ls as st) : ∀ e ∈ as, e.1 < ks.length ∧ e.2.1 < ks.length := fun e he => by
  obtain ⟨l, hm, o⟩ := pr_mem2 h.ar he
  exact ⟨(List.getElem?_eq_some_iff.mp o.1).1, (List.getElem?_eq_some_iff.mp o.2.1).1⟩
theorem WebAt.found_put {K : PySem.W.Frag} {H : Hp} {W F : Addr} {ks : List (List Key)} {ls : List Lk} {as : List Arc} {st : WState} {fk : List (List Key × V)} {k : List Key} {q Bl Ll : Addr} {d : Nat → Int} (h : WebAt K H W F ks ls as st) (eF : H F = some (.dT fk)) (hno : valV fk k = none)
    (hk : (∃ p, p < ks.length ∧ k = fromK p) ∨ ∃ p, p < ks.length ∧ k = toK p) (eq : H q = some (.tup [.ref Bl, .ref Ll])) (eBl : H Bl = some (.lst (fl ks.length fun i => .int (d i))))
    (hd : (∃ p, p < ks.length ∧ k = fromK p ∧ Dist as ks.length p d) ∨ ∃ p, p < ks.length ∧ k = toK p ∧ Dist (rev as) ks.length p d) :
    WebAt K (upd H F (.dT (putK fk k (.ref q)))) W F ks ls as st ∧ FWb W F H (upd H F (.dT (putK fk k (.ref q)))) := by
  obtain ⟨⟨dx, S, D, L, lv, br, on, bk, kvs, eW, hS, eD, nD, hL, ⟨fk', eF', nF, mF, vF⟩, nDF, hst⟩, sp, wf, ar, nl, con⟩ := h
  rw [eF] at eF'
  cases eF'
  have sW : ∀ c o, H c = some o → c ≠ F → (upd H F (.dT (putK fk k (.ref q)))) c = some o := fun c o ec n => by rw [upd_ne n]; exact ec
  have lt : ∀ c o, H c = some o → LT o → NDK o → (upd H F (.dT (putK fk k (.ref q)))) c = some o := fun c o ec n _ => sW c o ec fun z => by
    subst z
    rw [eF] at ec
    cases ec
    exact n
  have tp := TP.of lt
  refine ⟨⟨⟨dx, S, D, L, lv, br, on, bk, kvs, sW _ _ eW (ne_of eW eF fun z => by cases z), hS.mono tp, sW _ _ eD nDF, nD, hL.mono tp, ⟨_, upd_same, nd_putK (.ref q) nF hno, fun x hx => ?_, fun x v hv => ?_⟩, nDF, ?_⟩, sp, wf, ar, nl, con⟩, fun c o ec n => sW c o ec n.2, upd_fr⟩
  · rw [putK_new _ hno, List.map_append] at hx
    rcases List.mem_append.mp hx with m | m
    · exact mF x m
    · cases List.mem_singleton.mp m
      rcases hk with ⟨p, hp, e⟩ | ⟨p, hp, e⟩
      · exact ⟨p, hp, .inl e⟩
      · exact ⟨p, hp, .inr e⟩
  · rw [valV_put] at hv
    split at hv
    · rename_i e
      cases hv
      subst e
      exact ⟨q, Bl, Ll, d, rfl, tp _ _ eq, lt _ _ eBl True.intro True.intro, hd⟩
    · obtain ⟨q', Bl', Ll', d', h1, h2, h3, h4⟩ := vF x v hv
      exact ⟨q', Bl', Ll', d', h1, tp _ _ h2, lt _ _ h3 True.intro True.intro, h4⟩
  · cases st with
    | new => exact hst
    | sound =>
      obtain ⟨h0, Lv, On, Bk, p, h1, h2, h3, h4, h5, h6, h7⟩ := hst
      exact ⟨h0, Lv, On, Bk, p, h1, h2, h3, lt _ _ h4 True.intro True.intro, h5, h6.keep lt, h7.keep lt⟩
    | broken =>
      obtain ⟨h0, Br, r, h1, h2, h3⟩ := hst
      exact ⟨h0, Br, r, h1, h2.mono tp, h3⟩
section
variable {P : Program} {w : World} {K : PySem.W.Frag} {mg : Str → Option Value} {base : Heap}
theorem ok_from_from (T : Tx K mg) (c_Web_sound : CalM P w K mg base (L2N.CX P w) 3 (cWeb K) "sound" ["self"] [] (spSound K)) (c_nearest : Cal P w K mg base CX0 1 "nearest" ["start", "steps", "levels"] [] (spNearest K)) : CalM P w K mg base (L2N.CX P w) 4 (cWeb K) "from_spot" ["self", "place"] [] (spFrom K id) := by
  obtain ⟨fd, F⟩ := T.f_Web_from_spot
  refine ⟨_, fd, [], F.ok sc_Web_from_spot (fun vs H Q E h => ?_) (fun cdv A outer s H vs Q E hr h => ?_), T.c_Web, T.m_Web_from_spot, F.bindsN fun _ _ _ _ _ _ us hl => match us, hl with | [_, _], _ => rfl, .nil⟩
  · obtain ⟨W, F, ks, ls, as, st, pl, rfl, _⟩ := h
    rfl
  obtain ⟨W, F, ks, ls, as, st, pl, rfl, hW, hpl, kk1, kk2⟩ := h
  have hu := hu_of hr
  refine ⟨_, ((pss_cons (ps_expr (pmeth0E c_Web_sound hr (L2N.passes_call (L2N.takes_of rfl rfl rfl rfl) (fun _ _ _ _ h => h)) (pv 0)))
        (Evl.pss_cut (ps_if (pt_cmp (pc_dnotin hu (pe_tup (pa_cons pe_str (pa_cons (pv 1) pa_nil))) (fldK K (pv 0)))) (pss_one (ps_dput hu (fldK K (pv 0)) (pe_tup (pa_cons pe_str (pa_cons (pv 1) pa_nil))) (pcall c_nearest hr (pa_cons (pv 1) (pa_cons (fldK K (pv 0)) (pa_cons (fldK K (pv 0)) pa_nil)))) rfl)) pss_nil)
        (pss_one (ps_ret (pe_ix (ix_tupK K) (pe_dget hu (fldK K (pv 0)) (pe_tup (pa_cons pe_str (pa_cons (pv 1) pa_nil))) (fun _ _ => rfl)) pe_int (fun _ _ => rfl))))))), ?_⟩
  obtain ⟨dx0, fs0, eW0, lk0⟩ := hW.meth "sound" (by decide)
  refine ⟨_, rfl, W, _, _, rfl, eW0, lk0, W, F, ks, ls, as, st, rfl, hW, fun H1 k1 w1 => ?_, kk2⟩
  have key : ∀ {H' : Hp} {t : Addr}, TK (upd H' t (.tup [.str "from", .int (pl : Nat)])) (.ref t) (fromK pl) := fun {H' t} => tk_new (fromK pl) (kok_s (by decide +kernel) rfl)
  -- found
  refine ⟨fun σ' H2 => σ' = [some (.ref W), some (.int (pl : Nat))] ∧ FWb W F H H2 ∧ WebAt K H2 W F ks ls as .sound ∧ ∃ (kvs : List (List Key × V)) (v : V), H2 F = some (.dT kvs) ∧ valV kvs (fromK pl) = some v, ?_, ?_⟩
  · obtain ⟨⟨dx, S, D, L, lv, br, on, bk, kvs, eW, hS, eD, nD, hL, ⟨fk, eF, nF, mF, vF⟩, nDF, rfl, Lv, On, Bk, p, rfl, rfl, rfl, eLv, hp, aO, aB⟩, sp, wf, ar, nl, con⟩ := id w1
    refine ⟨_, rfl, (show 2 ≤ sizeLine by decide), fun t1 ht1 => ?_⟩
    have st1 := same_new (o := .tup [.str "from", .int (pl : Nat)]) ht1
    have g1 : DGet (upd H1 t1 (.tup [.str "from", .int (pl : Nat)])) F (.ref t1) (valV fk (fromK pl)) := DGet.t (k := fromK pl) (st1 _ _ eF) upd_same
    refine ⟨_, rfl, W, _, _, _, _, rfl, st1 _ _ eW, T.c_Web, T.n_found, wf_found, F, _, rfl, g1, _, rfl, ?_⟩
    refine ite2 (fun hn => ?_) (fun hn => ?_)
    · have hno : valV fk (fromK pl) = none := by
        cases e : valV fk (fromK pl) with
        | none => rfl
        | some v => rw [e] at hn; cases hn
      have w2 := w1.same st1
      have s2 := st1
      have eLv2 := st1 _ _ eLv
      refine ⟨_, rfl, _, rfl, W, _, _, _, _, rfl, s2 _ _ eW, T.c_Web, T.n_onward, wf_onward, _, rfl, W, _, _, _, _, rfl, s2 _ _ eW, T.c_Web, T.n_levels, wf_levels, pl, ks.length, On, Lv, as, p, rfl, hpl, sp.n, (by have := pr_len ar; omega), aO.keep fun c o e _ _ => s2 _ _ e, eLv2, hp, w1.bnd, fun v hv => con pl v hpl hv, fun q Bl Ll d H3 s3 eq eBl dd => ?_⟩
      have s03 : Same H1 H3 := s2.trans s3
      refine ⟨_, rfl, W, _, _, _, _, rfl, s03 _ _ eW, T.c_Web, T.n_found, wf_found, _, rfl, (show 2 ≤ sizeLine by decide), fun t2 ht2 => ?_⟩
      have st2 := same_new (o := .tup [.str "from", .int (pl : Nat)]) ht2
      have s04 := s03.trans st2
      have w4 := w1.same s04
      obtain ⟨w5, k5⟩ := w4.found_put (s04 _ _ eF) hno (.inl ⟨pl, hpl, rfl⟩) (st2 _ _ eq) (st2 _ _ eBl) (.inl ⟨pl, hpl, rfl, dd⟩)
      refine ⟨F, _, rfl, DPut.t (k := fromK pl) (s04 _ _ eF) upd_same (small1000 (by have := found_len nF mF; have := sp.n; omega)), rfl, (k1.trans (Pres.same s04)).trans k5, w5, _, .ref q, upd_same, by rw [valV_put, if_pos rfl]⟩
    · obtain ⟨v, hv⟩ : ∃ v, valV fk (fromK pl) = some v := by
        cases e : valV fk (fromK pl) with
        | none => rw [e] at hn; exact absurd rfl hn
        | some v => exact ⟨v, rfl⟩
      exact ⟨rfl, k1.trans (Pres.same st1), w1.same st1, _, _, st1 _ _ eF, hv⟩
  rintro σ' H2 ⟨rfl, k2, w2, kvs, v, eF, hv⟩
  obtain ⟨⟨dx, S, D, L, lv, br, on, bk, kvs', eW, hS, eD, nD, hL, ⟨fk, eF', nF, mF, vF⟩, nDF, hst⟩, sp, wf, ar, nl, con⟩ := id w2
  rw [eF] at eF'
  cases eF'
  obtain ⟨q, Bl, Ll, d, rfl, eq, eBl, hd⟩ := vF _ _ hv
  refine ⟨_, rfl, W, _, _, _, _, rfl, eW, T.c_Web, T.n_found, wf_found, _, rfl, (show 2 ≤ sizeLine by decide), fun t3 ht3 => ?_⟩
  have st3 := same_new (o := .tup [.str "from", .int (pl : Nat)]) ht3
  have g3 : DGet (upd H2 t3 (.tup [.str "from", .int (pl : Nat)])) F (.ref t3) (some (.ref q)) := by
    have := DGet.t (k := fromK pl) (st3 _ _ eF) (upd_same (H := H2) (a := t3) (o := .tup [.str "from", .int (pl : Nat)]))
    rw [hv] at this
    exact this
  refine ⟨F, _, rfl, g3, q, _, _, .ref Bl, rfl, rfl, SqT.of (st3 _ _ eq), atI_nat (j := 0) rfl, kk1 _ Bl d (k2.trans (Pres.same st3)) (w2.same st3) (st3 _ _ eBl) ?_⟩
  rcases hd with ⟨p', hp', e, dd⟩ | ⟨p', hp', e, dd⟩
  · have ep : p' = pl := by
      have := from_inj e
      omega
    rw [← ep]
    exact dd
  · exact absurd e (from_to _ _)
theorem ok_from_to (T : Tx K mg) (c_Web_sound : CalM P w K mg base (L2N.CX P w) 3 (cWeb K) "sound" ["self"] [] (spSound K)) (c_nearest : Cal P w K mg base CX0 1 "nearest" ["start", "steps", "levels"] [] (spNearest K)) : CalM P w K mg base (L2N.CX P w) 4 (cWeb K) "to_spot" ["self", "place"] [] (spFrom K rev) := by
  obtain ⟨fd, F⟩ := T.f_Web_to_spot
  refine ⟨_, fd, [], F.ok sc_Web_to_spot (fun vs H Q E h => ?_) (fun cdv A outer s H vs Q E hr h => ?_), T.c_Web, T.m_Web_to_spot, F.bindsN fun _ _ _ _ _ _ us hl => match us, hl with | [_, _], _ => rfl, .nil⟩
  · obtain ⟨W, F, ks, ls, as, st, pl, rfl, _⟩ := h
    rfl
  obtain ⟨W, F, ks, ls, as, st, pl, rfl, hW, hpl, kk1, kk2⟩ := h
  have hu := hu_of hr
  refine ⟨_, ((pss_cons (ps_expr (pmeth0E c_Web_sound hr (L2N.passes_call (L2N.takes_of rfl rfl rfl rfl) (fun _ _ _ _ h => h)) (pv 0)))
        (Evl.pss_cut (ps_if (pt_cmp (pc_dnotin hu (pe_tup (pa_cons pe_str (pa_cons (pv 1) pa_nil))) (fldK K (pv 0)))) (pss_cons (ps_setLc (i := 2) (own := [("level", 3)]) (g := gName 3) (tt := tYes) rfl sc_Web_to_spot.nd rfl rfl (sw_true rfl rfl rfl (by decide +kernel)) (pi_listK K (fldK K (pv 0))) (blkOk_by (N := N_Web_to_spot) (sc := defScope s_Web_to_spot) (by decide +kernel)) (fun _ _ _ _ _ => (pg_name (i := 3) sc_Web_to_spot.nd rfl (Or.inl rfl))) (fun _ _ _ _ _ => pts_nil) (fun _ _ _ _ _ => (pe_un un_neg (pv 3))))
          (pss_one (ps_dput hu (fldK K (pv 0)) (pe_tup (pa_cons pe_str (pa_cons (pv 1) pa_nil))) (pcall c_nearest hr (pa_cons (pv 1) (pa_cons (fldK K (pv 0)) (pa_cons (pv 2) pa_nil)))) rfl))) pss_nil)
        (pss_one (ps_ret (pe_ix (ix_tupK K) (pe_dget hu (fldK K (pv 0)) (pe_tup (pa_cons pe_str (pa_cons (pv 1) pa_nil))) (fun _ _ => rfl)) pe_int (fun _ _ => rfl))))))), ?_⟩
  obtain ⟨dx0, fs0, eW0, lk0⟩ := hW.meth "sound" (by decide)
  refine ⟨_, rfl, W, _, _, rfl, eW0, lk0, W, F, ks, ls, as, st, rfl, hW, fun H1 k1 w1 => ?_, kk2⟩
  have key : ∀ {H' : Hp} {t : Addr}, TK (upd H' t (.tup [.str "to", .int (pl : Nat)])) (.ref t) (toK pl) := fun {H' t} => tk_new (toK pl) (kok_s (by decide +kernel) rfl)
  -- found
  refine ⟨fun σ' H2 => (∃ o2 : Option V, σ' = [some (.ref W), some (.int (pl : Nat)), o2, none]) ∧ FWb W F H H2 ∧ WebAt K H2 W F ks ls as .sound ∧ ∃ (kvs : List (List Key × V)) (v : V), H2 F = some (.dT kvs) ∧ valV kvs (toK pl) = some v, ?_, ?_⟩
  · obtain ⟨⟨dx, S, D, L, lv, br, on, bk, kvs, eW, hS, eD, nD, hL, ⟨fk, eF, nF, mF, vF⟩, nDF, rfl, Lv, On, Bk, p, rfl, rfl, rfl, eLv, hp, aO, aB⟩, sp, wf, ar, nl, con⟩ := id w1
    refine ⟨_, rfl, (show 2 ≤ sizeLine by decide), fun t1 ht1 => ?_⟩
    have st1 := same_new (o := .tup [.str "to", .int (pl : Nat)]) ht1
    have g1 : DGet (upd H1 t1 (.tup [.str "to", .int (pl : Nat)])) F (.ref t1) (valV fk (toK pl)) := DGet.t (k := toK pl) (st1 _ _ eF) upd_same
    refine ⟨_, rfl, W, _, _, _, _, rfl, st1 _ _ eW, T.c_Web, T.n_found, wf_found, F, _, rfl, g1, _, rfl, ?_⟩
    refine ite2 (fun hn => ?_) (fun hn => ?_)
    · have hno : valV fk (toK pl) = none := by
        cases e : valV fk (toK pl) with
        | none => rfl
        | some v => rw [e] at hn; cases hn
      have w2 := w1.same st1
      refine ⟨_, rfl, W, _, _, _, _, rfl, st1 _ _ eW, T.c_Web, T.n_levels, wf_levels, Lv, rfl, ⟨_, SqL.of (st1 _ _ eLv)⟩, fun L2 hL2 => lc_list (K := K) (a := Lv) (xs := fl ks.length fun v => V.int (p v)) (fun i H6 => H6 L2 = some (.lst (fl i fun v => V.int (-(p v)))) ∧ Same (upd H1 t1 (.tup [.str "to", .int (pl : Nat)])) H6) ⟨upd_same, same_new hL2⟩ (fun i H6 _ ⟨_, k⟩ => SqL.of (k _ _ (st1 _ _ eLv))) ?_ ?_⟩
      · rintro i x H6 hi ⟨e6, k6⟩
        have hi' := (List.getElem?_eq_some_iff.mp hi).1
        rw [fl_len] at hi'
        rw [fl_get hi'] at hi
        cases hi
        refine ⟨rfl, _, rfl, _, rfl, _, e6, by rw [fl_len]; have := sp.n; exact small1000 (by omega), by rw [upd_same, fl_succ], fun c o e => ?_⟩
        rw [upd_ne (ne_of_none e hL2)]
        exact k6 _ _ e
      rintro H6 ⟨e6, k6⟩
      rw [fl_len] at e6
      have s2 := st1.trans k6
      have eLv2 := e6
      refine ⟨_, rfl, _, rfl, W, _, _, _, _, rfl, s2 _ _ eW, T.c_Web, T.n_backward, wf_backward, _, rfl, pl, ks.length, Bk, L2, rev as, fun v => -(p v), rfl, hpl, sp.n, (by have := pr_len ar; rw [List.length_map]; omega), aB.keep fun c o e _ _ => s2 _ _ e, eLv2, pot_rev hp, (fun e he => by obtain ⟨g, hg, rfl⟩ := List.mem_map.mp he; have := w1.bnd g hg; exact ⟨this.2, this.1⟩), fun v hv => (by obtain ⟨r, w⟩ := con v pl hv hpl; obtain ⟨s, ws, _⟩ := walk_rev w; exact ⟨s, ws⟩), fun q Bl Ll d H3 s3 eq eBl dd => ?_⟩
      have s03 : Same H1 H3 := s2.trans s3
      refine ⟨_, rfl, W, _, _, _, _, rfl, s03 _ _ eW, T.c_Web, T.n_found, wf_found, _, rfl, (show 2 ≤ sizeLine by decide), fun t2 ht2 => ?_⟩
      have st2 := same_new (o := .tup [.str "to", .int (pl : Nat)]) ht2
      have s04 := s03.trans st2
      have w4 := w1.same s04
      obtain ⟨w5, k5⟩ := w4.found_put (s04 _ _ eF) hno (.inr ⟨pl, hpl, rfl⟩) (st2 _ _ eq) (st2 _ _ eBl) (.inr ⟨pl, hpl, rfl, dd⟩)
      refine ⟨F, _, rfl, DPut.t (k := toK pl) (s04 _ _ eF) upd_same (small1000 (by have := found_len nF mF; have := sp.n; omega)), ⟨_, rfl⟩, (k1.trans (Pres.same s04)).trans k5, w5, _, .ref q, upd_same, by rw [valV_put, if_pos rfl]⟩
    · obtain ⟨v, hv⟩ : ∃ v, valV fk (toK pl) = some v := by
        cases e : valV fk (toK pl) with
        | none => rw [e] at hn; exact absurd rfl hn
        | some v => exact ⟨v, rfl⟩
      exact ⟨⟨_, rfl⟩, k1.trans (Pres.same st1), w1.same st1, _, _, st1 _ _ eF, hv⟩
  rintro σ' H2 ⟨⟨o2, rfl⟩, k2, w2, kvs, v, eF, hv⟩
  obtain ⟨⟨dx, S, D, L, lv, br, on, bk, kvs', eW, hS, eD, nD, hL, ⟨fk, eF', nF, mF, vF⟩, nDF, hst⟩, sp, wf, ar, nl, con⟩ := id w2
  rw [eF] at eF'
  cases eF'
  obtain ⟨q, Bl, Ll, d, rfl, eq, eBl, hd⟩ := vF _ _ hv
  refine ⟨_, rfl, W, _, _, _, _, rfl, eW, T.c_Web, T.n_found, wf_found, _, rfl, (show 2 ≤ sizeLine by decide), fun t3 ht3 => ?_⟩
  have st3 := same_new (o := .tup [.str "to", .int (pl : Nat)]) ht3
  have g3 : DGet (upd H2 t3 (.tup [.str "to", .int (pl : Nat)])) F (.ref t3) (some (.ref q)) := by
    have := DGet.t (k := toK pl) (st3 _ _ eF) (upd_same (H := H2) (a := t3) (o := .tup [.str "to", .int (pl : Nat)]))
    rw [hv] at this
    exact this
  refine ⟨F, _, rfl, g3, q, _, _, .ref Bl, rfl, rfl, SqT.of (st3 _ _ eq), atI_nat (j := 0) rfl, kk1 _ Bl d (k2.trans (Pres.same st3)) (w2.same st3) (st3 _ _ eBl) ?_⟩
  rcases hd with ⟨p', hp', e, dd⟩ | ⟨p', hp', e, dd⟩
  · exact absurd e.symm (from_to _ _)
  · have ep : p' = pl := by
      have := to_inj e
      omega
    rw [← ep]
    exact dd
end
end Ell
set_option maxHeartbeats 4000000
namespace Ell
open PySem PySem.Spec PyProof.Rows L2
/-! ### worlds -/
abbrev WV := Nat → Int × Int
def Low (p : Int × Int) : Prop := 1 ≤ p.2 ∧ p.2 ≤ 2 ∧ Nat.gcd p.1.natAbs p.2.natAbs = 1
structure TabW (H : Hp) (kvs : List (List Key × V)) (ks : List (List Key)) (wv : WV) (n : Nat) : Prop where
  keys : kvs.map (·.1) = ks.take n
  val : ∀ j k, j < n → ks[j]? = some k → ∃ v, valV kvs k = some v ∧ RV H v (wv j).1 (wv j).2
/-- a pair (spot, ratio) -/
def PV (H : Hp) (v : V) (k : List Key) (r : Int × Int) : Prop := ∃ p x y, v = .ref p ∧ H p = some (.tup [x, y]) ∧ TK H x k ∧ RV H y r.1 r.2
theorem PV.mono {H H' : Hp} {v : V} {k : List Key} {r : Int × Int} (h : PV H v k r) (t : TP H H') : PV H' v k r := by
  obtain ⟨p, x, y, e, q, h1, h2⟩ := h
  exact ⟨p, x, y, e, t _ _ q, h1.mono t, h2.mono t⟩
def PVs (H : Hp) (xs : List V) (ks : List (List Key)) (wv : WV) : Prop := ∀ (i : Nat) x, xs[i]? = some x → ∃ k, ks[i]? = some k ∧ PV H x k (wv i)
theorem TabW.mono {H H' : Hp} {kvs : List (List Key × V)} {ks : List (List Key)} {wv : WV} {n : Nat} (h : TabW H kvs ks wv n) (t : TP H H') : TabW H' kvs ks wv n :=
  ⟨h.keys, fun j k hj hk => by
    obtain ⟨v, e, r⟩ := h.val j k hj hk
    exact ⟨v, e, r.mono t⟩⟩
def WorldAt (K : PySem.W.Frag) (H : Hp) (O : Addr) (ks : List (List Key)) (wv : WV) : Prop := ∃ (dx Tb : Addr) (kvs : List (List Key × V)), H O = some (.ins (cWorld K) dx [("table", .ref Tb)]) ∧ H Tb = some (.dT kvs) ∧ TabW H kvs ks wv ks.length
theorem WorldAt.same {K : PySem.W.Frag} {H H' : Hp} {O : Addr} {ks : List (List Key)} {wv : WV} (h : WorldAt K H O ks wv) (k : Same H H') : WorldAt K H' O ks wv := by
  obtain ⟨dx, Tb, kvs, e1, e2, t⟩ := h
  exact ⟨dx, Tb, kvs, k _ _ e1, k _ _ e2, t.mono (same_tp k)⟩
theorem WorldAt.fb {K : PySem.W.Frag} {H H' : Hp} {O : Addr} {ks : List (List Key)} {wv : WV} (h : WorldAt K H O ks wv) (k : FB H H') : WorldAt K H' O ks wv := by
  obtain ⟨dx, Tb, kvs, e1, e2, t⟩ := h
  exact ⟨dx, Tb, kvs, fb_free k e1 True.intro, fb_free k e2 True.intro, t.mono (fb_tp k)⟩
def Lows (ks : List (List Key)) (wv : WV) : Prop := ∀ j, j < ks.length → Low (wv j)
def spTable : Sp := fun vs H Q _ => ∃ (Pl : Addr) (xs : List V) (ks : List (List Key)) (wv : WV), vs = [.ref Pl] ∧ H Pl = some (.lst xs) ∧ xs.length = ks.length ∧ Sps ks ∧ PVs H xs ks wv ∧ Lows ks wv ∧ wv 0 = (0, 1) ∧
  ∀ (Tb : Addr) (kvs : List (List Key × V)) (H' : Hp), Same H H' → H Tb = none → H' Tb = some (.dT kvs) → TabW H' kvs ks wv ks.length → Q (.ref Tb) H'
def spWorldInit (K : PySem.W.Frag) : Sp := fun vs H Q _ => ∃ (O dx Pl : Addr) (xs : List V) (ks : List (List Key)) (wv : WV), vs = [.ref O, .ref Pl] ∧ H O = some (.ins (cWorld K) dx []) ∧ H Pl = some (.lst xs) ∧ xs.length = ks.length ∧ Sps ks ∧ PVs H xs ks wv ∧ Lows ks wv ∧ wv 0 = (0, 1) ∧
  ∀ H', Pres (fun c _ => c ≠ O) H H' → WorldAt K H' O ks wv → Q .non H'
def spWGet (K : PySem.W.Frag) : Sp := fun vs H Q _ => ∃ (O : Addr) (v : V) (ks : List (List Key)) (wv : WV) (k : List Key) (j : Nat), vs = [.ref O, v] ∧ WorldAt K H O ks wv ∧ TK H v k ∧ IsSp k ∧ ks[j]? = some k ∧ ∀ y, RV H y (wv j).1 (wv j).2 → Q y H
def spWIn (K : PySem.W.Frag) : Sp := fun vs H Q _ => ∃ (O : Addr) (v : V) (ks : List (List Key)) (wv : WV) (k : List Key), vs = [.ref O, v] ∧ WorldAt K H O ks wv ∧ TK H v k ∧ IsSp k ∧ k ∈ ks ∧ Q (.bl true) H
def spWLen (K : PySem.W.Frag) : Sp := fun vs H Q _ => ∃ (O : Addr) (ks : List (List Key)) (wv : WV), vs = [.ref O] ∧ WorldAt K H O ks wv ∧ Q (.int (ks.length : Nat)) H
theorem wt_table {y : V} : putF ("table" : Str) y [] = ([(("table" : Str), y)] : List (Str × V)) := rfl
theorem wl_table {y : V} : List.lookup ("table" : Str) [("table", y)] = some y := by kernel_rfl
def pD (k : List Key) (r : Int × Int) : PyData := .tuple [kD k, kD [.inl r.1, .inl r.2]]
theorem pD_eqv (k l : List Key) (r s : Int × Int) : PyData.eqv (pD k r) (pD l s) = (decide (k = l) && (decide (([.inl r.1, .inl r.2] : List Key) = [.inl s.1, .inl s.2]) && true)) := by
  simp only [pD, PyData.eqv, PyData.eqvAll]
  rw [← kD_eqv k l, ← kD_eqv]
theorem pD_sh {k : List Key} {r : Int × Int} (h : kok k = true) : SeqAt.shaped (pD k r) = true := by
  obtain ⟨h1, h2⟩ := kD_lay h
  obtain ⟨h3, h4⟩ := kD_lay (k := [.inl r.1, .inl r.2]) rfl
  refine shaped_of ?_ ?_
  · simp [pD, PyData.canLay0, PyData.canLayAll0, h1, h3]
  · simp [pD, PyData.depth, PyData.depthAll, h2, h4]
theorem RV.dp {K : PySem.W.Frag} {H : Hp} {v : V} {n d : Int} (h : RV H v n d) : Dp K H v (kD [.inl n, .inl d]) := by
  obtain ⟨p, rfl, q⟩ := h
  exact .tup (SqT.of q) (dp_keys [.inl n, .inl d])
theorem PV.dp {K : PySem.W.Frag} {H : Hp} {v : V} {k : List Key} {r : Int × Int} (h : PV H v k r) : Dp K H v (pD k r) := by
  obtain ⟨p, x, y, rfl, q, h1, h2⟩ := h
  exact .tup (SqT.of q) (.cons h1.dp (.cons h2.dp .nil))
section
variable {P : Program} {w : World} {K : PySem.W.Frag} {mg : Str → Option Value} {base : Heap}
theorem ok_table (T : Tx K mg) (c_is_spot : Cal P w K mg base CX0 2 "is_spot" ["thing"] [] spIsSpot) (c_is_ratio : Cal P w K mg base CX0 2 "is_ratio" ["thing"] [] spIsRatP) : Cal P w K mg base CX0 3 "table_of_pairs" ["pairs"] [] spTable := by
  obtain ⟨fd, F⟩ := T.f_table_of_pairs
  refine ⟨_, fd, [], F.ok sc_table_of_pairs (fun vs H Q E h => ?_) (fun cdv A outer s H vs Q E hr h => ?_), T.g_table_of_pairs, F.kp, F.bindsN fun _ _ _ _ _ _ us hl => match us, hl with | [_], _ => rfl, .nil⟩
  · obtain ⟨Pl, xs, ks, wv, rfl, _⟩ := h
    rfl
  obtain ⟨Pl, xs, ks, wv, rfl, eP, len, hs, hpv, hlow, h0, kk⟩ := h
  have hu := hu_of hr
  have hu64 := hu64_of hr
  refine ⟨_, PSs.nox ((pss_cons (ps_set (i := 1) sc_table_of_pairs.nd rfl (Or.inl rfl) pe_dnewT)
        (pss_cons (ps_set (i := 2) sc_table_of_pairs.nd rfl (Or.inl rfl) pe_int)
        (pss_cons (ps_for PassesOwn.never rfl (pi_listK K (pv 0)) (pg_name (i := 3) sc_table_of_pairs.nd rfl (Or.inl rfl))
          (pss_cons (ps_if (PW.pt (pw_or (pt_not (pt_val (pe_callB (isiK K) (by rfl) T.b_isinstance (by decide +kernel) (pa_cons (pv 3) (pa_cons (pe_bltn (v := .ty "tuple") (u := .type "tuple") (by rfl) T.b_tuple (by decide +kernel) rfl) pa_nil))))) (pw_or (pt_cmpR op_ne (pe_callB (call_lenK K) (by rfl) T.b_len PySem.boot_len (pa_cons (pv 3) pa_nil)) pe_int (nomark _)) (pw_or (pt_not (pt_val (pcall c_is_spot hr (pa_cons (pe_ix (ix_tupK K) (pv 3) pe_int (fun _ _ => rfl)) pa_nil)))) (pw_or1 (pt_not (pt_val (pcall c_is_ratio hr (pa_cons (pe_ix (ix_tupK K) (pv 3) pe_int (fun _ _ => rfl)) pa_nil))))))))) (pss_one ps_never) pss_nil)
          (pss_cons (ps_if (PW.pt (pw_or (pt_cmp (pc_din hu (pe_ix (ix_tupK K) (pv 3) pe_int (fun _ _ => rfl)) (pv 1))) (pw_or1 (PW.pt (pw_and (pt_cmpR op_eq (pv 2) pe_int (nomark _)) (pw_and1 (pt_cmpR (neDK K hu64) (pv 3) (pe_tup (pa_cons (pe_glob (v := .ref (He.ga K "GROUND")) rfl T.g_GROUND rfl) (pa_cons (pe_glob (v := .ref (He.ga K "ZERO")) rfl T.g_ZERO rfl) pa_nil))) (nomark _)))))))) (pss_one ps_never) pss_nil)
          (pss_cons (ps_dput hu (pv 1) (pe_ix (ix_tupK K) (pv 3) pe_int (fun _ _ => rfl)) (pe_ix (ix_tupK K) (pv 3) pe_int (fun _ _ => rfl)) rfl)
          (pss_one (ps_set (i := 2) sc_table_of_pairs.nd rfl (Or.inl rfl) (pe_op op_add (pv 2) pe_int)))))))
        (pss_cons (ps_if (pt_cmpR op_eq (pv 2) pe_int (nomark _)) (pss_one ps_never) pss_nil)
        (pss_one (ps_ret (pv 1)))))))), ?_⟩
  have hn := hs.n
  refine fun D hD => ?_
  refine ⟨_, rfl, Pl, rfl, ⟨_, SqL.of (same_new hD _ _ eP)⟩, for_list (K := K) (a := Pl) (xs := xs) (fun i σ H2 => ∃ (o3 : Option V) (kvs : List (List Key × V)), σ = [some (.ref Pl), some (.ref D), some (.int (i : Nat)), o3] ∧ H2 D = some (.dT kvs) ∧ TabW H2 kvs ks wv i ∧ Same H H2) ?_ (fun i σ H2 _ ⟨_, _, _, _, _, s2⟩ => SqL.of (s2 _ _ eP)) ?_ ?_⟩
  · exact ⟨none, [], rfl, upd_same, ⟨by rw [List.take_zero]; rfl, fun j k h => by omega⟩, same_new hD⟩
  · rintro i x σ H2 hi ⟨o3, kvs, rfl, e2, t2, s2⟩
    obtain ⟨k, hk, pv⟩ := hpv i x hi
    have pv2 := pv.mono (same_tp s2)
    obtain ⟨p, y, z, rfl, q, hy, hz⟩ := id pv2
    have hi' := (List.getElem?_eq_some_iff.mp hi).1
    have hil : i < ks.length := by omega
    have hkm := List.mem_of_getElem? hk
    obtain ⟨low1, low2, low3⟩ := hlow i hil
    have nk : k ∉ ks.take i := fun m => by
      obtain ⟨j, hj⟩ := List.mem_iff_getElem?.mp m
      have hj' := (List.getElem?_eq_some_iff.mp hj).1
      rw [List.length_take] at hj'
      rw [List.getElem?_take, if_pos (by omega)] at hj
      have := nd_ix hs.nd hj hk
      omega
    have no : valV kvs k = none := by
      cases e : valV kvs k with
      | none => rfl
      | some v =>
        have := valV_in e
        rw [t2.keys] at this
        exact absurd this nk
    have q' : SqT K H2 p _ := SqT.of q
    have lkvs : kvs.length ≤ 11 := by
      have := congrArg List.length t2.keys
      rw [List.length_map, List.length_take] at this
      omega
    obtain ⟨b, rfl, hb, ob⟩ := id hy
    have din : DGet H2 D (.ref b) none := by
      have := DGet.t e2 hb
      rw [no] at this
      exact this
    have put : ∃ (o3' : Option V) (kvs' : List (List Key × V)), [some (V.ref Pl), some (.ref D), some (.int ((i : Int) + 1)), some (.ref p)] = [some (.ref Pl), some (.ref D), some (.int ((i + 1 : Nat) : Int)), o3'] ∧ (upd H2 D (.dT (putK kvs k z))) D = some (.dT kvs') ∧ TabW (upd H2 D (.dT (putK kvs k z))) kvs' ks wv (i + 1) ∧ Same H (upd H2 D (.dT (putK kvs k z))) := by
      have tp : TP H2 (upd H2 D (.dT (putK kvs k z))) := put_tp e2 fun _ z => by cases z
      refine ⟨_, _, rfl, upd_same, ⟨?_, fun j l hj hl => ?_⟩, fun c o e => ?_⟩
      · rw [putK_new _ no, List.map_append, t2.keys, take_snoc hk]
        rfl
      · rw [valV_put]
        by_cases e : l = k
        · subst e
          have : j = i := nd_ix hs.nd hl hk
          subst this
          exact ⟨z, by rw [if_pos rfl], hz.mono tp⟩
        · rw [if_neg e]
          have : j ≠ i := fun z => e (by subst z; rw [hk] at hl; exact (Option.some.inj hl).symm)
          obtain ⟨v, h1, h2⟩ := t2.val j l (by omega) hl
          exact ⟨v, h1, h2.mono tp⟩
      · rw [upd_ne (ne_of_none e hD)]
        exact s2 _ _ e
    have dput : DPut H2 D (.ref b) z (upd H2 D (.dT (putK kvs k z))) := DPut.t (k := k) e2 hb (small1000 (by omega))
    refine ⟨_, rfl, _, _, _, _, true, rfl, .ty "tuple", .base (.tup (q)), kTT, true, rfl, _, rfl, _, 2, rfl, .inr ⟨_, q', rfl⟩, rfl, _, rfl, ?_⟩
    refine ⟨_, rfl, p, _, _, _, rfl, rfl, q', atI_nat (j := 0) rfl, _, k, rfl, hy, hs.sp k hkm, true, rfl, ?_⟩
    refine ⟨_, rfl, p, _, _, _, rfl, rfl, q', atI_nat (j := 1) rfl, z, _, _, rfl, hz, low1, low3, true, rfl, ?_⟩
    refine ⟨_, rfl, p, _, _, _, rfl, rfl, q', atI_nat (j := 0) rfl, _, rfl, D, _, rfl, din, _, rfl, ?_⟩
    have rest : tSeq (sDPut (tVar 1) (tOp (rIxT K) (tVar 3) (tC (V.int 0))) (tOp (rIxT K) (tVar 3) (tC (V.int 1)))) (tAsg (tOp (rI0 fun i j => V.int (i + j)) (tVar 2) (tC (V.int 1))) (gName 2)) = tSeq (sDPut (tVar 1) (tOp (rIxT K) (tVar 3) (tC (V.int 0))) (tOp (rIxT K) (tVar 3) (tC (V.int 1)))) (tAsg (tOp (rI0 fun i j => V.int (i + j)) (tVar 2) (tC (V.int 1))) (gName 2)) := rfl
    refine ⟨_, rfl, rfl, _, rfl, ite2 (fun hz0 => ?_) (fun hz0 => ?_)⟩
    · have i0 : i = 0 := by
        have e : V.int (i : Nat) = V.int 0 := of_decide_eq_true hz0
        injection e with e
        omega
      have ek : k = groundK := by
        rw [i0, hs.g] at hk
        exact (Option.some.inj hk).symm
      refine ⟨_, rfl, (show 2 ≤ sizeLine by decide), fun t ht => ?_⟩
      have st := same_new (o := .tup [.ref (He.ga K "GROUND"), .ref (He.ga K "ZERO")]) ht
      have hzd : Dp K (upd H2 t (.tup [.ref (He.ga K "GROUND"), .ref (He.ga K "ZERO")])) (.ref t) (pD groundK (0, 1)) :=
        .tup (SqT.of upd_same) (.cons (ground_dp T _) (.cons (.tup (T.v_ZERO _) (dp_keys [.inl 0, .inl 1])) .nil))
      refine ⟨_, _, (pv2.mono (same_tp st)).dp, hzd, pD_sh hy.ok, pD_sh (by decide +kernel), _, rfl, ite2 (fun hne => ?_) (fun _ => ?_)⟩
      · exfalso
        subst i0
        rw [h0, ek, pD_eqv] at hne
        simp at hne
      · have sput : Same H2 (upd H2 t (.tup [.ref (He.ga K "GROUND"), .ref (He.ga K "ZERO")])) := st
        refine ⟨_, rfl, p, _, _, _, rfl, rfl, SqT.of (st _ _ q), atI_nat (j := 1) rfl, _, rfl, _, rfl, p, _, _, _, rfl, rfl, SqT.of (st _ _ q), atI_nat (j := 0) rfl, D, _, rfl, DPut.t (k := k) (st _ _ e2) (st _ _ hb) (small1000 (by omega)), _, rfl, _, _, rfl, rfl, ?_⟩
        have tp : TP H2 (upd (upd H2 t (.tup [.ref (He.ga K "GROUND"), .ref (He.ga K "ZERO")])) D (.dT (putK kvs k z))) := TP.trans (same_tp st) (put_tp (st _ _ e2) fun _ z => by cases z)
        refine ⟨_, _, rfl, upd_same, ⟨?_, fun j l hj hl => ?_⟩, fun c o e => ?_⟩
        · rw [putK_new _ no, List.map_append, t2.keys, take_snoc hk]
          rfl
        · rw [valV_put]
          have ej : j = i := by omega
          subst ej
          have : l = k := by rw [hk] at hl; exact (Option.some.inj hl).symm
          subst this
          exact ⟨z, by rw [if_pos rfl], hz.mono tp⟩
        · rw [upd_ne (ne_of_none e hD)]
          exact st _ _ (s2 _ _ e)
    · exact ⟨_, rfl, p, _, _, _, rfl, rfl, q', atI_nat (j := 1) rfl, _, rfl, _, rfl, p, _, _, _, rfl, rfl, q', atI_nat (j := 0) rfl, D, _, rfl, dput, _, rfl, _, _, rfl, rfl, put⟩
  · rintro σ H2 ⟨o3, kvs, rfl, e2, t2, s2⟩
    have hp := hs.pos
    refine ⟨_, rfl, rfl, _, rfl, ite2 (fun h0 => ?_) (fun _ => ?_)⟩
    · exfalso
      have h0 : V.int (xs.length : Nat) = V.int 0 := of_decide_eq_true h0
      injection h0 with h0
      omega
    · rw [len] at t2
      exact ⟨_, rfl, kk D kvs H2 s2 hD e2 t2⟩
theorem ok_world_init (T : Tx K mg) (c_table_of_pairs : Cal P w K mg base CX0 3 "table_of_pairs" ["pairs"] [] spTable) : CalC P w K mg base CX0 4 "World" (cWorld K) ["self", "pairs"] [] (spWorldInit K) := by
  obtain ⟨fd, F⟩ := T.f_World_init
  refine ⟨_, fd, [], F.ok sc_World_init (fun vs H Q E h => ?_) (fun cdv A outer s H vs Q E hr h => ?_), T.k_World, T.g_World, F.bindsN fun _ _ _ _ _ _ us hl => match us, hl with | [_, _], _ => rfl, .nil⟩
  · obtain ⟨O, dx, Pl, xs, ks, wv, rfl, _⟩ := h
    rfl
  obtain ⟨O, dx, Pl, xs, ks, wv, rfl, eO, eP, len, hs, hpv, hlow, h0, kk⟩ := h
  refine ⟨_, PSs.nox ((pss_one (psfldK K (pv 0) (pcall c_table_of_pairs hr (pa_cons (pv 1) pa_nil))))), ?_⟩
  refine ⟨_, rfl, Pl, xs, ks, wv, rfl, eP, len, hs, hpv, hlow, h0, fun Tb kvs H1 s1 fT eT tT => ?_⟩
  refine ⟨_, rfl, O, cWorld K, dx, [], rfl, s1 _ _ eO, T.c_World, T.n_table, (show 0 < 1000 by decide), ?_⟩
  rw [wt_table]
  have nTO : Tb ≠ O := ne_of eT (s1 _ _ eO) fun z => by cases z
  have tp : TP H1 (upd H1 O (.ins (cWorld K) dx [("table", .ref Tb)])) := put_tp (s1 _ _ eO) fun _ z => by cases z
  exact kk _ ((Pres.same s1).trans (Pres.put (s1 _ _ eO) fun z => z rfl)) ⟨dx, Tb, kvs, upd_same, by rw [upd_ne nTO]; exact eT, tT.mono tp⟩
theorem ok_wget (T : Tx K mg) (c_is_spot : Cal P w K mg base CX0 2 "is_spot" ["thing"] [] spIsSpot) : CalM P w K mg base CX0 3 (cWorld K) "__getitem__" ["self", "spot"] [] (spWGet K) := by
  obtain ⟨fd, F⟩ := T.f_World_getitem
  refine ⟨_, fd, [], F.ok sc_World_getitem (fun vs H Q E h => ?_) (fun cdv A outer s H vs Q E hr h => ?_), T.c_World, T.m_World_getitem, F.bindsN fun _ _ _ _ _ _ us hl => match us, hl with | [_, _], _ => rfl, .nil⟩
  · obtain ⟨O, v, ks, wv, k, j, rfl, _⟩ := h
    rfl
  obtain ⟨O, v, ks, wv, k, j, rfl, ⟨dx, Tb, kvs, eO, eT, tT⟩, hv, hk, hj, kk⟩ := h
  have hu := hu_of hr
  refine ⟨_, PSs.nox ((pss_cons (ps_if (PW.pt (pw_or (pt_not (pt_val (pcall c_is_spot hr (pa_cons (pv 1) pa_nil)))) (pw_or1 (pt_cmp (pc_dnotin hu (pv 1) (fldK K (pv 0))))))) (pss_one ps_never) pss_nil)
        (pss_one (ps_ret (pe_dget hu (fldK K (pv 0)) (pv 1) (fun _ _ => rfl)))))), ?_⟩
  obtain ⟨y, hy, ry⟩ := tT.val j k (List.getElem?_eq_some_iff.mp hj).1 hj
  obtain ⟨b, rfl, hb, ob⟩ := id hv
  have g : DGet H Tb (.ref b) (some y) := by
    have := DGet.t eT hb
    rw [hy] at this
    exact this
  refine ⟨_, rfl, _, k, rfl, hv, hk, true, rfl, _, rfl, _, rfl, O, _, _, _, _, rfl, eO, T.c_World, T.n_table, wl_table, Tb, _, rfl, g, _, rfl, ite2 (fun z => by cases z) (fun _ => ?_)⟩
  exact ⟨_, rfl, O, _, _, _, _, rfl, eO, T.c_World, T.n_table, wl_table, _, rfl, Tb, _, rfl, g, kk y ry⟩
theorem ok_win (T : Tx K mg) (c_is_spot : Cal P w K mg base CX0 2 "is_spot" ["thing"] [] spIsSpot) : CalM P w K mg base CX0 3 (cWorld K) "__contains__" ["self", "spot"] [] (spWIn K) := by
  obtain ⟨fd, F⟩ := T.f_World_contains
  refine ⟨_, fd, [], F.ok sc_World_contains (fun vs H Q E h => ?_) (fun cdv A outer s H vs Q E hr h => ?_), T.c_World, T.m_World_contains, F.bindsN fun _ _ _ _ _ _ us hl => match us, hl with | [_, _], _ => rfl, .nil⟩
  · obtain ⟨O, v, ks, wv, k, rfl, _⟩ := h
    rfl
  obtain ⟨O, v, ks, wv, k, rfl, ⟨dx, Tb, kvs, eO, eT, tT⟩, hv, hk, hm, kk⟩ := h
  have hu := hu_of hr
  refine ⟨_, PSs.nox ((pss_one (ps_ret (pe_and (pcall c_is_spot hr (pa_cons (pv 1) pa_nil)) (pe_one (pe_cmp (pc_din hu (pv 1) (fldK K (pv 0))))))))), ?_⟩
  obtain ⟨j, hj⟩ := List.mem_iff_getElem?.mp hm
  obtain ⟨y, hy, ry⟩ := tT.val j k (List.getElem?_eq_some_iff.mp hj).1 hj
  obtain ⟨b, rfl, hb, ob⟩ := id hv
  have g : DGet H Tb (.ref b) (some y) := by
    have := DGet.t eT hb
    rw [hy] at this
    exact this
  exact ⟨_, rfl, _, k, rfl, hv, hk, true, rfl, _, rfl, _, rfl, O, _, _, _, _, rfl, eO, T.c_World, T.n_table, wl_table, Tb, _, rfl, g, kk⟩
end
end Ell
set_option maxHeartbeats 4000000
namespace PySem
open Sem (wp)
open AutoSeq1 (wpAny_loadPart')
set_option maxHeartbeats 4000000 in
theorem meets_enumT (t : Addr) (items : Array Value) :
    Meets (Builtin.«enumerate.__new__» ⟨[.type "enumerate", .ref t], []⟩) (fun _ R s => s.heap.IsTuple t items ∧
      R (.ok (.ret (.ref (s.heap.push { cls := .type "tuple_iterator", data := .fields #[.ref t, .int 0 0] }).objs.size)))
        { s with heap := (s.heap.push { cls := .type "tuple_iterator", data := .fields #[.ref t, .int 0 0] }).push { cls := .type "enumerate", data := .fields #[.none, .bool false, .ref s.heap.objs.size, rawInt 0, .none, .none] } }) :=
  .of_wp fun prog w A R s h => by
    obtain ⟨hp, g, d, tk, os⟩ := s; obtain ⟨h1, h⟩ := h
    have hsub := sub_enumerate
    have q1 : ∀ {A' : Around} {E : Value → Shared → Prop} {Q : Value → Shared → Prop}, Q (.ref hp.objs.size) ⟨hp.push { cls := .type "tuple_iterator", data := .fields #[.ref t, .int 0 0] }, g, d, tk, os⟩ → wpAny (model prog w) A' (pyIter (.ref t)) Q E ⟨hp, g, d, tk, os⟩ :=
      fun q => (begins_tuple t items).iter prog w _ _ ⟨hp, g, d, tk, os⟩ _ h1 q
    obtain ⟨⟨c, dct, dt, sl⟩, hl, hc, hd⟩ := id h1
    wp_walk using wpAny_loadPart' hl
    refine wpAny_stack_any fun st => wpAny_pure ?_
    split
    · rename_i c _ _ _ _ _
      cases (c == Value.type "enumerate")
      · wp_walk using wpAny_loadPart' hl, q1
        exact ⟨_, rfl, h⟩
      · wp_walk using wpAny_loadPart' hl, q1
        exact ⟨_, rfl, h⟩
    · wp_walk using wpAny_loadPart' hl, q1
      exact ⟨_, rfl, h⟩
theorem call_enumT {prog : Program} {w : World} {A : Around} {E : Value → Shared → Prop} {s : Shared} {l : Addr} {items : Array Value} {Q : Value → Shared → Prop} (hL : s.heap.IsTuple l items)
    (h : ∀ h', IsEnum h' (s.heap.objs.size + 1) s.heap.objs.size 0 .none → h'.IsTupleIter s.heap.objs.size l 0 → h'.objs.size = s.heap.objs.size + 2 →
      (∀ b o, s.heap.get? b = some o → h'.get? b = some o) → Q (.ref (s.heap.objs.size + 1)) { s with heap := h' }) :
    wpAny (model prog w) A (call (.type "enumerate") [.ref l]) Q E s := by
  refine callType_new F.called_enumerate (by decide) (F.typeCall_enumerate_1 _) (F.newCall_enumerate_1 _) (fun obj => F.args_object_init_2 obj _) F.entry_enumerate_new
    (meets_enumT l items) ⟨hL, ?_⟩
  have hz : (s.heap.push { cls := .type "tuple_iterator", data := .fields #[.ref l, .int 0 0] }).objs.size = s.heap.objs.size + 1 := Heap.size_push ..
  show _ ∧ _
  rw [hz]
  have he : IsEnum ((s.heap.push { cls := .type "tuple_iterator", data := .fields #[.ref l, .int 0 0] }).push
      { cls := .type "enumerate", data := .fields #[.none, .bool false, .ref s.heap.objs.size, rawInt 0, .none, .none] }) (s.heap.objs.size + 1) s.heap.objs.size 0 .none := by
    have := Heap.get?_push_size (s.heap.push { cls := .type "tuple_iterator", data := .fields #[.ref l, .int 0 0] })
      (o := { cls := .type "enumerate", data := .fields #[.none, .bool false, .ref s.heap.objs.size, rawInt 0, .none, .none] }) rfl
    rw [hz] at this; exact this
  refine ⟨⟨_, he, rfl⟩, h _ he ⟨_, Heap.get?_push_of_some _ (Heap.get?_push_size _ rfl), rfl, rfl⟩ (by rw [Heap.size_push, hz]) fun b o x => Heap.get?_push_of_some _ (Heap.get?_push_of_some _ x)⟩
end PySem
namespace Ell
open PySem PySem.Spec PyProof.Rows L2
/-- the tuple at a as it stands at each turn, each item in a new pair -/
def IteT (K : PySem.W.Frag) (a : Addr) : It :=
  ⟨fun i H => ∃ (xs : List V) (x : V), SqT K H a xs ∧ xs[i]? = some x, fun i H v H' => ∃ T x, v = .ref T ∧ H T = none ∧ H' = upd H T (.tup [.int (i : Nat), x]) ∧ ∀ xs, SqT K H a xs → xs[i]? = some x, fun i H => ∃ xs : List V, SqT K H a xs ∧ xs.length ≤ i⟩
theorem ti_ne {h : Heap} {it a : Addr} {i : Nat} {items : Array Value} (x : h.IsTupleIter it a i) (y : h.IsTuple a items) : a ≠ it := fun z => by
  subst z
  obtain ⟨o, e, c, _⟩ := x
  obtain ⟨o', e', c', _⟩ := y
  rw [e] at e'
  cases e'
  rw [c] at c'
  exact absurd c' (by decide)
theorem te_ne {h : Heap} {e it a : Addr} {i : Int} {old : Value} {items : Array Value} (x : IsEnum h e it i old) (y : h.IsTuple a items) : e ≠ a := fun z => by
  subst z
  obtain ⟨o', e', c', _⟩ := y
  have x : h.get? e = some _ := x
  rw [x] at e'
  cases e'
  exact absurd (show Value.type "enumerate" = Value.type "tuple" from c') (by decide)
theorem turn_enumT {P : Program} {w : World} {K : PySem.W.Frag} {elts : List Expr} {kk : Nat} {tpos : Pos} (a e it : Addr) :
    Turn P w K (.Tuple elts kk tpos) (IteT K a) [e, it] e (fun i h => (∃ old, IsEnum h e it ((i : Nat) : Int) old) ∧ h.IsTupleIter it a i ∧ e ≠ it) where
  mem := by simp
  obj := fun i h st b hb => by
    obtain ⟨⟨old, he⟩, ⟨o, ho, hc, hd⟩, _⟩ := st
    have e' : b = e ∨ b = it := by simpa using hb
    rcases e' with z | z
    · rw [z]; exact ⟨_, he, fun v q => nomatch q⟩
    · rw [z]; exact ⟨o, ho, fun v q => by rw [hd] at q; cases q⟩
  keep := fun i h h' st k => let ⟨⟨old, he⟩, hi, hne⟩ := st; ⟨⟨old, k e (by simp) _ he⟩, hi.at fun o q => k it (by simp) o q, hne⟩
  item := by
    intro X hP hw hK hc i pins s σ H E I hf st hg
    subst hP hw hK
    obtain ⟨⟨old, he⟩, hit, hne⟩ := st
    obtain ⟨xs, x, hq, hx⟩ := hg
    obtain ⟨its, rv, p, hz⟩ := I.tuple hq
    have p' : s.heap.IsTuple a its.toArray := p
    obtain ⟨u, hu, ru⟩ := rv.get hx
    have hel : e < s.heap.objs.size := Heap.lt_size he
    have hil : it < s.heap.objs.size := by obtain ⟨_, q, _⟩ := hit; exact Heap.lt_size q
    have hai := ti_ne hit p'
    have hea := te_ne he p'
    have hlt : i < its.toArray.size := by
      have := (List.getElem?_eq_some_iff.mp hu).1
      simpa using this
    refine wpAny_pyNext_enum_itemD (Draws.tuple (show X.A.in1.handled = none from I.ok.hd hc) it a hai its.toArray) he ⟨hit, p'⟩ hlt hne (by simp [hne, hea]) fun u' h' tk hu' ho hit' hT hsz hk => ?_
    have eu : u' = u := by
      have hu' : its.toArray[i]? = some u' := hu'
      simp at hu'
      rw [hu] at hu'
      exact (Option.some.inj hu').symm
    subst eu
    refine ⟨_, rfl, wpAny_letOwnedTupleGo_enum (s := { s with heap := h', toks := tk + 1 }) ho fun h'' he' sb => ?_⟩
    have hT2 : h''.get? s.heap.objs.size = some { cls := .type "tuple", data := .seq #[.int i tk, u'] } := (sb.2 _ (Nat.ne_of_gt hel)).trans hT
    have new : ObjOk X.prog X.w (upd H s.heap.objs.size (.tup [.int (i : Nat), x])) h'' s.heap.objs.size (.tup [.int (i : Nat), x]) :=
      ⟨by show 2 ≤ sizeLine; decide, [.int i tk, u'], .cons ⟨_, rfl⟩ (.cons ru .nil), ⟨_, hT2, rfl, _, rfl⟩⟩
    have I1 : Inv X pins σ (upd H s.heap.objs.size (.tup [.int (i : Nat), x])) { s with heap := h'', toks := tk + 1 } :=
      I.turnedNew (ch := [e, it]) (fun b ob hb q => (sb.2 b (fun z => hb (by simp [z]))).trans (hk b ob (fun z => hb (by simp [z])) (fun z => hb (by simp [z])) q)) hf (Nat.le_refl _) new
    refine ⟨.ref s.heap.objs.size, _, I1, rfl, ⟨_, x, rfl, I.hok.fresh (Nat.le_refl _), rfl, fun ys hy => by rw [I.tuple_inj hy hq]; exact hx⟩, ⟨⟨u', ?_⟩, hit'.1.at fun o q => (sb.2 it (Ne.symm hne)).trans q, hne⟩, fun b hb => ?_⟩
    · have e1 : ((i + 1 : Nat) : Int) = (i : Int) + 1 := by omega
      rw [e1]; exact he'
    · have hb' : b < s.heap.objs.size := by
        have e' : b = e ∨ b = it := by simpa using hb
        rcases e' with z | z
        · rw [z]; exact hel
        · rw [z]; exact hil
      rw [upd_ne (Nat.ne_of_lt hb')]
      exact (hf b hb).1
  done := by
    intro X hP hw hK hc i pins s σ H E I hf st hg
    subst hP hw hK
    obtain ⟨⟨old, he⟩, hit, hne⟩ := st
    obtain ⟨xs, hq, hx⟩ := hg
    obtain ⟨its, rv, p, hz⟩ := I.tuple hq
    have p' : s.heap.IsTuple a its.toArray := p
    obtain ⟨f0, f1, f2, f3, f4, f5⟩ := hf it (by simp)
    have hl := rv.length
    have hT : s.TypeIs (.ref e) "enumerate" := ⟨_, he, rfl⟩
    unfold pyNext
    refine wpAny_bind (wpAny_attempt (wpAny_callSpecial?_slot (name := Str.ofString "__next__") hT F.slot_enumerate_next
      (wpAny_call_entry F.slot_enumerate_next hT F.entry_enumerate_next ?_ (F.args_enumerate_next_1 _))))
    show wpAny _ _ (field (.ref e) 2 >>= _) _ _ _
    refine wpAny_bind (wpAny_field he rfl (x := .ref it) rfl ?_)
    refine wpAny_bind (wpAny_nextOf_tuple_end (show X.A.in1.handled = none from I.ok.hd hc) hit p' (by simp; omega) fun h' x he' hx' => ?_)
    obtain ⟨o, ho, hc'⟩ := hx'
    refine wpAny_bind (wpAny_isInstance (T := "StopIteration") (b := true) ⟨o, ho, hc'⟩ isSubtype_stop ?_)
    exact wpAny_pure ⟨rfl, I.turned (t' := s.toks) (fun b o hb q => he' b o hb q) f0 f1 f3 f4 f5⟩
  self := fun A i s Q E st h => let ⟨⟨_, he⟩, _⟩ := st; wpAny_pyIter_enum he h
def iEnumT (K : PySem.W.Frag) (ta : TA) : TI := fun σ H R => ta σ H fun vs H1 => ∃ a xs, vs = [.ref a] ∧ SqT K H1 a xs ∧ R (IteT K a) H1
theorem pi_enumT {X : Cx} {e : Expr} {ta : TA} {p pos tpos : Pos} {elts : List Expr} {kk : Nat} (hg : Gl X "enumerate") (hm : X.mg "enumerate" = none) (ha : PA X [e] ta) (hs : starEach [e] X.env = [(false, eval e X.env)] := by rfl) :
    PI X (.Tuple elts kk tpos) (.Call (.Name "enumerate" p) [e] [] pos) (iEnumT X.K ta) := by
  refine ⟨fun pins s σ H R I h => ?_⟩
  refine Call_ (ld_blt I hg hm boot_enumerate (PyProof.Rows.callWith_type1 (thn (ha.run pos pins s σ H _ I h) fun us s1 ⟨vs, H1, I1, r1, q1⟩ => ?_) hs rfl))
  obtain ⟨a, xs, ex, hq, q⟩ := q1
  subst ex
  cases r1 with
  | cons r rr =>
    cases rr
    cases r
    obtain ⟨its, rv, p', hz⟩ := I1.tuple hq
    refine call_enumT (show s1.heap.IsTuple a its.toArray from p') fun h' he hit hsz hk => wpAny_pyIter_enum he ?_
    have I2 : Inv X pins σ H1 { s1 with heap := h' } := I1.kept (t' := s1.toks) hk
    refine ⟨s1.heap.objs.size + 1, [s1.heap.objs.size + 1, s1.heap.objs.size], _, _, H1, rfl, I2, turn_enumT a (s1.heap.objs.size + 1) s1.heap.objs.size, ⟨⟨.none, he⟩, hit, Nat.succ_ne_self _⟩, fun b hb => ?_, q⟩
    have e' : b = s1.heap.objs.size + 1 ∨ b = s1.heap.objs.size := by simpa using hb
    have hle : s1.heap.objs.size ≤ b := by
      rcases e' with z | z
      · rw [z]; exact Nat.le_add_right _ _
      · rw [z]; exact Nat.le_refl _
    exact I1.fpOk hle (I1.hok.fresh hle)
theorem pi_enumTK {X : Cx} (K : PySem.W.Frag) {e : Expr} {t : TA} {p pos tpos : Pos} {elts : List Expr} {kk : Nat} (hg : Gl X "enumerate") (hm : X.mg "enumerate" = none) (ha : PA X [e] t) (hs : starEach [e] X.env = [(false, eval e X.env)] := by rfl) (hK : X.K = K := by rfl) :
    PI X (.Tuple elts kk tpos) (.Call (.Name "enumerate" p) [e] [] pos) (iEnumT K t) := by subst hK; exact pi_enumT hg hm ha hs
end Ell
set_option maxHeartbeats 4000000
namespace Ell
open PySem PySem.Spec PyProof.Rows L2
theorem lc_enumT {K : PySem.W.Frag} {a : Addr} {xs : List V} {g : TG} {tt : TT} {te : TE} {vs : List Nat} {σ : L2.St} {H1 : Hp} {D : Addr} {Qd : Hp → Prop} (Pv : Nat → Hp → Prop) (h0 : Pv 0 (upd H1 D (.lst []))) (hl : ∀ i H, i ≤ xs.length → Pv i H → SqT K H a xs)
    (hs : ∀ i x T H, xs[i]? = some x → Pv i H → H T = none → g (.ref T) (wipe σ vs) (upd H T (.tup [.int (i : Nat), x])) fun σ2 H2 => wipe σ2 vs = wipe σ vs ∧ tt σ2 H2 fun b H3 =>
      if b = true then te σ2 H3 fun y H4 => ∃ acc, H4 D = some (.lst acc) ∧ acc.length < sizeLine ∧ Pv (i + 1) (upd H4 D (.lst (acc ++ [y]))) else Pv (i + 1) H3) (hd : ∀ H, Pv xs.length H → Qd H) :
    ∃ W : Nat → Nat → Hp → Prop, (∃ m, W 0 m (upd H1 D (.lst []))) ∧ ∀ i m H, W i m H →
      ((IteT K a).stop i H ∧ Qd H) ∨ ((IteT K a).go i H ∧ ∃ Nx : Hp → Prop, (∀ H', Nx H' → ∃ m', m' < m ∧ W (i + 1) m' H') ∧ ∀ x H', (IteT K a).yld i H x H' → g x (wipe σ vs) H' fun σ2 H2 => wipe σ2 vs = wipe σ vs ∧ tt σ2 H2 fun b H3 =>
        if b = true then te σ2 H3 fun y H4 => ∃ acc, H4 D = some (.lst acc) ∧ acc.length < sizeLine ∧ Nx (upd H4 D (.lst (acc ++ [y]))) else Nx H3) := by
  refine ⟨fun i m H => m = xs.length - i ∧ i ≤ xs.length ∧ Pv i H, ⟨xs.length, by simp, Nat.zero_le _, h0⟩, ?_⟩
  rintro i m H ⟨rfl, hi, p⟩
  have q := hl i H hi p
  by_cases hlt : i < xs.length
  · refine .inr ⟨⟨xs, xs[i], q, by simp [hlt]⟩, Pv (i + 1), fun H' p' => ⟨xs.length - (i + 1), by omega, rfl, hlt, p'⟩, fun x H' y => ?_⟩
    obtain ⟨T, x', rfl, hT, rfl, y⟩ := y
    exact hs i x' T _ (y xs q) p hT
  · have e : i = xs.length := by omega
    subst e
    exact .inl ⟨⟨xs, q, Nat.le_refl _⟩, hd H p⟩
theorem make_same {C : Addr} {H1 H3 : Hp} {x dx : Addr} (hx : H1 x = none) (hd : H1 dx = none) (k : Pres (fun c _ => c ≠ x) (upd (upd H1 dx (.own x)) x (.ins C dx [])) H3) : Same H1 H3 := fun c o e =>
  k.k c o (by rw [upd_ne (ne_of_none e hx), upd_ne (ne_of_none e hd)]; exact e) (ne_of_none e hx)
/-! ### what a web answers of two spots -/
def NoSpotE (K : PySem.W.Frag) (E : XK) (H : Hp) (v : V) : Prop := ∀ d, H d = none → E (.ref (cNoSpot K)) (some d) (upd H d (.xd [("spot", v)]))
def TwoE (K : PySem.W.Frag) (E : XK) (H : Hp) (W F : Addr) (ks : List (List Key)) (ls : List Lk) (as : List Arc) (va vb : V) (ka kb : List Key) : Prop :=
  (ka ∉ ks → NoSpotE K E H va) ∧ (ka ∈ ks → kb ∉ ks → NoSpotE K E H vb) ∧ (ka ∈ ks → kb ∈ ks → ClashE K E H W F ks ls as)
def gw (d : Nat → Int) : WV := fun j => (d j - d 0, 1)
def lw (d : Nat → Int) : WV := fun j => (-d j, 1)
def NoPot (as : List Arc) : Prop := ∀ p, ¬ Pot as p
def spBound (K : PySem.W.Frag) : Sp := fun vs H Q E => ∃ (W F : Addr) (ks : List (List Key)) (ls : List Lk) (as : List Arc) (st : WState) (va vb : V) (ka kb : List Key), vs = [.ref W, va, vb] ∧ WebAt K H W F ks ls as st ∧ TK H va ka ∧ TK H vb kb ∧ IsSp ka ∧ IsSp kb ∧
  (∀ i j H' d, ks[i]? = some ka → ks[j]? = some kb → FWb W F H H' → WebAt K H' W F ks ls as .sound → Dist as ks.length i d → Q (.int (d j)) H') ∧ TwoE K E H W F ks ls as va vb ka kb
def spSteps (K : PySem.W.Frag) : Sp := fun vs H _ E => ∃ (W F : Addr) (ks : List (List Key)) (ls : List Lk) (as : List Arc) (st : WState) (i : Nat) (b : V), vs = [.ref W, .int (i : Nat), b] ∧ WebAt K H W F ks ls as st ∧ i < ks.length ∧ NoPot as ∧ ClashE K E H W F ks ls as
def spChain (K : PySem.W.Frag) : Sp := fun vs H _ E => ∃ (W F : Addr) (ks : List (List Key)) (ls : List Lk) (as : List Arc) (st : WState) (va vb : V) (ka kb : List Key), vs = [.ref W, va, vb] ∧ WebAt K H W F ks ls as st ∧ TK H va ka ∧ TK H vb kb ∧ IsSp ka ∧ IsSp kb ∧
  (ka ∈ ks → kb ∈ ks → NoPot as) ∧ TwoE K E H W F ks ls as va vb ka kb
def spGrown (K : PySem.W.Frag) : Sp := fun vs H Q E => ∃ (W F : Addr) (ks : List (List Key)) (ls : List Lk) (as : List Arc) (st : WState) (i : Nat), vs = [.ref W, .int (i : Nat)] ∧ WebAt K H W F ks ls as st ∧ i < ks.length ∧
  (∀ H' O d, FWb W F H H' → WebAt K H' W F ks ls as .sound → Dist as ks.length i d → WorldAt K H' O ks (gw d) → Q (.ref O) H') ∧ ClashE K E H W F ks ls as
def spReach (K : PySem.W.Frag) : Sp := fun vs H Q E => ∃ (W F : Addr) (ks : List (List Key)) (ls : List Lk) (as : List Arc) (st : WState) (va vb : V) (ka kb : List Key), vs = [.ref W, va, vb] ∧ WebAt K H W F ks ls as st ∧ TK H va ka ∧ TK H vb kb ∧ IsSp ka ∧ IsSp kb ∧
  (∀ (i j : Nat) (H' : Hp) (O : Addr) (d : Nat → Int), ks[i]? = some ka → ks[j]? = some kb → FWb W F H H' → WebAt K H' W F ks ls as .sound → Dist as ks.length i d → WorldAt K H' O ks (gw d) → Q (.ref O) H') ∧ TwoE K E H W F ks ls as va vb ka kb
def spHigh (K : PySem.W.Frag) : Sp := fun vs H Q E => ∃ (W F : Addr) (ks : List (List Key)) (ls : List Lk) (as : List Arc) (st : WState), vs = [.ref W] ∧ WebAt K H W F ks ls as st ∧
  (∀ H' O d, FWb W F H H' → WebAt K H' W F ks ls as .sound → Dist as ks.length 0 d → WorldAt K H' O ks (gw d) → Q (.ref O) H') ∧ ClashE K E H W F ks ls as
def spLow (K : PySem.W.Frag) : Sp := fun vs H Q E => ∃ (W F : Addr) (ks : List (List Key)) (ls : List Lk) (as : List Arc) (st : WState), vs = [.ref W] ∧ WebAt K H W F ks ls as st ∧
  (∀ H' O d, FWb W F H H' → WebAt K H' W F ks ls as .sound → Dist (rev as) ks.length 0 d → WorldAt K H' O ks (lw d) → Q (.ref O) H') ∧ ClashE K E H W F ks ls as
def spFollows (K : PySem.W.Frag) : Sp := fun vs H _ E => ∃ (W F p : Addr) (ks : List (List Key)) (ls : List Lk) (as : List Arc) (st : WState) (va vb z : V) (n : Int) (ka kb : List Key), vs = [.ref W, .ref p] ∧ WebAt K H W F ks ls as st ∧ H p = some (.tup [va, vb, .int n, z]) ∧ TK H va ka ∧ TK H vb kb ∧ IsSp ka ∧ IsSp kb ∧
  (ka ∈ ks → kb ∈ ks → NoPot as) ∧ TwoE K E H W F ks ls as va vb ka kb
def spSlim (K : PySem.W.Frag) : Sp := fun vs H _ E => ∃ (W F : Addr) (ks : List (List Key)) (ls : List Lk) (as : List Arc) (st : WState), vs = [.ref W] ∧ WebAt K H W F ks ls as st ∧ NoPot as ∧ ClashE K E H W F ks ls as
def spMore (K : PySem.W.Frag) : Sp := fun vs H Q _ => ∃ (W F L : Addr) (ks : List (List Key)) (ls lx : List Lk) (as ax : List Arc) (st : WState), vs = [.ref W, .ref L] ∧ WebAt K H W F ks ls as st ∧ LinksAny H L lx ∧ WF ks lx ∧ Arcs ks lx ax ∧ ls.length + lx.length ≤ 60 ∧ lx ≠ [] ∧ ls ≠ [] ∧
  ∀ (H' : Hp) (W' F' : Addr), Same H H' → H W' = none → H F' = none → WebAt K H' W' F' ks (ls ++ lx) (as ++ ax) .new → Q (.ref W') H'
theorem WebAt.pot {K : PySem.W.Frag} {H : Hp} {W F : Addr} {ks : List (List Key)} {ls : List Lk} {as : List Arc} (h : WebAt K H W F ks ls as .sound) : ∃ p, Pot as p := by
  obtain ⟨dx, S, D, L, lv, br, on, bk, kvs, _, _, _, _, _, _, _, _, Lv, On, Bk, p, _, _, _, _, hp, _⟩ := h.ex
  exact ⟨p, hp⟩
theorem low1 (n : Int) : Low (n, 1) := ⟨Int.le_refl _, (show (1:Int) ≤ 2 by decide), by simp [Nat.gcd_one_right]⟩
section
variable {P : Program} {w : World} {K : PySem.W.Frag} {mg : Str → Option Value} {base : Heap}
theorem ok_bound (T : Tx K mg) (c_Web_place_of : CalM P w K mg base (L2N.CX P w) 3 (cWeb K) "place_of" ["self", "spot"] [] (spPlace K)) (c_Web_from_spot : CalM P w K mg base (L2N.CX P w) 4 (cWeb K) "from_spot" ["self", "place"] [] (spFrom K id)) : CalM P w K mg base (L2N.CX P w) 5 (cWeb K) "bound" ["self", "a", "b"] [] (spBound K) := by
  obtain ⟨fd, F⟩ := T.f_Web_bound
  refine ⟨_, fd, [], F.ok sc_Web_bound (fun vs H Q E h => ?_) (fun cdv A outer s H vs Q E hr h => ?_), T.c_Web, T.m_Web_bound, F.bindsN fun _ _ _ _ _ _ us hl => match us, hl with | [_, _, _], _ => rfl, .nil⟩
  · obtain ⟨W, F, ks, ls, as, st, va, vb, ka, kb, rfl, _⟩ := h
    rfl
  obtain ⟨W, F, ks, ls, as, st, va, vb, ka, kb, rfl, hW, ha, hb, sa, sb, kk, e1, e2, e3⟩ := h
  refine ⟨_, ((pss_cons (ps_set (i := 3) sc_Web_bound.nd rfl (Or.inl rfl) (pmethE c_Web_place_of hr (L2N.passes_call (L2N.takes_of rfl rfl rfl rfl) (fun _ _ _ _ h => h)) (pv 0) (pa_cons (pv 1) pa_nil)))
        (pss_cons (ps_set (i := 4) sc_Web_bound.nd rfl (Or.inl rfl) (pmethE c_Web_place_of hr (L2N.passes_call (L2N.takes_of rfl rfl rfl rfl) (fun _ _ _ _ h => h)) (pv 0) (pa_cons (pv 2) pa_nil)))
        (pss_one (ps_ret (pe_ix (ix_listK K) (pmethE c_Web_from_spot hr (L2N.passes_call (L2N.takes_of rfl rfl rfl rfl) (fun _ _ _ _ h => h)) (pv 0) (pa_cons (pv 3) pa_nil)) (pv 4) (fun _ _ => rfl))))))), ?_⟩
  obtain ⟨dx0, fs0, eW0, lk0⟩ := hW.meth "place_of" (by decide)
  refine ⟨_, rfl, W, _, _, rfl, eW0, lk0, _, rfl, W, F, ks, ls, as, st, va, ka, rfl, hW, ha, sa, fun i hi => ?_, e1⟩
  have ma := List.mem_of_getElem? hi
  refine ⟨_, rfl, W, _, _, rfl, eW0, lk0, _, rfl, W, F, ks, ls, as, st, vb, kb, rfl, hW, hb, sb, fun j hj => ?_, e2 ma⟩
  have mb := List.mem_of_getElem? hj
  obtain ⟨dx1, fs1, eW1, lk1⟩ := hW.meth "from_spot" (by decide)
  refine ⟨_, rfl, W, _, _, rfl, eW1, lk1, _, rfl, W, F, ks, ls, as, st, i, rfl, hW, (List.getElem?_eq_some_iff.mp hi).1, fun H1 Bl d k1 w1 eB dd => ?_, e3 ma mb⟩
  exact ⟨_, rfl, Bl, _, _, _, rfl, rfl, SqL.of eB, fl_at rfl (List.getElem?_eq_some_iff.mp hj).1, kk i j H1 d hi hj k1 w1 dd⟩
theorem ok_steps (T : Tx K mg) (c_Web_from_spot : CalM P w K mg base (L2N.CX P w) 4 (cWeb K) "from_spot" ["self", "place"] [] (spFrom K id)) : CalM P w K mg base (L2N.CX P w) 5 (cWeb K) "steps_to" ["self", "first", "second"] [] (spSteps K) := by
  obtain ⟨fd, F⟩ := T.f_Web_steps_to
  refine ⟨_, fd, [], F.ok sc_Web_steps_to (fun vs H Q E h => ?_) (fun cdv A outer s H vs Q E hr h => ?_), T.c_Web, T.m_Web_steps_to, F.bindsN fun _ _ _ _ _ _ us hl => match us, hl with | [_, _, _], _ => rfl, .nil⟩
  · obtain ⟨W, F, ks, ls, as, st, i, b, rfl, _⟩ := h
    rfl
  obtain ⟨W, F, ks, ls, as, st, i, b, rfl, hW, hi, np, e1⟩ := h
  refine ⟨_, ((pss_cons (ps_expr (pmethE c_Web_from_spot hr (L2N.passes_call (L2N.takes_of rfl rfl rfl rfl) (fun _ _ _ _ h => h)) (pv 0) (pa_cons (pv 1) pa_nil))) pss_never)), ?_⟩
  obtain ⟨dx1, fs1, eW1, lk1⟩ := hW.meth "from_spot" (by decide)
  refine ⟨_, rfl, W, _, _, rfl, eW1, lk1, _, rfl, W, F, ks, ls, as, st, i, rfl, hW, hi, fun H1 Bl d k1 w1 eB dd => ?_, e1⟩
  obtain ⟨p, hp⟩ := w1.pot
  exact absurd hp (np p)
theorem ok_chain (T : Tx K mg) (c_Web_place_of : CalM P w K mg base (L2N.CX P w) 3 (cWeb K) "place_of" ["self", "spot"] [] (spPlace K)) (c_Web_steps_to : CalM P w K mg base (L2N.CX P w) 5 (cWeb K) "steps_to" ["self", "first", "second"] [] (spSteps K)) : CalM P w K mg base (L2N.CX P w) 6 (cWeb K) "chain" ["self", "a", "b"] [] (spChain K) := by
  obtain ⟨fd, F⟩ := T.f_Web_chain
  refine ⟨_, fd, [], F.ok sc_Web_chain (fun vs H Q E h => ?_) (fun cdv A outer s H vs Q E hr h => ?_), T.c_Web, T.m_Web_chain, F.bindsN fun _ _ _ _ _ _ us hl => match us, hl with | [_, _, _], _ => rfl, .nil⟩
  · obtain ⟨W, F, ks, ls, as, st, va, vb, ka, kb, rfl, _⟩ := h
    rfl
  obtain ⟨W, F, ks, ls, as, st, va, vb, ka, kb, rfl, hW, ha, hb, sa, sb, np, e1, e2, e3⟩ := h
  refine ⟨_, ((pss_cons (ps_set (i := 3) sc_Web_chain.nd rfl (Or.inl rfl) (pmethE c_Web_place_of hr (L2N.passes_call (L2N.takes_of rfl rfl rfl rfl) (fun _ _ _ _ h => h)) (pv 0) (pa_cons (pv 1) pa_nil)))
        (pss_cons (ps_set (i := 4) sc_Web_chain.nd rfl (Or.inl rfl) (pmethE c_Web_place_of hr (L2N.passes_call (L2N.takes_of rfl rfl rfl rfl) (fun _ _ _ _ h => h)) (pv 0) (pa_cons (pv 2) pa_nil)))
        (pss_one (ps_ret (pmethE c_Web_steps_to hr (L2N.passes_call (L2N.takes_of rfl rfl rfl rfl) (fun _ _ _ _ h => h)) (pv 0) (pa_cons (pv 3) (pa_cons (pv 4) pa_nil)))))))), ?_⟩
  obtain ⟨dx0, fs0, eW0, lk0⟩ := hW.meth "place_of" (by decide)
  refine ⟨_, rfl, W, _, _, rfl, eW0, lk0, _, rfl, W, F, ks, ls, as, st, va, ka, rfl, hW, ha, sa, fun i hi => ?_, e1⟩
  have ma := List.mem_of_getElem? hi
  refine ⟨_, rfl, W, _, _, rfl, eW0, lk0, _, rfl, W, F, ks, ls, as, st, vb, kb, rfl, hW, hb, sb, fun j hj => ?_, e2 ma⟩
  have mb := List.mem_of_getElem? hj
  obtain ⟨dx1, fs1, eW1, lk1⟩ := hW.meth "steps_to" (by decide)
  exact ⟨_, rfl, W, _, _, rfl, eW1, lk1, _, rfl, _, rfl, W, F, ks, ls, as, st, i, _, rfl, hW, (List.getElem?_eq_some_iff.mp hi).1, np ma mb, e3 ma mb⟩
theorem ok_grown (T : Tx K mg) (c_Web_from_spot : CalM P w K mg base (L2N.CX P w) 4 (cWeb K) "from_spot" ["self", "place"] [] (spFrom K id)) (c_World_init : CalC P w K mg base CX0 4 "World" (cWorld K) ["self", "pairs"] [] (spWorldInit K)) : CalM P w K mg base (L2N.CX P w) 6 (cWeb K) "grown" ["self", "place"] [] (spGrown K) := by
  obtain ⟨fd, F⟩ := T.f_Web_grown
  refine ⟨_, fd, [], F.ok sc_Web_grown (fun vs H Q E h => ?_) (fun cdv A outer s H vs Q E hr h => ?_), T.c_Web, T.m_Web_grown, F.bindsN fun _ _ _ _ _ _ us hl => match us, hl with | [_, _], _ => rfl, .nil⟩
  · obtain ⟨W, F, ks, ls, as, st, i, rfl, _⟩ := h
    rfl
  obtain ⟨W, F, ks, ls, as, st, i, rfl, hW, hi, kk, e1⟩ := h
  refine ⟨_, ((pss_cons (ps_set (i := 2) sc_Web_grown.nd rfl (Or.inr rfl) (pmethE c_Web_from_spot hr (L2N.passes_call (L2N.takes_of rfl rfl rfl rfl) (fun _ _ _ _ h => h)) (pv 0) (pa_cons (pv 1) pa_nil)))
        (pss_cons (ps_set (i := 3) sc_Web_grown.nd rfl (Or.inr rfl) (pe_ix (ix_listK K) (pv 2) pe_int (fun _ _ => rfl)))
        (pss_one (ps_ret (pmake c_World_init hr (pa_cons (pe_lc (own := [("k", 4), ("spot", 5)]) (tt := tYes) rfl sc_Web_grown.nd (pi_enumTK K (by rfl) T.b_enumerate (pa_cons (fldK K (pv 0)) pa_nil)) (blkOk_by (N := N_Web_grown) (sc := defScope s_Web_grown) (by decide +kernel)) (fun _ _ _ _ _ => (pg_tupK (n := 2) K rfl (pgs_cons (pg_name (i := 4) sc_Web_grown.nd rfl (Or.inl rfl)) (pgs_cons (pg_name (i := 5) sc_Web_grown.nd rfl (Or.inl rfl)) pgs_nil)))) (fun _ _ _ _ _ => pts_nil) (fun _ _ _ _ _ => (pe_tup (pa_cons (pv 5) (pa_cons (pe_tup (pa_cons (pe_op op_sub (pe_ix (ix_listK K) (pv 2) (pv 4) (fun _ _ => rfl)) (pv 3)) (pa_cons pe_int pa_nil))) pa_nil))))) pa_nil))))))), ?_⟩
  obtain ⟨dx1, fs1, eW1, lk1⟩ := hW.meth "from_spot" (by decide)
  refine ⟨_, rfl, W, _, _, rfl, eW1, lk1, _, rfl, W, F, ks, ls, as, st, i, rfl, hW, hi, fun H1 Bl d k1 w1 eB dd => ?_, e1⟩
  obtain ⟨dx, S, D, L, lv, br, on, bk, kvs, eW, ⟨xs, eS, rS⟩, _⟩ := id w1.ex
  have hs := w1.sp
  have lS := pr_len rS
  refine ⟨_, rfl, Bl, _, _, _, rfl, rfl, SqL.of eB, fl_at (i := 0) rfl hs.pos, ?_⟩
  refine ⟨_, rfl, W, _, _, _, _, rfl, eW, T.c_Web, T.n_spots, wf_spots, S, xs, rfl, SqT.of eS, fun D1 hD1 => ?_⟩
  refine lc_enumT (K := K) (a := S) (xs := xs) (fun i H2 => Same H1 H2 ∧ ∃ ys, H2 D1 = some (.lst ys) ∧ ys.length = i ∧ PVs H2 ys ks (gw d)) ⟨same_new hD1, [], upd_same, rfl, fun i x z => by cases z⟩ (fun i H2 _ p => SqT.of (p.1 _ _ eS)) ?_ ?_
  · rintro i x T2 H2 hx ⟨s2, ys, e2, l2, p2⟩ hT2
    obtain ⟨k, hk, tk⟩ := pr_get rS hx
    have sT := same_new (o := .tup [.int (i : Nat), x]) hT2
    have hin := (List.getElem?_eq_some_iff.mp hk).1
    refine ⟨T2, _, rfl, SqT.of upd_same, rfl, _, _, rfl, _, _, rfl, rfl, rfl, ?_⟩
    refine ⟨_, rfl, _, rfl, _, rfl, Bl, _, _, _, rfl, rfl, SqL.of ((s2.trans sT) _ _ eB), fl_at rfl hin, _, rfl, _, _, rfl, rfl, (show 2 ≤ sizeLine by decide), fun t3 ht3 => ?_⟩
    have s3 := same_new (o := .tup [.int (d i - d 0), .int 1]) ht3
    refine ⟨(show 2 ≤ sizeLine by decide), fun t4 ht4 => ?_⟩
    have s4 := same_new (o := .tup [x, .ref t3]) ht4
    have s24 := (sT.trans s3).trans s4
    refine ⟨ys, s24 _ _ e2, small1000 (by have := hs.n; omega), fun c o e => ?_, _, upd_same, by simp [l2], fun j y hj => ?_⟩
    · rw [upd_ne (ne_of_none e hD1)]
      exact s24 _ _ (s2 _ _ e)
    · have tp : TP _ (upd (upd (upd (upd H2 T2 (.tup [.int (i : Nat), x])) t3 (.tup [.int (d i - d 0), .int 1])) t4 (.tup [x, .ref t3])) D1 (.lst (ys ++ [.ref t4]))) := put_tp (s24 _ _ e2) fun _ z => by cases z
      by_cases hji : j < i
      · rw [List.getElem?_append_left (by omega)] at hj
        obtain ⟨k', e', pv⟩ := p2 j y hj
        exact ⟨k', e', pv.mono (TP.trans (same_tp s24) tp)⟩
      · have hj1 := (List.getElem?_eq_some_iff.mp hj).1
        rw [List.length_append, l2] at hj1
        have hj2 : j = i := by simp at hj1; omega
        subst hj2
        rw [← l2, List.getElem?_concat_length] at hj
        cases hj
        exact ⟨k, hk, t4, x, _, rfl, tp _ _ upd_same, tk.mono (TP.trans (same_tp (s2.trans s24)) tp), t3, rfl, tp _ _ (s4 _ _ upd_same)⟩
  · rintro H2 ⟨s2, ys, e2, l2, p2⟩
    intro O dx hO hdx hne
    refine ⟨O, dx, D1, ys, ks, gw d, rfl, upd_same, ?_, by rw [l2, lS], hs, ?_, fun j _ => low1 _, ?_, fun H3 p3 w3 => ?_⟩
    · rw [upd_ne (ne_of_none e2 hO), upd_ne (ne_of_none e2 hdx)]
      exact e2
    · intro j y hj
      obtain ⟨k', e', pv⟩ := p2 j y hj
      exact ⟨k', e', pv.mono (TP.trans (new_tp hdx) (new_tp (by rw [upd_ne hne.symm]; exact hO)))⟩
    · show (d 0 - d 0, (1 : Int)) = (0, 1)
      rw [Int.sub_self]
    · have s3 := s2.trans (make_same hO hdx p3)
      exact ⟨rfl, kk H3 O d (k1.trans (Pres.same s3)) (w1.same s3) dd w3⟩
theorem ok_reach (T : Tx K mg) (c_Web_place_of : CalM P w K mg base (L2N.CX P w) 3 (cWeb K) "place_of" ["self", "spot"] [] (spPlace K)) (c_Web_grown : CalM P w K mg base (L2N.CX P w) 6 (cWeb K) "grown" ["self", "place"] [] (spGrown K)) : CalM P w K mg base (L2N.CX P w) 7 (cWeb K) "reaching" ["self", "a", "b"] [] (spReach K) := by
  obtain ⟨fd, F⟩ := T.f_Web_reaching
  refine ⟨_, fd, [], F.ok sc_Web_reaching (fun vs H Q E h => ?_) (fun cdv A outer s H vs Q E hr h => ?_), T.c_Web, T.m_Web_reaching, F.bindsN fun _ _ _ _ _ _ us hl => match us, hl with | [_, _, _], _ => rfl, .nil⟩
  · obtain ⟨W, F, ks, ls, as, st, va, vb, ka, kb, rfl, _⟩ := h
    rfl
  obtain ⟨W, F, ks, ls, as, st, va, vb, ka, kb, rfl, hW, ha, hb, sa, sb, kk, e1, e2, e3⟩ := h
  refine ⟨_, ((pss_cons (ps_set (i := 3) sc_Web_reaching.nd rfl (Or.inl rfl) (pmethE c_Web_place_of hr (L2N.passes_call (L2N.takes_of rfl rfl rfl rfl) (fun _ _ _ _ h => h)) (pv 0) (pa_cons (pv 1) pa_nil)))
        (pss_cons (ps_expr (pmethE c_Web_place_of hr (L2N.passes_call (L2N.takes_of rfl rfl rfl rfl) (fun _ _ _ _ h => h)) (pv 0) (pa_cons (pv 2) pa_nil)))
        (pss_one (ps_ret (pmethE c_Web_grown hr (L2N.passes_call (L2N.takes_of rfl rfl rfl rfl) (fun _ _ _ _ h => h)) (pv 0) (pa_cons (pv 3) pa_nil))))))), ?_⟩
  obtain ⟨dx0, fs0, eW0, lk0⟩ := hW.meth "place_of" (by decide)
  refine ⟨_, rfl, W, _, _, rfl, eW0, lk0, _, rfl, W, F, ks, ls, as, st, va, ka, rfl, hW, ha, sa, fun i hi => ?_, e1⟩
  have ma := List.mem_of_getElem? hi
  refine ⟨_, rfl, W, _, _, rfl, eW0, lk0, _, rfl, W, F, ks, ls, as, st, vb, kb, rfl, hW, hb, sb, fun j hj => ?_, e2 ma⟩
  have mb := List.mem_of_getElem? hj
  obtain ⟨dx1, fs1, eW1, lk1⟩ := hW.meth "grown" (by decide)
  exact ⟨_, rfl, W, _, _, rfl, eW1, lk1, _, rfl, W, F, ks, ls, as, st, i, rfl, hW, (List.getElem?_eq_some_iff.mp hi).1, fun H1 O d k1 w1 dd wo => kk i j H1 O d hi hj k1 w1 dd wo, e3 ma mb⟩
theorem ok_high (T : Tx K mg) (c_Web_grown : CalM P w K mg base (L2N.CX P w) 6 (cWeb K) "grown" ["self", "place"] [] (spGrown K)) : CalM P w K mg base (L2N.CX P w) 7 (cWeb K) "highest" ["self"] [] (spHigh K) := by
  obtain ⟨fd, F⟩ := T.f_Web_highest
  refine ⟨_, fd, [], F.ok sc_Web_highest (fun vs H Q E h => ?_) (fun cdv A outer s H vs Q E hr h => ?_), T.c_Web, T.m_Web_highest, F.bindsN fun _ _ _ _ _ _ us hl => match us, hl with | [_], _ => rfl, .nil⟩
  · obtain ⟨W, F, ks, ls, as, st, rfl, _⟩ := h
    rfl
  obtain ⟨W, F, ks, ls, as, st, rfl, hW, kk, e1⟩ := h
  refine ⟨_, ((pss_one (ps_ret (pmethE c_Web_grown hr (L2N.passes_call (L2N.takes_of rfl rfl rfl rfl) (fun _ _ _ _ h => h)) (pv 0) (pa_cons pe_int pa_nil))))), ?_⟩
  obtain ⟨dx1, fs1, eW1, lk1⟩ := hW.meth "grown" (by decide)
  exact ⟨_, rfl, W, _, _, rfl, eW1, lk1, W, F, ks, ls, as, st, 0, rfl, hW, hW.sp.pos, kk, e1⟩
theorem ok_low (T : Tx K mg) (c_Web_to_spot : CalM P w K mg base (L2N.CX P w) 4 (cWeb K) "to_spot" ["self", "place"] [] (spFrom K rev)) (c_World_init : CalC P w K mg base CX0 4 "World" (cWorld K) ["self", "pairs"] [] (spWorldInit K)) : CalM P w K mg base (L2N.CX P w) 6 (cWeb K) "lowest" ["self"] [] (spLow K) := by
  obtain ⟨fd, F⟩ := T.f_Web_lowest
  refine ⟨_, fd, [], F.ok sc_Web_lowest (fun vs H Q E h => ?_) (fun cdv A outer s H vs Q E hr h => ?_), T.c_Web, T.m_Web_lowest, F.bindsN fun _ _ _ _ _ _ us hl => match us, hl with | [_], _ => rfl, .nil⟩
  · obtain ⟨W, F, ks, ls, as, st, rfl, _⟩ := h
    rfl
  obtain ⟨W, F, ks, ls, as, st, rfl, hW, kk, e1⟩ := h
  refine ⟨_, ((pss_cons (ps_set (i := 1) sc_Web_lowest.nd rfl (Or.inr rfl) (pmethE c_Web_to_spot hr (L2N.passes_call (L2N.takes_of rfl rfl rfl rfl) (fun _ _ _ _ h => h)) (pv 0) (pa_cons pe_int pa_nil)))
        (pss_one (ps_ret (pmake c_World_init hr (pa_cons (pe_lc (own := [("k", 2), ("spot", 3)]) (tt := tYes) rfl sc_Web_lowest.nd (pi_enumTK K (by rfl) T.b_enumerate (pa_cons (fldK K (pv 0)) pa_nil)) (blkOk_by (N := N_Web_lowest) (sc := defScope s_Web_lowest) (by decide +kernel)) (fun _ _ _ _ _ => (pg_tupK (n := 2) K rfl (pgs_cons (pg_name (i := 2) sc_Web_lowest.nd rfl (Or.inl rfl)) (pgs_cons (pg_name (i := 3) sc_Web_lowest.nd rfl (Or.inl rfl)) pgs_nil)))) (fun _ _ _ _ _ => pts_nil) (fun _ _ _ _ _ => (pe_tup (pa_cons (pv 3) (pa_cons (pe_tup (pa_cons (pe_un un_neg (pe_ix (ix_listK K) (pv 1) (pv 2) (fun _ _ => rfl))) (pa_cons pe_int pa_nil))) pa_nil))))) pa_nil)))))), ?_⟩
  obtain ⟨dx1, fs1, eW1, lk1⟩ := hW.meth "to_spot" (by decide)
  refine ⟨_, rfl, W, _, _, rfl, eW1, lk1, W, F, ks, ls, as, st, 0, rfl, hW, hW.sp.pos, fun H1 Bl d k1 w1 eB dd => ?_, e1⟩
  obtain ⟨dx, S, D, L, lv, br, on, bk, kvs, eW, ⟨xs, eS, rS⟩, _⟩ := id w1.ex
  have hs := w1.sp
  have lS := pr_len rS
  refine ⟨_, rfl, W, _, _, _, _, rfl, eW, T.c_Web, T.n_spots, wf_spots, S, xs, rfl, SqT.of eS, fun D1 hD1 => ?_⟩
  refine lc_enumT (K := K) (a := S) (xs := xs) (fun i H2 => Same H1 H2 ∧ ∃ ys, H2 D1 = some (.lst ys) ∧ ys.length = i ∧ PVs H2 ys ks (lw d)) ⟨same_new hD1, [], upd_same, rfl, fun i x z => by cases z⟩ (fun i H2 _ p => SqT.of (p.1 _ _ eS)) ?_ ?_
  · rintro i x T2 H2 hx ⟨s2, ys, e2, l2, p2⟩ hT2
    obtain ⟨k, hk, tk⟩ := pr_get rS hx
    have sT := same_new (o := .tup [.int (i : Nat), x]) hT2
    have hin := (List.getElem?_eq_some_iff.mp hk).1
    refine ⟨T2, _, rfl, SqT.of upd_same, rfl, _, _, rfl, _, _, rfl, rfl, rfl, ?_⟩
    refine ⟨_, rfl, _, rfl, _, rfl, Bl, _, _, _, rfl, rfl, SqL.of ((s2.trans sT) _ _ eB), fl_at rfl hin, _, rfl, (show 2 ≤ sizeLine by decide), fun t3 ht3 => ?_⟩
    have s3 := same_new (o := .tup [.int (-d i), .int 1]) ht3
    refine ⟨(show 2 ≤ sizeLine by decide), fun t4 ht4 => ?_⟩
    have s4 := same_new (o := .tup [x, .ref t3]) ht4
    have s24 := (sT.trans s3).trans s4
    refine ⟨ys, s24 _ _ e2, small1000 (by have := hs.n; omega), fun c o e => ?_, _, upd_same, by simp [l2], fun j y hj => ?_⟩
    · rw [upd_ne (ne_of_none e hD1)]
      exact s24 _ _ (s2 _ _ e)
    · have tp : TP _ (upd (upd (upd (upd H2 T2 (.tup [.int (i : Nat), x])) t3 (.tup [.int (-d i), .int 1])) t4 (.tup [x, .ref t3])) D1 (.lst (ys ++ [.ref t4]))) := put_tp (s24 _ _ e2) fun _ z => by cases z
      by_cases hji : j < i
      · rw [List.getElem?_append_left (by omega)] at hj
        obtain ⟨k', e', pv⟩ := p2 j y hj
        exact ⟨k', e', pv.mono (TP.trans (same_tp s24) tp)⟩
      · have hj1 := (List.getElem?_eq_some_iff.mp hj).1
        rw [List.length_append, l2] at hj1
        have hj2 : j = i := by simp at hj1; omega
        subst hj2
        rw [← l2, List.getElem?_concat_length] at hj
        cases hj
        exact ⟨k, hk, t4, x, _, rfl, tp _ _ upd_same, tk.mono (TP.trans (same_tp (s2.trans s24)) tp), t3, rfl, tp _ _ (s4 _ _ upd_same)⟩
  · rintro H2 ⟨s2, ys, e2, l2, p2⟩
    intro O dx hO hdx hne
    refine ⟨O, dx, D1, ys, ks, lw d, rfl, upd_same, ?_, by rw [l2, lS], hs, ?_, fun j _ => low1 _, ?_, fun H3 p3 w3 => ?_⟩
    · rw [upd_ne (ne_of_none e2 hO), upd_ne (ne_of_none e2 hdx)]
      exact e2
    · intro j y hj
      obtain ⟨k', e', pv⟩ := p2 j y hj
      exact ⟨k', e', pv.mono (TP.trans (new_tp hdx) (new_tp (by rw [upd_ne hne.symm]; exact hO)))⟩
    · show (-d 0, (1 : Int)) = (0, 1)
      rw [dd.s0]
      rfl
    · have s3 := s2.trans (make_same hO hdx p3)
      exact ⟨rfl, kk H3 O d (k1.trans (Pres.same s3)) (w1.same s3) dd w3⟩
theorem ok_follows (T : Tx K mg) (c_Web_bound : CalM P w K mg base (L2N.CX P w) 5 (cWeb K) "bound" ["self", "a", "b"] [] (spBound K)) : Cal P w K mg base (L2N.CX P w) 6 "follows" ["web", "link"] [] (spFollows K) := by
  obtain ⟨fd, F⟩ := T.f_follows
  refine ⟨_, fd, [], F.ok sc_follows (fun vs H Q E h => ?_) (fun cdv A outer s H vs Q E hr h => ?_), T.g_follows, F.kp, F.bindsN fun _ _ _ _ _ _ us hl => match us, hl with | [_, _], _ => rfl, .nil⟩
  · obtain ⟨W, F, p, ks, ls, as, st, va, vb, z, n, ka, kb, rfl, _⟩ := h
    rfl
  obtain ⟨W, F, p, ks, ls, as, st, va, vb, z, n, ka, kb, rfl, hW, ep, ha, hb, sa, sb, np, e1⟩ := h
  refine ⟨_, ((pss_one (ps_ret (pe_cmpR op_le (pmethE c_Web_bound hr (L2N.passes_call (L2N.takes_of rfl rfl rfl rfl) (fun _ _ _ _ h => h)) (pv 0) (pa_cons (pe_ix (ix_tupK K) (pv 1) pe_int (fun _ _ => rfl)) (pa_cons (pe_ix (ix_tupK K) (pv 1) pe_int (fun _ _ => rfl)) pa_nil))) (pe_ix (ix_tupK K) (pv 1) pe_int (fun _ _ => rfl)) (nomark _))))), ?_⟩
  obtain ⟨dx1, fs1, eW1, lk1⟩ := hW.meth "bound" (by decide)
  refine ⟨_, rfl, W, _, _, rfl, eW1, lk1, _, rfl, p, _, _, _, rfl, rfl, SqT.of ep, atI_nat (j := 0) rfl, _, rfl, p, _, _, _, rfl, rfl, SqT.of ep, atI_nat (j := 1) rfl, W, F, ks, ls, as, st, va, vb, ka, kb, rfl, hW, ha, hb, sa, sb, fun i j H1 d hi hj k1 w1 dd => ?_, e1⟩
  obtain ⟨q, hq⟩ := w1.pot
  exact absurd hq (np (List.mem_of_getElem? hi) (List.mem_of_getElem? hj) q)
theorem ok_slim (T : Tx K mg) (c_Web_sound : CalM P w K mg base (L2N.CX P w) 3 (cWeb K) "sound" ["self"] [] (spSound K)) : Cal P w K mg base (L2N.CX P w) 4 "slim" ["web"] [] (spSlim K) := by
  obtain ⟨fd, F⟩ := T.f_slim
  refine ⟨_, fd, [], F.ok sc_slim (fun vs H Q E h => ?_) (fun cdv A outer s H vs Q E hr h => ?_), T.g_slim, F.kp, F.bindsN fun _ _ _ _ _ _ us hl => match us, hl with | [_], _ => rfl, .nil⟩
  · obtain ⟨W, F, ks, ls, as, st, rfl, _⟩ := h
    rfl
  obtain ⟨W, F, ks, ls, as, st, rfl, hW, np, e1⟩ := h
  refine ⟨_, ((pss_cons (ps_expr (pmeth0E c_Web_sound hr (L2N.passes_call (L2N.takes_of rfl rfl rfl rfl) (fun _ _ _ _ h => h)) (pv 0))) pss_never)), ?_⟩
  obtain ⟨dx1, fs1, eW1, lk1⟩ := hW.meth "sound" (by decide)
  refine ⟨_, rfl, W, _, _, rfl, eW1, lk1, W, F, ks, ls, as, st, rfl, hW, fun H1 k1 w1 => ?_, e1⟩
  obtain ⟨q, hq⟩ := w1.pot
  exact absurd hq (np q)
theorem ok_more (T : Tx K mg) (c_check_links : Cal P w K mg base CX0 3 "check_links" ["table", "links"] [] spCheckLinks) (c_Web_init : CalC P w K mg base CX0 4 "Web" (cWeb K) ["self", "spots", "links", "sure"] [] (spWebInit K)) : CalM P w K mg base CX0 6 (cWeb K) "more" ["self", "links"] [] (spMore K) := by
  obtain ⟨fd, F⟩ := T.f_Web_more
  refine ⟨_, fd, [], F.ok sc_Web_more (fun vs H Q E h => ?_) (fun cdv A outer s H vs Q E hr h => ?_), T.c_Web, T.m_Web_more, F.bindsN fun _ _ _ _ _ _ us hl => match us, hl with | [_, _], _ => rfl, .nil⟩
  · obtain ⟨W, F, L, ks, ls, lx, as, ax, st, rfl, _⟩ := h
    rfl
  obtain ⟨W, F, L0, ks, ls, lx, as, ax, st, rfl, hW, hL, hwf, har, hlen, hne, hne', kk⟩ := h
  refine ⟨_, PSs.nox ((Evl.pss_cut (ps_set (i := 2) sc_Web_more.nd rfl (Or.inl rfl) (pe_callTy (tupofK K) (by rfl) T.b_tuple (by decide +kernel) (pa_cons (pv 1) pa_nil)))
        (pss_cons (ps_expr (pcall c_check_links hr (pa_cons (fldK K (pv 0)) (pa_cons (pv 2) pa_nil))))
        (pss_one (ps_ret (pmake c_Web_init hr (pa_cons (fldK K (pv 0)) (pa_cons (pe_op (catAK K) (fldK K (pv 0)) (pv 2)) (pa_cons pe_bl pa_nil))))))))), ?_⟩
  refine ⟨fun σ' H2 => ∃ L1 : Addr, σ' = [some (.ref W), some (.ref L0), some (.ref L1)] ∧ LinksT H2 L1 lx ∧ Same H H2, ?_, ?_⟩
  · rcases hL with ⟨xs, e, r⟩ | ⟨xs, e, r⟩
    · exact ⟨_, rfl, L0, xs, rfl, .inl ⟨SqL.of e, fun l hl => ⟨l, rfl, ⟨xs, upd_same, lvs_mono r (new_tp hl)⟩, same_new hl⟩⟩⟩
    · exact ⟨_, rfl, L0, xs, rfl, .inr ⟨SqT.of e, L0, rfl, ⟨xs, e, r⟩, Same.refl _⟩⟩
  rintro σ' H2 ⟨L1, rfl, hL1, s2⟩
  have w2 := hW.same s2
  obtain ⟨dx, S, D, L, lv, br, on, bk, kvs, eW, hS, eD, nD, ⟨xs, eL, rL⟩, _⟩ := id w2.ex
  obtain ⟨ys, eL1, rL1⟩ := id hL1
  have l1 := pr_len rL
  have l2 := pr_len rL1
  refine ⟨_, rfl, W, _, _, _, _, rfl, eW, T.c_Web, T.n_at, wf_at, _, rfl, D, L1, kvs, ks, lx, rfl, eD, nD, w2.sp, hL1, hwf, ?_⟩
  refine ⟨_, rfl, W, _, _, _, _, rfl, eW, T.c_Web, T.n_spots, wf_spots, _, rfl, W, _, _, _, _, rfl, eW, T.c_Web, T.n_links, wf_links, _, rfl, L, L1, xs, ys, rfl, rfl, SqT.of eL, SqT.of eL1, (Nat.le_trans (show xs.length + ys.length ≤ 60 by omega) (by decide)), fun z => ?_, fun _ z => ?_, fun _ _ p hp => ?_⟩
  · subst z
    exact absurd (List.length_eq_zero_iff.mp l1.symm) hne'
  · subst z
    exact absurd (List.length_eq_zero_iff.mp l2.symm) hne
  intro O dx' hO hdx hnx
  have sp1 := same_new (o := .tup (xs ++ ys)) hp
  have sO : Same (upd H2 p (.tup (xs ++ ys))) (upd (upd (upd H2 p (.tup (xs ++ ys))) dx' (.own O)) O (.ins (cWeb K) dx' [])) := (same_new hdx).trans (same_new (by rw [upd_ne hnx.symm]; exact hO))
  have sall := sp1.trans sO
  refine ⟨O, dx', S, p, true, ks, ls ++ lx, as ++ ax, rfl, upd_same, .inr (hS.mono (same_tp sall)), .inr ⟨_, sO _ _ upd_same, pr_app (lvs_mono rL (same_tp sall)) (lvs_mono rL1 (same_tp sall))⟩, w2.sp, ?_, pr_app w2.ar har, by rw [List.length_append]; exact hlen, ?_, (fun z => by cases z), fun F' H3 p3 hF' w3 => ⟨rfl, kk H3 O F' ?_ ?_ ?_ w3⟩⟩
  · have wf := w2.wf
    exact ⟨fun l m => (List.mem_append.mp m).elim (wf.a l) (hwf.a l), fun l m => (List.mem_append.mp m).elim (wf.b l) (hwf.b l), fun l m => (List.mem_append.mp m).elim (wf.ne l) (hwf.ne l), fun l m => (List.mem_append.mp m).elim (wf.y l) (hwf.y l)⟩
  · intro a b ha hb
    obtain ⟨r, wr⟩ := w2.con a b ha hb
    exact ⟨r, fun e he => List.mem_append_left _ (wr.m e he), wr.w⟩
  · exact (s2.trans sp1).trans (make_same hO hdx p3)
  · exact s2.free (sp1.free hO)
  · exact s2.free (sall.free hF')
end
end Ell
set_option maxHeartbeats 4000000
namespace Ell
open PySem PySem.Spec PyProof.Rows L2
/-! ### a class's own o[i], in, len -/
theorem fd_fnIn {K : PySem.W.Frag} {x q : Str} {st : Stmt} {dvs : List V} {f : Addr} (h : Fd K x q st dvs f) : PySem.W.fnIn K f = true := by
  obtain ⟨fd, F⟩ := h
  obtain ⟨oc, od, dV, kV, doc, pm, an, cdv, ct, osl, _, lk, _⟩ := F.ex
  unfold PySem.W.fnIn
  rw [lk]
section
variable {X : Cx} {CX : CXT} {k n : Nat} {f C : Addr} {fd : FuncData} {ps : List Str} {ds : List Value} {sp : Sp} {dvs : List V} {E : XK}
theorem run_in1 {pins : List (Addr × Obj)} {σ : L2.St} {H : Hp} {s : Shared} {Q : VK} {us : List Value} {vs : List V} (F : FnOk X.prog X.w X.K X.mg X.base CX k f fd ps sp) (hr : Room (k + 1) X.A) (hb : Binds X.K fd ps ds) (hd : Vals dvs ds) (hx : Passes CX X E)
    (I : Inv X pins σ H s) (r : Vals vs us) (h : sp (vs ++ dvs) H Q E) : wpAny (model X.prog X.w) X.A.in1 (call (.ref f) us) (EP X pins σ Q) X.xe s := by
  have r2 : Vals (vs ++ dvs) (us ++ ds) := r.append hd
  have hl : (us ++ ds).length = ps.length := by rw [← r2.length]; exact F.len _ _ _ _ h
  refine wpAny_call (codeAny_mono (F.run X.A.in1 X.stack s H ⟨us, []⟩ (us ++ ds) (vs ++ dvs) Q E hr.in1 I.env0.in1 (hb s us I.kIn hl) r2 h) fun r s' hq => ?_)
  cases r with
  | error e => exact hx pins σ H s e s' I hq
  | ok fl =>
    cases fl with
    | ret u => exact I.after hq
    | next => exact False.elim hq
    | brk => exact False.elim hq
    | cont => exact False.elim hq
def tSubO (C : Addr) (sp : Sp) (E : XK) (ta tb : TE) : TE := fun σ H Q => ta σ H fun x H1 => tb σ H1 fun y H2 => ∃ a dx fs, x = .ref a ∧ H2 a = some (.ins C dx fs) ∧ sp [x, y] H2 Q E
theorem pe_subO {a b : Expr} {ta tb : TE} {pos : Pos} {g : Addr} (c : CalM X.prog X.w X.K X.mg X.base CX k C "__getitem__" ps [] sp) (hm : Meth X.K C "__getitem__" g) (hg : PySem.W.fnIn X.K g = true) (hr : Room n X.A) (hx : Passes CX X E) (ha : PE X a ta) (hb : PE X b tb) (hk : k + 1 ≤ n := by decide)
    (hsl : ∀ x i, subscripted b true x i = runValue (.builtin "lifetime.subscript" ⟨[x, i], []⟩) := by intros; rfl) :
    PE X (.Subscript a b pos) (tSubO C sp E ta tb) := by
  obtain ⟨f, fd, ds, F, hc, hm', hbn, hd⟩ := c
  have e : f = g := by
    have h1 := hm'.at_
    rw [hm.at_] at h1
    cases h1
    rfl
  subst e
  refine ⟨fun pins s σ H Q I h => ?_⟩
  refine Subscript_ (thn (ha.run pins s σ H _ I h) fun u s1 ⟨x, H1, I1, rx, q1⟩ => thn (hb.run pins s1 σ H1 _ I1 q1) fun i s2 ⟨y, H2, I2, ry, a', dx, fs, ex, eA, q2⟩ => ?_)
  subst ex
  obtain rfl : u = Value.ref a' := rx
  obtain ⟨mA, J, _⟩ := ins_get I2.hok eA
  obtain ⟨od, J, _⟩ := J.look
  obtain ⟨m, hF⟩ := I2.fr
  exact PySem.W.sub_K hF I2.ok.mod.kin J hm'.at_ hg hm'.fn (run_in1 (us := [.ref a', i]) (vs := [.ref a', y]) F (hr.mono hk) hbn hd hx I2 (.cons rfl (.cons ry .nil)) (by cases hd; exact q2)) (hsl _ _)
def rNotInO (C : Addr) (sp : Sp) (E : XK) : R2 := fun x y H Q => ∃ a dx fs, y = .ref a ∧ H a = some (.ins C dx fs) ∧ sp [y, x] H (fun v H' => ∃ b, v = .bl b ∧ Q (.bl (!b)) H') E
theorem op_notInO (c : CalM X.prog X.w X.K X.mg X.base CX k C "__contains__" ps [] sp) (hr : Room n X.A) (hx : Passes CX X E) (hk : k ≤ n := by decide) : OpR X (compareOp .NotIn) (rNotInO C sp E) := by
  obtain ⟨f, fd, ds, F, hc, hm, hbn, hd⟩ := c
  intro pins s σ H x y v u Q I rx ry h
  obtain ⟨a, dx, fs, rfl, eA, q⟩ := h
  obtain rfl : u = Value.ref a := ry
  obtain ⟨mA, J, _⟩ := ins_get I.hok eA
  obtain ⟨od, J, _⟩ := J.look
  obtain ⟨m, hF⟩ := I.fr
  refine PySem.W.notIn_K hF I.ok.mod.kin J hm.at_ hm.fn (thn (run_fn (Q := fun v H' => ∃ b, v = .bl b ∧ Q (.bl (!b)) H') (us := [.ref a, v]) (vs := [.ref a, x]) F (hr.mono hk) hbn hd hx I (.cons rfl (.cons rx .nil)) (by cases hd; exact q)) fun r s1 ⟨z, H1, I1, rz, b, ez, q1⟩ => ?_)
  subst ez
  obtain rfl : r = Value.bool b := rz
  exact wpAny_truthy_bool ⟨.bl (!b), H1, I1, rfl, q1⟩
def rLenO (C : Addr) (sp : Sp) (E : XK) : List V → Hp → VK → Prop := fun xs H Q => ∃ a dx fs, xs = [.ref a] ∧ H a = some (.ins C dx fs) ∧ sp [.ref a] H (fun v H' => ∃ j : Nat, v = .int (j : Nat) ∧ j ≤ sizeLine ∧ Q (.int (j : Nat)) H') E
theorem call_lenO (c : CalM X.prog X.w X.K X.mg X.base CX k C "__len__" ps [] sp) (hr : Room n X.A) (hx : Passes CX X E) (hk : k + 1 ≤ n := by decide) : CallR X (.builtin "len") (rLenO C sp E) := by
  obtain ⟨f, fd, ds, F, hc, hm, hbn, hd⟩ := c
  intro pins s σ H xs us Q I rv h
  obtain ⟨a, dx, fs, rfl, eA, q⟩ := h
  obtain ⟨u, rfl, ru⟩ := rv.one
  cases ru
  obtain ⟨mA, J, _⟩ := ins_get I.hok eA
  obtain ⟨od, J, _⟩ := J.look
  obtain ⟨m, hF⟩ := I.fr
  refine PySem.W.len_K hF I.ok.mod.kin J hm.at_ hm.fn (thn (run_in1 (Q := fun v H' => ∃ j : Nat, v = .int (j : Nat) ∧ j ≤ sizeLine ∧ Q (.int (j : Nat)) H') (us := [.ref a]) (vs := [.ref a]) F (hr.mono hk) hbn hd hx I (.cons rfl .nil) (by cases hd; exact q)) fun r s1 ⟨z, H1, I1, rz, j, ez, hj, q1⟩ => ?_)
  subst ez
  obtain ⟨t, rfl⟩ := rz
  have := line63
  exact ⟨⟨by omega, by omega⟩, .int (j : Nat), H1, I1.tok _, ⟨_, rfl⟩, q1⟩
end
end Ell
set_option maxHeartbeats 4000000
namespace Ell
open PySem PySem.Spec PyProof.Rows L2
/-! ### a world's methods -/
def rLenTR : List V → Hp → VK → Prop := fun xs H Q => ∃ (p : Addr) (kvs : List (List Key × V)), xs = [.ref p] ∧ Rd H p (.dT kvs) ∧ Q (.int ((kvs.length : Nat) : Int)) H
theorem call_lenTR {X : Cx} : CallR X (.builtin "len") rLenTR := by
  intro pins s σ H xs us Q I r h
  obtain ⟨p, kvs, rfl, hp, q⟩ := h
  obtain ⟨u, rfl, rx⟩ := r.one
  obtain rfl : u = .ref p := rx
  obtain ⟨z, hd, ys, rel, o, es, ep, h1, h2, h3, h4, h5⟩ := (show ObjOk X.prog X.w H s.heap p (.dT kvs) from hp.ok I.hok)
  have hl : kvs.length = ys.length := Paired.length rel
  have dd : s.heap.DictOfH (tupleKind (mixKind X.prog X.w)) p ys := ⟨o, es, ep, h1, h2, h3, h4, fun y hy => by
    obtain ⟨x, _, e, t, _⟩ := pr_mem2 rel hy
    rw [← e]
    exact is_key I (.inl t), h5⟩
  refine call_len_dictH hd dd (by rw [← hl]; rw [sizeLine_eq] at z; omega) ?_
  rw [← hl]
  exact ⟨.int ((kvs.length : Nat) : Int), H, I.tok _, ⟨_, rfl⟩, q⟩
def spWLen2 (K : PySem.W.Frag) : Sp := fun vs H Q _ => ∃ (O dx Tb : Addr) (kvs : List (List Key × V)), vs = [.ref O] ∧ H O = some (.ins (cWorld K) dx [("table", .ref Tb)]) ∧ Rd H Tb (.dT kvs) ∧ kvs.length ≤ 1000 ∧ Q (.int ((kvs.length : Nat) : Int)) H
def Keeps (a b : Int × Int) (w : Int) : Prop := b.1 * a.2 - a.1 * b.2 ≤ w * a.2 * b.2
instance (a b : Int × Int) (w : Int) : Decidable (Keeps a b w) := by unfold Keeps; exact inferInstance
def spWGap (K : PySem.W.Frag) : Sp := fun vs H Q _ => ∃ (O : Addr) (ks : List (List Key)) (wv : WV) (va vb : V) (ka kb : List Key) (i j : Nat), vs = [.ref O, va, vb] ∧ WorldAt K H O ks wv ∧ Lows ks wv ∧ TK H va ka ∧ TK H vb kb ∧ IsSp ka ∧ IsSp kb ∧ ks[i]? = some ka ∧ ks[j]? = some kb ∧
  ∀ H' v (n d : Int), Same H H' → RV H' v n d → 1 ≤ d → d ≤ 4 → (∀ w, n ≤ w * d ↔ Keeps (wv i) (wv j) w) → Q v H'
def spWKeeps (K : PySem.W.Frag) : Sp := fun vs H Q _ => ∃ (O : Addr) (ks : List (List Key)) (wv : WV) (lv : V) (l : Lk) (i j : Nat), vs = [.ref O, lv] ∧ WorldAt K H O ks wv ∧ Lows ks wv ∧ LV H lv l ∧ IsSp l.a ∧ IsSp l.b ∧ ks[i]? = some l.a ∧ ks[j]? = some l.b ∧
  ∀ H', Same H H' → Q (.bl (decide (Keeps (wv i) (wv j) l.w))) H'
def spAllows (K : PySem.W.Frag) : Sp := fun vs H Q _ => ∃ (W F O : Addr) (ks : List (List Key)) (ls : List Lk) (as : List Arc) (st : WState) (wv : WV), vs = [.ref W, .ref O] ∧ WebAt K H W F ks ls as st ∧ WorldAt K H O ks wv ∧ Lows ks wv ∧
  ∀ H', Same H H' → Q (.bl (as.all fun e => decide (Keeps (wv e.1) (wv e.2.1) e.2.2))) H'
section
variable {P : Program} {w : World} {K : PySem.W.Frag} {mg : Str → Option Value} {base : Heap}
theorem ok_wlen (T : Tx K mg) : CalM P w K mg base CX0 1 (cWorld K) "__len__" ["self"] [] (spWLen2 K) := by
  obtain ⟨fd, F⟩ := T.f_World_len
  refine ⟨_, fd, [], F.ok sc_World_len (fun vs H Q E h => ?_) (fun cdv A outer s H vs Q E hr h => ?_), T.c_World, T.m_World_len, F.bindsN fun _ _ _ _ _ _ us hl => match us, hl with | [_], _ => rfl, .nil⟩
  · obtain ⟨O, dx, Tb, kvs, rfl, _⟩ := h
    rfl
  obtain ⟨O, dx, Tb, kvs, rfl, eO, eT, hl, kk⟩ := h
  refine ⟨_, PSs.nox ((pss_one (ps_ret (pe_callB call_lenTR (by rfl) T.b_len PySem.boot_len (pa_cons (fldK K (pv 0)) pa_nil))))), ?_⟩
  exact ⟨_, rfl, O, _, _, _, _, rfl, eO, T.c_World, T.n_table, wl_table, Tb, kvs, rfl, eT, kk⟩
theorem ok_gap (T : Tx K mg) (c_World_getitem : CalM P w K mg base CX0 3 (cWorld K) "__getitem__" ["self", "spot"] [] (spWGet K)) (c_minus : Cal P w K mg base CX0 2 "minus" ["a", "b"] [] spMinus) : CalM P w K mg base CX0 5 (cWorld K) "gap" ["self", "a", "b"] [] (spWGap K) := by
  obtain ⟨fd, F⟩ := T.f_World_gap
  refine ⟨_, fd, [], F.ok sc_World_gap (fun vs H Q E h => ?_) (fun cdv A outer s H vs Q E hr h => ?_), T.c_World, T.m_World_gap, F.bindsN fun _ _ _ _ _ _ us hl => match us, hl with | [_, _, _], _ => rfl, .nil⟩
  · obtain ⟨O, ks, wv, va, vb, ka, kb, i, j, rfl, _⟩ := h
    rfl
  obtain ⟨O, ks, wv, va, vb, ka, kb, i, j, rfl, hO, hlow, ha, hb, sa, sb, hi, hj, kk⟩ := h
  refine ⟨_, PSs.nox ((pss_cons (ps_set (i := 3) sc_World_gap.nd rfl (Or.inl rfl) (pe_subO c_World_getitem T.m_World_getitem (fd_fnIn T.f_World_getitem) hr pass0 (pv 0) (pv 1)))
        (pss_one (ps_ret (pcall c_minus hr (pa_cons (pe_subO c_World_getitem T.m_World_getitem (fd_fnIn T.f_World_getitem) hr pass0 (pv 0) (pv 2)) (pa_cons (pv 3) pa_nil))))))), ?_⟩
  obtain ⟨dx, Tb, kvs, eO, _⟩ := id hO
  obtain ⟨a1, a2, _⟩ := hlow i (List.getElem?_eq_some_iff.mp hi).1
  obtain ⟨b1, b2, _⟩ := hlow j (List.getElem?_eq_some_iff.mp hj).1
  refine ⟨_, rfl, _, rfl, O, _, _, rfl, eO, O, _, ks, wv, ka, i, rfl, hO, ha, sa, hi, fun y hy => ?_⟩
  refine ⟨_, rfl, _, rfl, O, _, _, rfl, eO, O, _, ks, wv, kb, j, rfl, hO, hb, sb, hj, fun z hz => ?_⟩
  refine ⟨_, rfl, z, y, _, _, _, _, rfl, hz, hy, b1, b2, a1, a2, fun p N D H' s' hN d1 d4 e => kk H' _ N D s' hN d1 d4 fun w => ?_⟩
  unfold Keeps
  have pos : 0 < (wv j).2 * (wv i).2 := Int.mul_pos (by omega) (by omega)
  have e2 : w * (wv i).2 * (wv j).2 = w * ((wv j).2 * (wv i).2) := by rw [Int.mul_assoc, Int.mul_comm (wv i).2]
  rw [e2]
  have posD : 0 < D := by omega
  constructor
  · intro h
    have h1 : N * ((wv j).2 * (wv i).2) ≤ w * D * ((wv j).2 * (wv i).2) := Int.mul_le_mul_of_nonneg_right h (Int.le_of_lt pos)
    rw [e] at h1
    have h2 : w * D * ((wv j).2 * (wv i).2) = w * ((wv j).2 * (wv i).2) * D := by rw [Int.mul_assoc, Int.mul_comm D, ← Int.mul_assoc]
    rw [h2] at h1
    exact Int.le_of_mul_le_mul_right h1 posD
  · intro h
    have h1 := Int.mul_le_mul_of_nonneg_right h (Int.le_of_lt posD)
    rw [← e] at h1
    have h2 : w * ((wv j).2 * (wv i).2) * D = w * D * ((wv j).2 * (wv i).2) := by rw [Int.mul_assoc, Int.mul_comm _ D, ← Int.mul_assoc]
    rw [h2] at h1
    exact Int.le_of_mul_le_mul_right h1 pos
theorem ok_keeps (T : Tx K mg) (c_World_gap : CalM P w K mg base CX0 5 (cWorld K) "gap" ["self", "a", "b"] [] (spWGap K)) (c_compare : Cal P w K mg base CX0 1 "compare" ["a", "b"] [] spCompare) : CalM P w K mg base CX0 6 (cWorld K) "keeps" ["self", "link"] [] (spWKeeps K) := by
  obtain ⟨fd, F⟩ := T.f_World_keeps
  refine ⟨_, fd, [], F.ok sc_World_keeps (fun vs H Q E h => ?_) (fun cdv A outer s H vs Q E hr h => ?_), T.c_World, T.m_World_keeps, F.bindsN fun _ _ _ _ _ _ us hl => match us, hl with | [_, _], _ => rfl, .nil⟩
  · obtain ⟨O, ks, wv, lv, l, i, j, rfl, _⟩ := h
    rfl
  obtain ⟨O, ks, wv, lv, l, i, j, rfl, hO, hlow, hl, sa, sb, hi, hj, kk⟩ := h
  refine ⟨_, PSs.nox ((pss_one (ps_ret (pe_cmpR op_le (pcall c_compare hr (pa_cons (pmeth c_World_gap hr (pv 0) (pa_cons (pe_ix (ix_tupK K) (pv 1) pe_int (fun _ _ => rfl)) (pa_cons (pe_ix (ix_tupK K) (pv 1) pe_int (fun _ _ => rfl)) pa_nil))) (pa_cons (pe_tup (pa_cons (pe_ix (ix_tupK K) (pv 1) pe_int (fun _ _ => rfl)) (pa_cons pe_int pa_nil))) pa_nil))) pe_int (nomark _))))), ?_⟩
  obtain ⟨dx, Tb, kvs, eO, _⟩ := id hO
  obtain ⟨p, x, y, z, rfl, ep, hx, hy, hz⟩ := hl
  refine ⟨_, rfl, O, _, _, rfl, eO, by kernel_rfl, _, rfl, p, _, _, _, rfl, rfl, SqT.of ep, atI_nat (j := 0) rfl, _, rfl, p, _, _, _, rfl, rfl, SqT.of ep, atI_nat (j := 1) rfl, O, ks, wv, x, y, l.a, l.b, i, j, rfl, hO, hlow, hx, hy, sa, sb, hi, hj, fun H1 v n d s1 hv d1 d4 hk => ?_⟩
  refine ⟨_, rfl, p, _, _, _, rfl, rfl, SqT.of (s1 _ _ ep), atI_nat (j := 2) rfl, (show 2 ≤ sizeLine by decide), fun q hq => ?_⟩
  have s2 := same_new (o := .tup [.int l.w, .int 1]) hq
  refine ⟨v, .ref q, n, d, l.w, rfl, hv.mono (same_tp s2), ⟨q, rfl, upd_same⟩, d1, d4, fun c hc => ?_⟩
  refine ⟨_, _, rfl, rfl, ?_⟩
  have e : decide (c ≤ 0) = decide (Keeps (wv i) (wv j) l.w) := by
    rw [decide_eq_decide]
    exact hc.trans (hk l.w)
  show Q (.bl (decide (c ≤ 0))) _
  rw [e]
  exact kk _ (s1.trans s2)
theorem ok_allows (T : Tx K mg) (c_World_contains : CalM P w K mg base CX0 3 (cWorld K) "__contains__" ["self", "spot"] [] (spWIn K)) (c_World_keeps : CalM P w K mg base CX0 6 (cWorld K) "keeps" ["self", "link"] [] (spWKeeps K)) : CalM P w K mg base CX0 7 (cWeb K) "allows" ["self", "world"] [] (spAllows K) := by
  obtain ⟨fd, F⟩ := T.f_Web_allows
  refine ⟨_, fd, [], F.ok sc_Web_allows (fun vs H Q E h => ?_) (fun cdv A outer s H vs Q E hr h => ?_), T.c_Web, T.m_Web_allows, F.bindsN fun _ _ _ _ _ _ us hl => match us, hl with | [_, _], _ => rfl, .nil⟩
  · obtain ⟨W, F, O, ks, ls, as, st, wv, rfl, _⟩ := h
    rfl
  obtain ⟨W, F, O, ks, ls, as, st, wv, rfl, hW, hO, hlow, kk⟩ := h
  refine ⟨_, PSs.nox ((pss_cons (ps_for PassesOwn.never rfl (pi_tupK K (fldK K (pv 0))) (pg_name (i := 2) sc_Web_allows.nd rfl (Or.inl rfl))
          (pss_one (ps_if (pt_cmpR (op_notInO c_World_contains hr pass0) (pv 2) (pv 1) rfl) (pss_one (ps_ret pe_bl)) pss_nil)))
        (pss_cons (ps_for PassesOwn.never rfl (pi_tupK K (fldK K (pv 0))) (pg_name (i := 3) sc_Web_allows.nd rfl (Or.inl rfl))
          (pss_one (ps_if (pt_not (pt_val (pmeth c_World_keeps hr (pv 1) (pa_cons (pv 3) pa_nil)))) (pss_one (ps_ret pe_bl)) pss_nil)))
        (pss_one (ps_ret pe_bl))))), ?_⟩
  obtain ⟨dxo, Tb, kvs, eO, _⟩ := id hO
  obtain ⟨dx, S, D, L, lv, br, on, bk, kvs', eW, ⟨xs, eS, rS⟩, eD, nD, ⟨ys, eL, rL⟩, _⟩ := id hW.ex
  have hs := hW.sp
  have har := hW.ar
  have ly := pr_len rL
  have la := pr_len har
  refine ⟨_, rfl, W, _, _, _, _, rfl, eW, T.c_Web, T.n_spots, wf_spots, S, rfl, ⟨_, SqT.of eS⟩, for_tup (K := K) (a := S) (xs := xs) (fun i σ H2 => H2 = H ∧ ∃ o2, σ = [some (.ref W), some (.ref O), o2, none]) ⟨rfl, _, rfl⟩ (fun i σ H2 _ h => (by rw [h.1]; exact SqT.of eS)) ?_ ?_⟩
  · rintro i x σ H2 hi ⟨rfl, o2, rfl⟩
    obtain ⟨k, hk, tk⟩ := pr_get rS hi
    have hm := List.mem_of_getElem? hk
    refine ⟨_, rfl, _, rfl, O, _, _, rfl, eO, O, _, ks, wv, k, rfl, hO, tk, hs.sp k hm, hm, true, rfl, ?_⟩
    exact ⟨_, rfl, ite2 (fun z => by cases z) (fun _ => ⟨rfl, _, rfl⟩)⟩
  · rintro σ H2 ⟨rfl, o2, rfl⟩
    refine ⟨_, rfl, W, _, _, _, _, rfl, eW, T.c_Web, T.n_links, wf_links, L, rfl, ⟨_, SqT.of eL⟩, for_tup (K := K) (a := L) (xs := ys) (fun i σ H3 => Same H2 H3 ∧ ((as.take i).all fun e => decide (Keeps (wv e.1) (wv e.2.1) e.2.2)) = true ∧ ∃ o3, σ = [some (.ref W), some (.ref O), o2, o3]) ⟨Same.refl _, by simp, _, rfl⟩ (fun i σ H3 _ h => SqT.of (h.1 _ _ eL)) ?_ ?_⟩
    · rintro i x σ H3 hi ⟨s3, hall, o3, rfl⟩
      obtain ⟨l, hl, lvx⟩ := pr_get rL hi
      obtain ⟨e, he, ar⟩ := pr_get har hl
      obtain ⟨e1, e2, e3⟩ := ar
      refine ⟨_, rfl, O, _, _, rfl, s3 _ _ eO, by kernel_rfl, _, rfl, O, ks, wv, x, l, e.1, e.2.1, rfl, hO.same s3, hlow, lvx.mono (same_tp s3), hs.sp _ (List.mem_of_getElem? e1), hs.sp _ (List.mem_of_getElem? e2), e1, e2, fun H4 s4 => ?_⟩
      by_cases hk : Keeps (wv e.1) (wv e.2.1) l.w
      · rw [decide_eq_true hk]
        refine ⟨_, rfl, ite2 (fun z => by cases z) (fun _ => ⟨s3.trans s4, ?_, _, rfl⟩)⟩
        rw [take_snoc he, List.all_append, hall]
        simp only [List.all_cons, List.all_nil, Bool.and_true, Bool.true_and, decide_eq_true_eq]
        rw [e3]
        exact hk
      · rw [decide_eq_false hk]
        refine ⟨_, rfl, ite2 (fun _ => ?_) (fun z => absurd rfl z)⟩
        have ef : (as.all fun e => decide (Keeps (wv e.1) (wv e.2.1) e.2.2)) = false := by
          rw [List.all_eq_false]
          refine ⟨e, List.mem_of_getElem? he, ?_⟩
          rw [e3]
          simp [hk]
        have := kk H4 (s3.trans s4)
        rw [ef] at this
        exact this
    · rintro σ H3 ⟨s3, hall, o3, rfl⟩
      have := kk H3 s3
      rw [ly, la, List.take_length] at hall
      rw [hall] at this
      exact this
end
end Ell
set_option maxHeartbeats 4000000
namespace Ell
open PySem PySem.Spec PyProof.Rows L2
/-! ### list(world) -/
def itO (od : Obj) (d I : Addr) : HO := .ext fun h => ∃ es ep, od.data = .dict es ep ∧ h.IsKeyIter I d 0 es.size ep
def rIterD : List V → Hp → VK → Prop := fun xs H Q => ∃ (d : Addr) (od : Obj) (kvs : List (List Key × V)), xs = [.ref d] ∧ H d = some (.frz od (.dT kvs)) ∧ ∀ I, H I = none → Q (.ref I) (upd H I (itO od d I))
theorem call_iterD {X : Cx} : CallR X (.builtin "iter") rIterD := by
  intro pins s σ H xs us Q I rv h
  obtain ⟨d, od, kvs, rfl, hd, kk⟩ := h
  obtain ⟨u, rfl, ru⟩ := rv.one
  obtain rfl : u = .ref d := ru
  obtain ⟨hs, hgd, hx, es, ep, hdt, hsz, ent⟩ := I.frzT hd
  refine Calls.call_function_entry (by decide +kernel) (by decide +kernel) PySem.W.kdk_entry_iter (PySem.W.kdk_args_iter _) ?_
  unfold Builtin.«iter»
  refine wpAny_bind (m := someArgs "iter" 1 2 _) (wpAny_of_eq (a := [Value.ref d]) (by first | rfl | kernel_rfl!) ?_)
  show wpAny _ _ (pyIter (.ref d) >>= _) _ _ _
  refine wpAny_bind (iter_keys hs hgd hx hdt ?_)
  have hn := I.hok.fresh (Nat.le_refl s.heap.objs.size)
  refine wpAny_pure ⟨_, rfl, .ref s.heap.objs.size, _, I.laid (a := s.heap.objs.size) (o := itO od d s.heap.objs.size) (t' := s.toks) (fun _ _ q => Heap.get?_push_of_some _ q) (Nat.le_refl _) ⟨⟨es, ep, hdt, ⟨_, Heap.get?_push_size _ rfl, rfl, rfl⟩⟩, ⟨_, Heap.get?_push_size _ rfl⟩, fun h1 h2 p k => ?_⟩, rfl, kk _ hn⟩
  obtain ⟨es', ep', e1, o, e2, e3⟩ := p
  exact ⟨es', ep', e1, o, k _ e2, e3⟩
def spWIter (K : PySem.W.Frag) : Sp := fun vs H Q _ => ∃ (O dx Tb : Addr) (od : Obj) (kvs : List (List Key × V)), vs = [.ref O] ∧ H O = some (.ins (cWorld K) dx [("table", .ref Tb)]) ∧ H Tb = some (.frz od (.dT kvs)) ∧ ∀ I, H I = none → Q (.ref I) (upd H I (itO od Tb I))
section
variable {P : Program} {w : World} {K : PySem.W.Frag} {mg : Str → Option Value} {base : Heap}
theorem ok_witer (T : Tx K mg) : CalM P w K mg base CX0 1 (cWorld K) "__iter__" ["self"] [] (spWIter K) := by
  obtain ⟨fd, F⟩ := T.f_World_iter
  refine ⟨_, fd, [], F.ok sc_World_iter (fun vs H Q E h => ?_) (fun cdv A outer s H vs Q E hr h => ?_), T.c_World, T.m_World_iter, F.bindsN fun _ _ _ _ _ _ us hl => match us, hl with | [_], _ => rfl, .nil⟩
  · obtain ⟨O, dx, Tb, od, kvs, rfl, _⟩ := h
    rfl
  obtain ⟨O, dx, Tb, od, kvs, rfl, eO, eT, kk⟩ := h
  refine ⟨_, PSs.nox ((pss_one (ps_ret (pe_callB call_iterD (by rfl) T.b_iter (by decide +kernel) (pa_cons (fldK K (pv 0)) pa_nil))))), ?_⟩
  exact ⟨_, rfl, O, _, _, _, _, rfl, eO, T.c_World, T.n_table, wl_table, Tb, od, kvs, rfl, eT, kk⟩
end
section
variable {X : Cx} {k n : Nat} {f C : Addr} {fd : FuncData} {ps : List Str} {ds : List Value} {sp : Sp}
/-- a def without exceptions runs at a place behind ours -/
theorem run_sub {pins : List (Addr × Obj)} {σ : L2.St} {H : Hp} {s : Shared} {Q : VK} {us : List Value} {vs : List V} {A1 : Around} {E : Value → Shared → Prop} (sb : Sub X k A1) (F : FnOk X.prog X.w X.K X.mg X.base CX0 k f fd ps sp) (hb : Binds X.K fd ps [])
    (I : Inv X pins σ H s) (r : Vals vs us) (h : sp vs H Q E0) : wpAny (model X.prog X.w) A1 (call (.ref f) us) (EP X pins σ Q) E s := by
  have e0 : Env0 X.prog X.w X.K X.mg X.base A1 X.stack s H := by
    have e := I.env0
    exact ⟨by rw [sb.fr]; exact e.frames, e.mod, e.bs, e.bsz, e.funs, e.frf, e.hok, e.bare⟩
  have hl : (us ++ []).length = ps.length := by rw [List.append_nil, ← r.length]; exact F.len _ _ _ _ h
  have b := hb s us I.kIn hl
  rw [List.append_nil] at b
  refine wpAny_call (codeAny_mono (F.run A1 X.stack s H ⟨us, []⟩ us vs Q E0 sb.room e0 b r h) fun r s' hq => ?_)
  cases r with
  | error e => exact False.elim hq
  | ok fl =>
    cases fl with
    | ret u => exact I.after hq
    | next => exact False.elim hq
    | brk => exact False.elim hq
    | cont => exact False.elim hq

def rListW (K : PySem.W.Frag) : List V → Hp → VK → Prop := fun xs H Q => ∃ (O dx Tb : Addr) (kvs : List (List Key × V)), xs = [.ref O] ∧ H O = some (.ins (cWorld K) dx [("table", .ref Tb)]) ∧ H Tb = some (.dT kvs) ∧ kvs.length ≤ 1000 ∧
  ∀ (p : Addr) (bs : List Addr) (H' : Hp), Same H H' → IsKeys H' kvs bs → H p = none → H' p = some (.lst (bs.map V.ref)) → Q (.ref p) H'
/-- the iterator's names are found -/
theorem it_next {M : Model} {A : Around} {Q : Value → Shared → Prop} {E : Value → Shared → Prop} {s : Shared} {I d : Addr} {i n ep : Nat} (h : s.heap.IsKeyIter I d i n ep) (q : Q (.ref I) s) : PySem.W.OwitIt M A Q E (.ref I) s := by
  unfold PySem.W.OwitIt
  exact wpAny_specialOf (name := Str.ofString "__next__") h.typeIs PySem.F.slot_dict_keyiterator_next.lookup q
theorem own_len_hint {kl : Nat} {A1 : Around} {pins : List (Addr × Obj)} {σ : L2.St} {H : Hp} {s : Shared} {O dx fl : Addr} {fs : List (Str × V)} {fd : FuncData} {ps : List Str} {E : Value → Shared → Prop} {P : Bool → Shared → Prop} (K : PySem.W.Frag) (hK : X.K = K) (sb : Sub X (kl + 1) A1)
    (FL : FnOk X.prog X.w X.K X.mg X.base CX0 kl fl fd ps (spWLen2 K)) (bL : Binds X.K fd ps []) (mL : Meth X.K (cWorld K) "__len__" fl) (I : Inv X pins σ H s) (eO : H O = some (.ins (cWorld K) dx fs))
    (hsp : spWLen2 K [.ref O] H (fun v H' => ∃ j : Nat, v = .int (j : Nat) ∧ j ≤ 1000 ∧ H' = H) E0) (h : ∀ b s', Inv X pins σ H s' → P b s') :
    wpAny (model X.prog X.w) A1 (Builtin.List.listLengthHint (.ref O)) P E s := by
  obtain ⟨mA, J, _⟩ := ins_get I.hok eO
  obtain ⟨od, J, _⟩ := J.look
  obtain ⟨m, hF⟩ := I.fr
  unfold Builtin.List.listLengthHint
  refine wpAny_bind (wpAny_bind (J.type.here ((PySem.W.looks_findIn I.kIn mL.at_).here ?_)))
  refine PySem.W.KFB.if_not rfl ?_
  rw [if_pos (show (some (Value.ref fl)).isSome = true from rfl)]
  refine wpAny_bind (wpAny_rule ?_)
  refine wpAny_bind (wpAny_attempt (PySem.W.len_K hF I.ok.mod.kin J mL.at_ mL.fn (thn (run_sub (Q := fun v H' => ∃ j : Nat, v = .int (j : Nat) ∧ j ≤ 1000 ∧ H' = H) sb.in1 FL bL I (us := [.ref O]) (vs := [.ref O]) (.cons rfl .nil) hsp) fun r s1 ⟨z, H1, I1, rz, j, ez, hj, eH⟩ => ?_)))
  subst ez eH
  obtain ⟨t, rfl⟩ := rz
  refine ⟨⟨by omega, by omega⟩, ?_⟩
  show wpAny _ _ (asInt? (Value.int (j : Nat) s1.toks) >>= _) _ _ _
  refine wpAny_bind (wpAny_of_eq (a := some ((j : Nat) : Int)) (by first | rfl | kernel_rfl) ?_)
  have hz := sizeLine_eq
  refine wpAny_ite_split (fun hx => ?_) (fun _ => wpAny_pure (h _ _ (I1.tok _)))
  exfalso
  have hx : decide (((j : Nat) : Int).toNat > sizeLine) = true := hx
  have hx := of_decide_eq_true hx
  omega

theorem Inv_two {pins : List (Addr × Obj)} {σ : L2.St} {H : Hp} {s : Shared} {h' : Heap} {t' : Nat} {q it : Addr} {xs ys : List V} {φ : Heap → Prop} (I : Inv X pins σ H s) (e1 : H q = some (.lst xs)) (e2 : H it = some (.ext φ)) (k : ∀ b o, b ≠ q → b ≠ it → s.heap.get? b = some o → h'.get? b = some o)
    (hi : ∃ o, h'.get? it = some o) (hz : ys.length ≤ sizeLine) {its : List Value} {c : Nat} (rv : Vals ys its) (hq : h'.get? q = some { cls := .type "list", data := .seq its.toArray c }) :
    Inv X pins σ (upd (upd H it (.ext fun h => ∃ o, h.get? it = some o)) q (.lst ys)) { s with heap := h', toks := t' } := by
  have nf : ∀ b, H b = none → b ≠ q ∧ b ≠ it := fun b e => ⟨fun z => (by rw [z, e1] at e; cases e), fun z => (by rw [z, e2] at e; cases e)⟩
  have nu : ∀ b u, H b = some u → (∀ zs, u ≠ .lst zs) → (∀ ψ, u ≠ .ext ψ) → b ≠ q ∧ b ≠ it := fun b u e n1 n2 => ⟨fun z => (by rw [z, e1] at e; cases e; exact n1 _ rfl), fun z => (by rw [z, e2] at e; cases e; exact n2 _ rfl)⟩
  have keepU : ∀ b, b ≠ q ∧ b ≠ it → upd (upd H it (.ext fun h => ∃ o, h.get? it = some o)) q (.lst ys) b = H b := fun b n => by rw [upd_ne n.1, upd_ne n.2]
  refine I.step (g' := s.gens) (d' := s.drawn) (ch := []) (fun b hb => by cases hb) (fun b o _ _ _ e n => k b o (nf b n).1 (nf b n).2 e) (fun b o _ _ _ e n => ⟨o.slots, k b o (nf b n).1 (nf b n).2 e⟩)
    (fun b _ _ _ n => (keepU b (nf b n)).trans n) (fun b o _ e => ?_) (fun b zs e => (keepU b (nu b _ e (fun _ z => nomatch z) fun _ z => nomatch z)).trans e) (fun b o u e => (keepU b (nu b _ e (fun _ z => nomatch z) fun _ z => nomatch z)).trans e) (fun b ps e => ⟨#[], ?_⟩) (fun m hm => ?_) (fun b u e => ?_) I.bare
  · by_cases hb : b = q
    · subst hb
      exact ⟨_, hq⟩
    · by_cases hb2 : b = it
      · subst hb2
        exact hi
      · exact ⟨o, k b o hb hb2 e⟩
  · rw [keepU b (nu b _ e (fun _ z => nomatch z) fun _ z => nomatch z), e]
    simp
  · obtain ⟨o, es, ep, ho, r⟩ := hm
    exact ⟨o, es, ep, k _ o (nf _ I.free).1 (nf _ I.free).2 ho, r⟩
  · by_cases hb : b = q
    · subst hb
      rw [upd_same] at e
      cases e
      exact ⟨hz, its, c, rv, hq⟩
    · rw [upd_ne hb] at e
      by_cases hb2 : b = it
      · subst hb2
        rw [upd_same] at e
        cases e
        exact ⟨hi, hi, fun h1 h2 p kk => by
          obtain ⟨o, ho⟩ := p
          exact ⟨o, kk o ho⟩⟩
      · rw [upd_ne hb2] at e
        refine (I.hok b u e).stay (fun c v hc z => ?_) (fun c z => (keepU c (nu c _ z (fun _ z => nomatch z) fun _ z => nomatch z)).trans z) fun c zs z => (keepU c (nu c _ z (fun _ z => nomatch z) fun _ z => nomatch z)).trans z
        rcases hc with hc | hc
        · subst hc
          exact k c v hb hb2 z
        · have := nu c _ hc (fun _ z => nomatch z) fun _ z => nomatch z
          exact k c v this.1 this.2 z
theorem key_end {prog : Program} {w : World} {A : Around} {E : Value → Shared → Prop} {s : Shared} {it d : Addr} {i n ep : Nat} {od : Obj} {es : Array DictEntry} {Q : Option Value → Shared → Prop} (hh : A.handled = none) (hit : s.heap.IsKeyIter it d i n ep) (hod : s.heap.get? d = some od) (hdd : od.data = .dict es ep)
    (hsz : es.size = n) (hge : n ≤ i) (hQ : ∀ h', Heap.ExtBut it s.heap h' → (∃ o, h'.get? it = some o) → Q none { s with heap := h' }) : wpAny (model prog w) A (pyNext (.ref it)) Q E s := by
  obtain ⟨o, ho, hc, hd⟩ := id hit
  have step : ∀ h0, Heap.SameBut it s.heap h0 → (∃ o, h0.get? it = some o) → Heap.ExtBut it s.heap h0 ∧ ∃ o, h0.get? it = some o := fun h0 a b => ⟨a.extBut, b⟩
  unfold pyNext
  refine wpAny_bind (wpAny_attempt (wpAny_callSpecial?_slot (name := Str.ofString "__next__") hit.typeIs PySem.F.slot_dict_keyiterator_next
    (wpAny_call_entry PySem.F.slot_dict_keyiterator_next hit.typeIs PySem.F.entry_dict_keyiterator_next ?_ (PySem.F.args_dict_keyiterator_next_1 _))))
  refine wpAny_bind (wpAny_pure (wpAny_bind (wpAny_bind ?_)))
  first | refine wpAny_bind (wpAny_typeNameOfWhole_keyiter hit.typeIs (wpAny_pure ?_)) | refine wpAny_bind (wpAny_typeNameOf_keyiter hit.typeIs (wpAny_pure ?_))
  refine wpAny_bind (wpAny_fieldsOf ho hd ?_)
  have hown : Builtin.Dict_items.ownsTuple "dict_keyiterator" = false := by decide
  simp only [hown, Bool.false_eq_true, if_false]
  show wpAny _ _ (if (Value.ref d == Value.none) = true then _ else _) _ _ s
  rw [if_neg (show ¬ ((Value.ref d == Value.none) = true) from Bool.false_ne_true)]
  refine wpAny_bind (wpAny_pure (wpAny_bind (wpAny_dictEntries hod hdd ?_)))
  rw [if_neg (by rw [hsz]; simp)]
  refine wpAny_bind (wpAny_pure (wpAny_bind (wpAny_dictEpoch hod hdd ?_)))
  rw [if_neg (by simp)]
  refine wpAny_pure ?_
  have hge' : es.size ≤ i := by omega
  simp only [show ¬ ((i : Int) < 0) from by omega, if_false, Int.toNat_natCast, Array.getElem?_eq_none hge']
  refine wpAny_bind ?_
  first | refine wpAny_bind (wpAny_typeNameOfWhole_keyiter hit.typeIs (wpAny_pure ?_)) | refine wpAny_bind (wpAny_typeNameOf_keyiter hit.typeIs (wpAny_pure ?_))
  show wpAny _ _ (setField (.ref it) 0 .none >>= _) _ _ s
  have fr : (Obj.mapFields (·.setIfInBounds 0 Value.none) o).isFreed = false := Obj.isFreed_of_fields (Obj.data_mapFields hd _)
  refine wpAny_bind (wpAny_setField ho hd (by simp) ?_)
  have kept := step _ (Heap.SameBut.update ..) ⟨_, Heap.get?_update_self _ ho fr⟩
  show wpAny _ _ (newExc (.type "StopIteration") [] >>= _) _ _ _
  refine wpAny_bind ?_
  simp only [newExc, newTuple]
  refine wpAny_bind (wpAny_newObj_type ?_ (by size_fits))
  refine wpAny_bind (m := firstArgMember _ _) (wpAny_of_eq (a := Value.none) (by first | rfl | (simp only [firstArgMember]; rfl)) ?_)
  refine wpAny_newObj_type ?_ (by size_fits)
  simp only [raiseNew]
  refine wpAny_bind (wpAny_handled ?_)
  rw [show A.in1.handled = none from hh]
  refine wpAny_bind (wpAny_pure (wpAny_throw ?_))
  refine wpAny_bind (wpAny_isInstance (T := "StopIteration") (b := true) ⟨_, Heap.get?_push_size _ rfl, rfl⟩ isSubtype_stop ?_)
  obtain ⟨k1, o1, k2⟩ := kept
  exact wpAny_pure (hQ _ ((k1.push _).push _) ⟨o1, Heap.get?_push_of_some _ (Heap.get?_push_of_some _ k2)⟩)
theorem key_loop {prog : Program} {w : World} {A : Around} {R : Result → Shared → Prop} (hh : A.handled = none) {it Tb q : Addr} (nTi : Tb ≠ it) (nTq : Tb ≠ q) (nqi : q ≠ it) {od : Obj} {es : Array DictEntry} {ep : Nat} (hdt : od.data = .dict es ep) (hz : es.size ≤ sizeLine) {s0 : Shared}
    (hR : ∀ h' acc c, (∀ b o, b ≠ q → b ≠ it → s0.heap.get? b = some o → h'.get? b = some o) → (∃ o, h'.get? it = some o) → h'.get? q = some { cls := .type "list", dict := none, data := .seq acc c, slots := #[] } → ItemsOf (fun i v => ∃ en : DictEntry, es[i]? = some en ∧ v = en.key) acc es.size → R (.ok (.ret .none)) { s0 with heap := h' }) :
    ∀ (k i : Nat) (h : Heap) (acc : Array Value) (c : Nat), es.size - i = k → i ≤ es.size → h.IsKeyIter it Tb i es.size ep → h.get? Tb = some od → h.get? q = some { cls := .type "list", dict := none, data := .seq acc c, slots := #[] } → ItemsOf (fun i v => ∃ en : DictEntry, es[i]? = some en ∧ v = en.key) acc i →
      (∀ b o, b ≠ q → b ≠ it → s0.heap.get? b = some o → h.get? b = some o) → codeAny (model prog w) A (.builtin "list.extend.loop" ⟨[.ref q, .ref it, .none], []⟩) R { s0 with heap := h } := by
  intro k
  induction k with
  | zero =>
    intro i h acc c hk hi hit hT hq hacc kp
    have hin : i = es.size := by omega
    subst hin
    refine codeAny_builtin PySem.F.entry_extend_loop ?_
    rw [Around.under_plainId PySem.F.plain_extend_loop _]
    show wpAny _ A.in1 (pyNext (.ref it) >>= _) _ _ _
    refine wpAny_bind (key_end (s := { s0 with heap := h }) (show A.in1.handled = none from hh) hit hT hdt rfl (Nat.le_refl _) fun h' he ho => ?_)
    exact wpAny_pure (hR h' acc c (fun b o h1 h2 e => he b o h2 (kp b o h1 h2 e)) ho (he q _ nqi hq) hacc)
  | succ k ih =>
    intro i h acc c hk hi hit hT hq hacc kp
    have hlt : i < es.size := by omega
    refine codeAny_builtin PySem.F.entry_extend_loop ?_
    rw [Around.under_plainId PySem.F.plain_extend_loop _]
    show wpAny _ A.in1 (pyNext (.ref it) >>= _) _ _ _
    have hx : es[i]? = some es[i] := Array.getElem?_eq_getElem hlt
    refine wpAny_bind (next_key_item (s := { s0 with heap := h }) hit hT hdt rfl hx fun h' hit' sb => ?_)
    have hq' : h'.get? q = some { cls := .type "list", dict := none, data := .seq acc c, slots := #[] } := (sb.2 q nqi).trans hq
    show wpAny _ A.in1 (updateSeq q (·.push es[i].key) >>= _) _ _ _
    refine wpAny_bind (wpAny_updateSeq (s := { s0 with heap := h' }) hq' rfl (wpAny_pure ⟨plainId_quiet PySem.F.plain_extend_loop _, ?_⟩) (by rw [hacc.1]; omega) (by show (acc.push es[i].key).size ≤ sizeLine + 1; rw [Array.size_push, hacc.1]; omega))
    refine ih (i + 1) _ (acc.push es[i].key) _ (by omega) hlt ?_ ?_ (Heap.get?_update_self _ hq' rfl) (hacc.push ⟨_, hx, rfl⟩) fun b o h1 h2 e => ?_
    · exact hit'.at fun o e => (Heap.get?_update_other _ _ nqi).trans e
    · exact (Heap.get?_update_other _ _ nTq.symm).trans ((sb.2 Tb nTi).trans hT)
    · exact (Heap.get?_update_other _ _ (Ne.symm h1)).trans ((sb.2 b h2).trans (kp b o h1 h2 e))
theorem ext_listW {pins : List (Addr × Obj)} {σ : L2.St} {H : Hp} {s : Shared} {A1 : Around} {Rs : Result → Shared → Prop} {q O dx Tb fi fl : Addr} {fdi fdl : FuncData} {pi pl : List Str} {ki kl : Nat} {od : Obj} {kvs : List (List Key × V)} (K : PySem.W.Frag) (sbi : Sub X ki A1.in1) (sbl : Sub X (kl + 1) A1.in1) (hh : A1.handled = none)
    (FI : FnOk X.prog X.w X.K X.mg X.base CX0 ki fi fdi pi (spWIter K)) (mI : Meth X.K (cWorld K) "__iter__" fi) (bI : Binds X.K fdi pi []) (FL : FnOk X.prog X.w X.K X.mg X.base CX0 kl fl fdl pl (spWLen2 K)) (mL : Meth X.K (cWorld K) "__len__" fl) (bL : Binds X.K fdl pl []) (hK : X.K = K)
    (I : Inv X pins σ H s) (eO : H O = some (.ins (cWorld K) dx [("table", .ref Tb)])) (eT : H Tb = some (.frz od (.dT kvs))) (eq : H q = some (.lst [])) (hn : kvs.length ≤ 1000)
    (hdone : ∀ s' bs it, H it = none → IsKeys H kvs bs → Inv X pins σ (upd (upd H it (.ext fun h => ∃ o, h.get? it = some o)) q (.lst (bs.map V.ref))) s' → Rs (.ok (.ret .none)) s') :
    wpAny (model X.prog X.w) A1.in1 (Builtin.List.listExtendWith (.ref q) (.ref O) .none)
      (fun fin s' => match fin with | .done f => Rs (.ok f) s' | .again c' => c'.quiet = true ∧ codeAny (model X.prog X.w) A1 c' Rs s') (fun e s' => Rs (.error e) s') s := by
  have hne : q ≠ O := ne_of eq eO (fun z => nomatch z)
  have nTq : Tb ≠ q := ne_of eT eq fun z => nomatch z
  obtain ⟨mA, J, _⟩ := ins_get I.hok eO
  obtain ⟨odi, J, _⟩ := J.look
  obtain ⟨m0, hF⟩ := I.fr
  unfold Builtin.List.listExtendWith
  refine wpAny_bind (J.type.here ?_)
  have h1 : Builtin.List.listSameRef (.ref q) (.ref O) = false := by simp [Builtin.List.listSameRef, hne]
  have h2 : (Value.ref (cWorld K) == Value.type "list") = false := rfl
  have h3 : (Value.ref (cWorld K) == Value.type "tuple") = false := rfl
  simp only [h1, h2, h3, Bool.or_false, Bool.false_eq_true, if_false]
  refine wpAny_bind (PySem.W.owit_iter hF I.ok.mod.kin J mI.at_ mI.fn (thn (run_sub (Q := fun v H' => ∃ it, v = .ref it ∧ H it = none ∧ H' = upd H it (itO od Tb it)) sbi FI bI I (us := [.ref O]) (vs := [.ref O]) (.cons rfl .nil) ⟨O, dx, Tb, od, kvs, rfl, eO, eT, fun it hit => ⟨it, rfl, hit, rfl⟩⟩) fun u s1 ⟨z, H1, I1, rz, it, ez, hit, eH⟩ => ?_))
  subst ez eH
  obtain rfl : u = .ref it := rz
  have nqi : q ≠ it := ne_of_none eq hit
  have nTi : Tb ≠ it := ne_of_none eT hit
  obtain ⟨⟨es, ep, hdt, hki⟩, _, _⟩ := (show ObjOk X.prog X.w _ s1.heap it (itO od Tb it) from I1.hok it _ upd_same)
  refine it_next hki ?_
  have eO1 : upd H it (itO od Tb it) O = some (.ins (cWorld K) dx [("table", .ref Tb)]) := by rw [upd_ne (ne_of_none eO hit)]; exact eO
  have eT1 : upd H it (itO od Tb it) Tb = some (.frz od (.dT kvs)) := by rw [upd_ne nTi]; exact eT
  have eq1 : upd H it (itO od Tb it) q = some (.lst []) := by rw [upd_ne nqi]; exact eq
  refine wpAny_bind (wpAny_holding (own_len_hint K hK sbl FL bL mL I1 eO1 ⟨O, dx, Tb, kvs, rfl, eO1, .inr ⟨od, eT1⟩, hn, kvs.length, rfl, hn, rfl⟩ fun b s2 I2 => ?_))
  have go : ∀ s3, Inv X pins σ (upd H it (itO od Tb it)) s3 → codeAny (model X.prog X.w) A1 (.builtin "list.extend.loop" ⟨[.ref q, .ref it, .none], []⟩) Rs s3 := by
    intro s3 I3
    obtain ⟨hs, hgd, hx, es', ep', hdt', hsz, ent⟩ := I3.frzT eT1
    rw [hdt] at hdt'
    cases hdt'
    obtain ⟨⟨es2, ep2, hdt2, hki3⟩, _, _⟩ := (show ObjOk X.prog X.w _ s3.heap it (itO od Tb it) from I3.hok it _ upd_same)
    rw [hdt] at hdt2
    cases hdt2
    obtain ⟨z, its, c0, r3, hl3, e3⟩ := I3.lstM eq1
    cases r3
    have hzl := sizeLine_eq
    refine key_loop (s0 := s3) hh nTi nTq nqi hdt (by omega) (fun h' acc' c' hm hex hS' hacc => ?_) es.size 0 s3.heap _ _ rfl (Nat.zero_le _) hki3 hgd e3 (ItemsOf.nil _) fun b o _ _ e => e
    obtain ⟨_, z, hs2, ys, pr, o', es', ep', ho, hx2, hdt3, he, hnd⟩ := (show ObjOk X.prog X.w _ s3.heap Tb (.frz od (.dT kvs)) from I3.hok Tb _ eT1)
    rw [hgd] at ho
    cases ho
    rw [hdt] at hdt3
    cases hdt3
    have l1 : es.size = ys.length := size_of_entries he
    have ea : acc'.toList = ys.map fun x => Value.ref x.2.1 := by
      have hl : acc'.toList.length = ys.length := by rw [Array.length_toList, hacc.1]; exact l1
      apply List.ext_getElem?
      intro j
      rw [List.getElem?_map]
      cases hj : acc'.toList[j]? with
      | none =>
        have h1 := List.getElem?_eq_none_iff.mp hj
        rw [List.getElem?_eq_none (by omega)]
        all_goals rfl
      | some v =>
        obtain ⟨en, hen, hv⟩ := hacc.2 j v (by rw [← Array.getElem?_toList]; exact hj)
        have qe := entry_at he j
        rw [hen] at qe
        cases hb : ys[j]? with
        | none =>
          rw [hb] at qe
          exact nomatch (show some en = none from qe)
        | some b =>
          rw [hb] at qe
          have e2 : en = entryOfKey (tupleKind (mixKind X.prog X.w)) b := Option.some.inj qe
          rw [hv, e2]
          all_goals rfl
    have eb : acc'.toList = (ys.map fun x => x.2.1).map Value.ref := by rw [ea, List.map_map]; all_goals rfl
    have rv' : Vals ((ys.map fun x => x.2.1).map V.ref) acc'.toList := by rw [eb]; exact L2.vals_refs _
    have ik : IsKeys H kvs (ys.map fun x => x.2.1) := by
      have := isKeys_of (H := upd H it (itO od Tb it)) (kvs := kvs) (xs := ys) pr
      exact Paired.mapP this fun p b hb => by
        by_cases hbi : b = it
        · subst hbi
          rw [upd_same] at hb
          cases hb
        · rw [upd_ne hbi] at hb
          exact hb
    have J2 : Inv X pins σ (upd (upd (upd H it (itO od Tb it)) it (.ext fun h => ∃ o, h.get? it = some o)) q (.lst ((ys.map fun x => x.2.1).map V.ref))) { s3 with heap := h', toks := s3.toks } :=
      Inv_two I3 eq1 upd_same hm hex (by rw [List.length_map, List.length_map]; omega) rv' (by rw [Array.toArray_toList]; exact hS')
    rw [upd_upd] at J2
    exact hdone _ _ it hit ik J2
  refine wpAny_ite_split (fun _ => ?_) (fun _ => wpAny_pure ⟨plainId_quiet PySem.F.plain_extend_loop _, go s2 I2⟩)
  refine wpAny_bind (wpAny_rule ?_)
  refine wpAny_bind ?_
  show wpAny _ _ (updateSeq q (·.push .none) >>= fun _ => updateSeq q (·.pop)) _ _ _
  obtain ⟨z, its, kx, r3, hl3, e3⟩ := I2.lstM eq1
  cases r3
  refine wpAny_bind (wpAny_updateSeq e3 rfl ?_)
  have I3 := I2.lset (f := (·.push Value.none)) (its' := [Value.none]) (ys := [.non]) (t' := s2.toks) eq1 e3 (by simp) (.cons rfl .nil) (by rw [List.length_singleton, sizeLine_eq]; decide)
  obtain ⟨z4, its4, k4, r4, hl4, e4⟩ := I3.lstM upd_same
  obtain ⟨u4, rfl, ru4⟩ := r4.one
  refine wpAny_updateSeq e4 rfl ?_ (by show 1 ≤ sizeLine; rw [sizeLine_eq]; decide) (by show 0 ≤ sizeLine + 1; exact Nat.zero_le _)
  refine wpAny_pure ⟨plainId_quiet PySem.F.plain_extend_loop _, go _ ?_⟩
  have I4 := I3.lset (f := (·.pop)) (its := [u4]) (its' := []) (ys := []) (t' := s2.toks) upd_same e4 (by rfl) .nil (Nat.zero_le _)
  rw [upd_upd] at I4
  have hH : upd (upd H it (itO od Tb it)) q (.lst []) = upd H it (itO od Tb it) := by
    funext b
    by_cases hb : b = q
    · rw [hb, upd_same, eq1]
    · rw [upd_ne hb]
  rw [hH] at I4
  exact I4
theorem call_listW {pi pl : List Str} {ki kl : Nat} (K : PySem.W.Frag) (cI : CalM X.prog X.w X.K X.mg X.base CX0 ki (cWorld K) "__iter__" pi [] (spWIter K)) (cL : CalM X.prog X.w X.K X.mg X.base CX0 kl (cWorld K) "__len__" pl [] (spWLen2 K)) (hr : Room n X.A) (hc : X.calm = true)
    (h1 : ki + 2 ≤ n := by decide) (h2 : kl + 3 ≤ n := by decide) (hK : X.K = K := by rfl) : CallR X (.type "list") (rListW K) := by
  obtain ⟨fi, fdi, dsi, FI, hcI, mI, bI, dI⟩ := cI
  obtain ⟨fl, fdl, dsl, FL, hcL, mL, bL, dL⟩ := cL
  cases dI
  cases dL
  intro pins s σ H xs us Q I rv h
  obtain ⟨O, dx, Tb, kvs, rfl, eO, eT, hn, kk⟩ := h
  obtain ⟨u, rfl, ru⟩ := rv.one
  cases ru
  have sb2 : ∀ j, j + 2 ≤ n → Sub X j X.A.in1.in1 := fun j hj => Sub.in1 (Sub.in1 (⟨hr.mono hj, rfl⟩ : Sub X (j + 2) X.A))
  refine callType_codes (Q₁ := fun obj s₁ => obj = .ref s.heap.objs.size ∧ s₁ = { s with heap := s.heap.push { cls := .type "list", data := .seq #[] } }) PySem.F.called_list (PySem.F.typeCall_list_1 _) PySem.F.entry_list_init
    (code_list_new _ ⟨rfl, rfl⟩) fun obj s₁ h₁ => ?_
  obtain ⟨rfl, rfl⟩ := h₁
  have hS : (s.heap.push { cls := .type "list", data := .seq #[] }).get? s.heap.objs.size = some { cls := .type "list", data := .seq #[] } := Heap.get?_push_size _ rfl
  refine ⟨⟨_, hS, rfl⟩, PySem.F.args_list_init_2 _ _, ?_⟩
  have fr : H s.heap.objs.size = none := I.hok.fresh (Nat.le_refl _)
  have I1 : Inv X pins σ (upd H s.heap.objs.size (.lst [])) { s with heap := s.heap.push { cls := .type "list", data := .seq #[] } } := I.lnew (its := []) (t' := s.toks) .nil (Nat.zero_le _)
  show wpAny _ _ (do let old ← Builtin.List.listItems (.ref s.heap.objs.size); Builtin.List.listUpdate (.ref s.heap.objs.size) (fun _ => #[]); letGo old.toList.reverse; Builtin.List.listExtendWith (.ref s.heap.objs.size) (.ref O) .none) _ _ _
  refine wpAny_bind ?_
  unfold Builtin.List.listItems
  refine wpAny_bind (wpAny_seqItems hS rfl (wpAny_pure ?_))
  show wpAny _ _ (updateSeq s.heap.objs.size (fun _ => #[]) >>= fun _ => letGo (#[] : Array Value).toList.reverse >>= fun _ => Builtin.List.listExtendWith (.ref s.heap.objs.size) (.ref O) .none) _ _ _
  refine wpAny_bind (wpAny_updateSeq hS rfl ?_)
  have I2 := I1.lset (f := fun _ => #[]) (its := []) (its' := []) (ys := []) (t' := s.toks) upd_same hS rfl .nil (Nat.zero_le _)
  rw [upd_upd] at I2
  refine wpAny_bind (wpAny_letGo ?_)
  have eO2 : upd H s.heap.objs.size (.lst []) O = some (.ins (cWorld K) dx [("table", .ref Tb)]) := by rw [upd_ne (ne_of_none eO fr)]; exact eO
  have eT2 : upd H s.heap.objs.size (.lst []) Tb = some (.dT kvs) := by rw [upd_ne (ne_of_none eT fr)]; exact eT
  obtain ⟨od, I3⟩ := I2.lock eT2 True.intro
  have nTq : Tb ≠ s.heap.objs.size := ne_of_none eT fr
  have nOq : O ≠ s.heap.objs.size := ne_of_none eO fr
  have nOT : O ≠ Tb := ne_of eO eT fun z => by cases z
  refine ext_listW (A1 := X.A.in1) (Rs := wants (fun r s₂ => r = .none ∧ EP X pins σ Q (.ref s.heap.objs.size) s₂) X.xe) K (sb2 ki h1) (sb2 (kl + 1) h2) (show X.A.in1.handled = none from I.ok.hd hc) FI mI bI FL mL bL hK I3 (q := s.heap.objs.size) (O := O) (dx := dx) (Tb := Tb) (od := od) (kvs := kvs) ?_ upd_same ?_ hn fun s' bs it hit ik J => ⟨rfl, ?_⟩
  · rw [upd_ne nOT]
    exact eO2
  · rw [upd_ne nTq.symm, upd_same]
  · have nit : it ≠ Tb := fun z => by rw [z, upd_same] at hit; cases hit
    have hit2 : upd H s.heap.objs.size (.lst []) it = none := by rw [upd_ne nit] at hit; exact hit
    have nitq : it ≠ s.heap.objs.size := fun z => by rw [z, upd_same] at hit2; cases hit2
    have hit3 : H it = none := by rw [upd_ne nitq] at hit2; exact hit2
    have J2 := J.unlock (d := Tb) (od := od) (u := .dT kvs) (by rw [upd_ne nTq, upd_ne nit.symm, upd_same]) (I2.nofrz eT2 True.intro)
    refine ⟨.ref s.heap.objs.size, _, J2, rfl, kk _ bs _ (fun c o e => ?_) (Paired.mapP ik fun p b hb => ?_) fr ?_⟩
    · by_cases hcT : c = Tb
      · subst hcT
        rw [upd_same]
        rw [eT] at e
        exact e
      · rw [upd_ne hcT, upd_ne (ne_of_none e fr), upd_ne (ne_of_none e hit3), upd_ne hcT, upd_ne (ne_of_none e fr)]
        exact e
    · have hbT : b ≠ Tb := fun z => by rw [z, upd_same] at hb; cases hb
      rw [upd_ne hbT] at hb
      have hbq : b ≠ s.heap.objs.size := fun z => by rw [z, upd_same] at hb; cases hb
      rw [upd_ne hbT, upd_ne hbq, upd_ne (fun z => by rw [z] at hb; rw [hit2] at hb; cases hb), upd_ne hbT]
      exact hb
    · rw [upd_ne nTq.symm, upd_same]
end
end Ell
set_option maxHeartbeats 4000000
namespace Ell
open PySem PySem.Spec PyProof.Rows L2
/-! ### the law's readings of worlds -/
/-- what isinstance needs of the classes -/
structure Ix (K : PySem.W.Frag) : Prop where
  w_ha : PySem.W.findIn K (.ref (cWorld K)) "__class__" = some (some (.builtin "object.__class__"))
  hn : PySem.W.specialIn K (.builtin "object.__class__") "__get__" = some (some (.builtin "getset_descriptor.__get__"))
  htk : PySem.W.takesIn K (.builtin "object.__class__") = some true
  w_hm : PySem.W.mroIn K (cWorld K) (.type "object") = some true
  w_is : PySem.W.kitOne K (.ref (cWorld K)) (.ref (cWorld K)) = some true
theorem IsKeys.tks {K : PySem.W.Frag} {H : Hp} : ∀ {kvs : List (List Key × V)} {bs : List Addr}, IsKeys H kvs bs → (∀ k ∈ kvs.map (·.1), kok k = true) → TKs H (bs.map V.ref) (kvs.map (·.1))
  | _, _, .nil, _ => .nil
  | p :: kvs, b :: bs, .cons h t, o => .cons ⟨b, rfl, h, o p.1 (by simp)⟩ (IsKeys.tks (K := K) t fun k hk => o k (by
      rw [List.map_cons]
      exact List.mem_cons_of_mem _ hk))
def spValues (K : PySem.W.Frag) : Sp := fun vs H Q _ => ∃ (O S : Addr) (ks : List (List Key)) (wv : WV), vs = [.ref O, .ref S] ∧ WorldAt K H O ks wv ∧ Lows ks wv ∧ SpotsAt H S ks ∧ Sps ks ∧
  ∀ (H' : Hp) (D : Addr) (kvs : List (List Key × V)), Same H H' → H D = none → H' D = some (.dT kvs) → TabW H' kvs ks wv ks.length → Q (.ref D) H'
def spKeepsL : Sp := fun vs H Q _ => ∃ (D : Addr) (kvs : List (List Key × V)) (ks : List (List Key)) (wv : WV) (lv : V) (l : Lk) (i j : Nat), vs = [.ref D, lv] ∧ H D = some (.dT kvs) ∧ TabW H kvs ks wv ks.length ∧ Lows ks wv ∧ LV H lv l ∧ ks[i]? = some l.a ∧ ks[j]? = some l.b ∧ Q (.bl (decide (Keeps (wv i) (wv j) l.w))) H
def spAllowed : Sp := fun vs H Q _ => ∃ (D L : Addr) (kvs : List (List Key × V)) (ks : List (List Key)) (wv : WV) (ls : List Lk) (as : List Arc), vs = [.ref D, .ref L] ∧ H D = some (.dT kvs) ∧ TabW H kvs ks wv ks.length ∧ Lows ks wv ∧ wv 0 = (0, 1) ∧ Sps ks ∧ LinksAt H L ls ∧ Arcs ks ls as ∧
  (∀ e ∈ as, Keeps (wv e.1) (wv e.2.1) e.2.2) ∧ ∀ H', Same H H' → Q (.bl true) H'
theorem kd_list (ks ls : List (List Key)) : PyData.eqv (.list (ks.map kD)) (.list (ls.map kD)) = decide (ks = ls) := by
  have go : ∀ ks ls : List (List Key), PyData.eqvAll (ks.map kD) (ls.map kD) = decide (ks = ls) := by
    intro ks
    induction ks with
    | nil => intro ls; cases ls <;> simp [PyData.eqvAll]
    | cons k ks ih =>
      intro ls
      cases ls with
      | nil => simp [PyData.eqvAll]
      | cons l ls =>
        simp only [List.map_cons, PyData.eqvAll, kD_eqv, ih]
        by_cases h1 : k = l <;> by_cases h2 : ks = ls <;> simp [h1, h2]
  simp only [PyData.eqv]
  exact go ks ls
section
variable {P : Program} {w : World} {K : PySem.W.Frag} {mg : Str → Option Value} {base : Heap}
theorem ok_values (T : Tx K mg) (IX : Ix K) (c_World_getitem : CalM P w K mg base CX0 3 (cWorld K) "__getitem__" ["self", "spot"] [] (spWGet K)) (c_World_len : CalM P w K mg base CX0 1 (cWorld K) "__len__" ["self"] [] (spWLen2 K)) (c_World_iter : CalM P w K mg base CX0 1 (cWorld K) "__iter__" ["self"] [] (spWIter K)) (c_l_is_ratio : Cal P w K mg base CX0 2 "_law_is_ratio" ["_law_thing"] [] spIsRat) : Cal P w K mg base CX0 5 "_law_values_of" ["_law_world", "_law_spots"] [] (spValues K) := by
  obtain ⟨fd, F⟩ := T.f_l_values_of
  refine ⟨_, fd, [], F.ok sc_l_values_of (fun vs H Q E h => ?_) (fun cdv A outer s H vs Q E hr h => ?_), T.g_l_values_of, F.kp, F.bindsN fun _ _ _ _ _ _ us hl => match us, hl with | [_, _], _ => rfl, .nil⟩
  · obtain ⟨O, S, ks, wv, rfl, _⟩ := h
    rfl
  obtain ⟨O, S, ks, wv, rfl, hO, hlow, hS, hs, kk⟩ := h
  have hu := hu_of hr
  have hu64 := hu64_of hr
  refine ⟨_, PSs.nox ((pss_cons (ps_if (PW.pt (pw_or (pt_not (pt_val (pe_callB (isiK K) (by rfl) T.b_isinstance (by decide +kernel) (pa_cons (pv 0) (pa_cons (pe_glob (v := .ref (He.ga K "World")) rfl T.g_World rfl) pa_nil))))) (pw_or (pt_cmpR op_ne (pe_callB (call_lenO c_World_len hr pass0) (by rfl) T.b_len PySem.boot_len (pa_cons (pv 0) pa_nil)) (pe_callB (call_lenK K) (by rfl) T.b_len PySem.boot_len (pa_cons (pv 1) pa_nil)) (nomark _)) (pw_or1 (pt_cmpR (neDK K hu64) (pe_callTy (call_listW K c_World_iter c_World_len hr rfl) (by rfl) T.b_list (by decide +kernel) (pa_cons (pv 0) pa_nil)) (pe_callTy (listofK K) (by rfl) T.b_list (by decide +kernel) (pa_cons (pv 1) pa_nil)) (nomark _)))))) (pss_one (ps_ret pe_non)) pss_nil)
        (pss_cons (ps_set (i := 2) sc_l_values_of.nd rfl (Or.inl rfl) pe_dnewT)
        (pss_cons (ps_for PassesOwn.never rfl (pi_listK K (pv 1)) (pg_name (i := 3) sc_l_values_of.nd rfl (Or.inl rfl))
          (pss_cons (ps_set (i := 4) sc_l_values_of.nd rfl (Or.inl rfl) (pe_subO c_World_getitem T.m_World_getitem (fd_fnIn T.f_World_getitem) hr pass0 (pv 0) (pv 3)))
          (pss_cons (ps_if (pt_not (pt_val (pcall c_l_is_ratio hr (pa_cons (pv 4) pa_nil)))) (pss_one (ps_ret pe_non)) pss_nil)
          (pss_one (ps_dput hu (pv 2) (pv 3) (pv 4) rfl)))))
        (pss_one (ps_ret (pv 2))))))), ?_⟩
  obtain ⟨dx, Tb, tvs, eO, eT, tT⟩ := id hO
  obtain ⟨⟨xs, eS, rS⟩, nd, g0, sp⟩ := id hS
  have lS := pr_len rS
  have hn := hs.n
  have lT : tvs.length = ks.length := by
    have := congrArg List.length tT.keys
    rw [List.length_map, List.take_length] at this
    exact this
  refine ⟨_, rfl, _, _, _, _, true, rfl, .own _, .base (.ins eO T.c_World IX.w_ha IX.hn IX.htk IX.w_hm), IX.w_is, true, rfl, ?_⟩
  refine ⟨_, rfl, O, dx, _, rfl, eO, O, dx, Tb, tvs, rfl, eO, .inl eT, by omega, tvs.length, rfl, (Nat.le_of_lt (small1000 (n := tvs.length) (by omega))), _, rfl, _, xs.length, rfl, .inl ⟨_, SqL.of eS, rfl⟩, ?_⟩
  refine ⟨rfl, _, rfl, ite2 (fun hx => ?_) (fun _ => ?_)⟩
  · exfalso
    rw [lT, lS] at hx
    simp at hx
  refine ⟨_, rfl, O, dx, Tb, tvs, rfl, eO, eT, by omega, fun p bs H1 s1 ik hp ep => ?_⟩
  have tk1 : TKs H1 (bs.map V.ref) (tvs.map (·.1)) := IsKeys.tks (K := K) ik fun k hk => by
    rw [tT.keys, List.take_length] at hk
    obtain ⟨x, _, tx⟩ := pr_mem2 rS hk
    exact tx.ok
  rw [tT.keys, List.take_length] at tk1
  refine ⟨_, rfl, S, xs, rfl, .inl (SqL.of (s1 _ _ eS)), fun p2 hp2 => ?_⟩
  have s2 := same_new (o := .lst xs) hp2
  have tS2 : TKs (upd H1 p2 (.lst xs)) xs ks := tks_mono rS (same_tp (s1.trans s2))
  refine ⟨_, _, tks_dp (SqL.of (s2 _ _ ep)) (tks_mono tk1 (same_tp s2)), tks_dp (SqL.of upd_same) tS2, tks_sh tS2, tks_sh tS2, ?_⟩
  rw [kd_list, decide_eq_true rfl]
  refine ⟨_, rfl, ite2 (fun z => by cases z) (fun _ => ?_)⟩
  have s12 := s1.trans s2
  refine fun D hD => ?_
  have s3 := s12.trans (same_new (o := .dT []) hD)
  refine ⟨_, rfl, S, rfl, ⟨_, SqL.of (s3 _ _ eS)⟩, for_list (K := K) (a := S) (xs := xs) (fun i σ H2 => ∃ (o3 o4 : Option V) (kvs : List (List Key × V)), σ = [some (.ref O), some (.ref S), some (.ref D), o3, o4] ∧ H2 D = some (.dT kvs) ∧ TabW H2 kvs ks wv i ∧ Same H H2) ?_ (fun i σ H2 _ ⟨_, _, _, _, _, _, k2⟩ => SqL.of (k2 _ _ eS)) ?_ ?_⟩
  · exact ⟨none, none, [], rfl, upd_same, ⟨by rw [List.take_zero]; rfl, fun j k h => by omega⟩, s3⟩
  · rintro i x σ H2 hi ⟨o3, o4, kvs, rfl, e2, t2, k2⟩
    obtain ⟨k, hk, tk⟩ := pr_get rS hi
    have hi' := (List.getElem?_eq_some_iff.mp hi).1
    have hil : i < ks.length := by omega
    have hkm := List.mem_of_getElem? hk
    obtain ⟨low1, low2, low3⟩ := hlow i hil
    have tk2 := tk.mono (same_tp k2)
    refine ⟨_, rfl, _, rfl, O, _, _, rfl, k2 _ _ eO, O, x, ks, wv, k, i, rfl, hO.same k2, tk2, sp k hkm, hk, fun y hy => ?_⟩
    obtain ⟨py, rfl, ey⟩ := id hy
    refine ⟨_, rfl, py, _, _, rfl, ey, low1, low3, true, rfl, ?_⟩
    have nk : k ∉ ks.take i := fun m => by
      obtain ⟨j, hj⟩ := List.mem_iff_getElem?.mp m
      have hj' := (List.getElem?_eq_some_iff.mp hj).1
      rw [List.length_take] at hj'
      rw [List.getElem?_take, if_pos (by omega)] at hj
      have := nd_ix nd hj hk
      omega
    have no : valV kvs k = none := by
      cases e : valV kvs k with
      | none => rfl
      | some v =>
        have := valV_in e
        rw [t2.keys] at this
        exact absurd this nk
    have lkvs : kvs.length ≤ 11 := by
      have := congrArg List.length t2.keys
      rw [List.length_map, List.length_take] at this
      omega
    obtain ⟨b, rfl, hb, ob⟩ := id tk2
    have tp : TP H2 (upd H2 D (.dT (putK kvs k (.ref py)))) := put_tp e2 fun _ z => by cases z
    refine ⟨_, rfl, _, rfl, _, rfl, D, _, rfl, DPut.t (k := k) e2 hb (small1000 (by omega)), _, _, _, rfl, upd_same, ⟨?_, fun j l hj hl => ?_⟩, fun c o e => ?_⟩
    · rw [putK_new _ no, List.map_append, t2.keys, take_snoc hk]
      rfl
    · rw [valV_put]
      by_cases e : l = k
      · subst e
        have : j = i := nd_ix nd hl hk
        subst this
        exact ⟨_, by rw [if_pos rfl], hy.mono tp⟩
      · rw [if_neg e]
        have : j ≠ i := fun z => e (by subst z; rw [hk] at hl; exact (Option.some.inj hl).symm)
        obtain ⟨v, h1, h2⟩ := t2.val j l (by omega) hl
        exact ⟨v, h1, h2.mono tp⟩
    · have hDn : H D = none := s12.free hD
      rw [upd_ne (ne_of_none e hDn)]
      exact k2 _ _ e
  · rintro σ H2 ⟨o3, o4, kvs, rfl, e2, t2, k2⟩
    rw [lS] at t2
    exact ⟨_, rfl, kk H2 D kvs k2 (s12.free hD) e2 t2⟩
theorem ok_keeps_l (T : Tx K mg) : Cal P w K mg base CX0 1 "_law_keeps" ["_law_values", "_law_link"] [] spKeepsL := by
  obtain ⟨fd, F⟩ := T.f_l_keeps
  refine ⟨_, fd, [], F.ok sc_l_keeps (fun vs H Q E h => ?_) (fun cdv A outer s H vs Q E hr h => ?_), T.g_l_keeps, F.kp, F.bindsN fun _ _ _ _ _ _ us hl => match us, hl with | [_, _], _ => rfl, .nil⟩
  · obtain ⟨D, kvs, ks, wv, lv, l, i, j, rfl, _⟩ := h
    rfl
  obtain ⟨D, kvs, ks, wv, lv, l, i, j, rfl, eD, tD, hlow, hl, hi, hj, kk⟩ := h
  have hu := hu_of hr
  refine ⟨_, PSs.nox ((pss_cons (ps_set (i := 2) sc_l_keeps.nd rfl (Or.inl rfl) (pe_dget hu (pv 0) (pe_ix (ix_tupK K) (pv 1) pe_int (fun _ _ => rfl)) (fun _ _ => rfl)))
        (pss_cons (ps_set (i := 3) sc_l_keeps.nd rfl (Or.inl rfl) (pe_dget hu (pv 0) (pe_ix (ix_tupK K) (pv 1) pe_int (fun _ _ => rfl)) (fun _ _ => rfl)))
        (pss_one (ps_ret (pe_cmpR op_le (pe_op op_sub (pe_op op_mul (pe_ix (ix_tupK K) (pv 3) pe_int (fun _ _ => rfl)) (pe_ix (ix_tupK K) (pv 2) pe_int (fun _ _ => rfl))) (pe_op op_mul (pe_ix (ix_tupK K) (pv 2) pe_int (fun _ _ => rfl)) (pe_ix (ix_tupK K) (pv 3) pe_int (fun _ _ => rfl)))) (pe_op op_mul (pe_op op_mul (pe_ix (ix_tupK K) (pv 1) pe_int (fun _ _ => rfl)) (pe_ix (ix_tupK K) (pv 2) pe_int (fun _ _ => rfl))) (pe_ix (ix_tupK K) (pv 3) pe_int (fun _ _ => rfl))) (nomark _))))))), ?_⟩
  obtain ⟨p, x, y, z, rfl, ep, hx, hy, hz⟩ := hl
  obtain ⟨vi, gi, ri⟩ := tD.val i l.a (List.getElem?_eq_some_iff.mp hi).1 hi
  obtain ⟨vj, gj, rj⟩ := tD.val j l.b (List.getElem?_eq_some_iff.mp hj).1 hj
  obtain ⟨pi, rfl, ei⟩ := ri
  obtain ⟨pj, rfl, ej⟩ := rj
  obtain ⟨a1, a2, _⟩ := hlow i (List.getElem?_eq_some_iff.mp hi).1
  obtain ⟨b1, b2, _⟩ := hlow j (List.getElem?_eq_some_iff.mp hj).1
  obtain ⟨bx, rfl, hbx, _⟩ := id hx
  obtain ⟨by', rfl, hby, _⟩ := id hy
  have g1 : DGet H D (.ref bx) (some (.ref pi)) := by
    have := DGet.t eD hbx
    rw [gi] at this
    exact this
  have g2 : DGet H D (.ref by') (some (.ref pj)) := by
    have := DGet.t eD hby
    rw [gj] at this
    exact this
  refine ⟨_, rfl, _, rfl, p, _, _, _, rfl, rfl, SqT.of ep, atI_nat (j := 0) rfl, D, _, rfl, g1, _, rfl, _, rfl, p, _, _, _, rfl, rfl, SqT.of ep, atI_nat (j := 1) rfl, D, _, rfl, g2, ?_⟩
  have Ei : SqT K H pi _ := SqT.of ei
  have Ej : SqT K H pj _ := SqT.of ej
  refine ⟨_, rfl, pj, _, _, .int (wv j).1, rfl, rfl, Ej, atI_nat (j := 0) rfl, _, rfl, pi, _, _, .int (wv i).2, rfl, rfl, Ei, atI_nat (j := 1) rfl, _, _, rfl, rfl, .inr ⟨by omega, by omega⟩, ?_⟩
  refine ⟨_, rfl, pi, _, _, .int (wv i).1, rfl, rfl, Ei, atI_nat (j := 0) rfl, _, rfl, pj, _, _, .int (wv j).2, rfl, rfl, Ej, atI_nat (j := 1) rfl, _, _, rfl, rfl, .inr ⟨by omega, by omega⟩, _, _, rfl, rfl, ?_⟩
  refine ⟨_, rfl, p, _, _, .int l.w, rfl, rfl, SqT.of ep, atI_nat (j := 2) rfl, _, rfl, pi, _, _, .int (wv i).2, rfl, rfl, Ei, atI_nat (j := 1) rfl, _, _, rfl, rfl, .inr ⟨by omega, by omega⟩, _, rfl, pj, _, _, .int (wv j).2, rfl, rfl, Ej, atI_nat (j := 1) rfl, _, _, rfl, rfl, .inr ⟨by omega, by omega⟩, _, _, rfl, rfl, ?_⟩
  exact kk
theorem ok_allowed (T : Tx K mg) (c_l_ground : Cal P w K mg base CX0 1 "_law_ground" [] [] spGround) (c_l_keeps : Cal P w K mg base CX0 1 "_law_keeps" ["_law_values", "_law_link"] [] spKeepsL) : Cal P w K mg base CX0 2 "_law_allowed" ["_law_values", "_law_links"] [] spAllowed := by
  obtain ⟨fd, F⟩ := T.f_l_allowed
  refine ⟨_, fd, [], F.ok sc_l_allowed (fun vs H Q E h => ?_) (fun cdv A outer s H vs Q E hr h => ?_), T.g_l_allowed, F.kp, F.bindsN fun _ _ _ _ _ _ us hl => match us, hl with | [_, _], _ => rfl, .nil⟩
  · obtain ⟨D, L, kvs, ks, wv, ls, as, rfl, _⟩ := h
    rfl
  obtain ⟨D, L, kvs, ks, wv, ls, as, rfl, eD, tD, hlow, h0, hs, hL, har, hk, kk⟩ := h
  have hu := hu_of hr
  have hu64 := hu64_of hr
  refine ⟨_, PSs.nox ((pss_cons (ps_if (PW.pt (pw_or (pt_cmpR op_isN (pv 0) pe_non (nomark _)) (pw_or1 (pt_cmpR (neDK K hu64) (pe_dget hu (pv 0) (pcall0 c_l_ground hr) (fun _ _ => rfl)) (pe_tup (pa_cons pe_int (pa_cons pe_int pa_nil))) (nomark _))))) (pss_one (ps_ret pe_bl)) pss_nil)
        (pss_cons (ps_for PassesOwn.never rfl (pi_listK K (pv 1)) (pg_name (i := 2) sc_l_allowed.nd rfl (Or.inl rfl))
          (pss_one (ps_if (pt_not (pt_val (pcall c_l_keeps hr (pa_cons (pv 0) (pa_cons (pv 2) pa_nil))))) (pss_one (ps_ret pe_bl)) pss_nil)))
        (pss_one (ps_ret pe_bl))))), ?_⟩
  obtain ⟨xs, eL, rL⟩ := id hL
  obtain ⟨v0, g0, r0⟩ := tD.val 0 groundK hs.pos hs.g
  rw [h0] at r0
  obtain ⟨p0, rfl, e0⟩ := r0
  refine ⟨_, rfl, rfl, _, rfl, ite2 (fun z => by cases (of_decide_eq_true z)) (fun _ => ?_)⟩
  refine ⟨_, rfl, rfl, fun p hp => ?_⟩
  have sp := same_new (o := .tup [.str "ground", .int 0, .int 0]) hp
  have g1 : DGet (upd H p (.tup [.str "ground", .int 0, .int 0])) D (.ref p) (some (.ref p0)) := by
    have := DGet.t (k := groundK) (sp _ _ eD) (upd_same (H := H) (a := p) (o := .tup [.str "ground", .int 0, .int 0]))
    rw [g0] at this
    exact this
  refine ⟨D, _, rfl, g1, (show 2 ≤ sizeLine by decide), fun q hq => ?_⟩
  have sq := same_new (o := .tup [.int 0, .int 1]) hq
  have s2 := sp.trans sq
  have d1 : Dp K (upd (upd H p (.tup [.str "ground", .int 0, .int 0])) q (.tup [.int 0, .int 1])) (.ref p0) (kD [.inl 0, .inl 1]) := .tup (SqT.of (s2 _ _ e0)) (dp_keys [.inl 0, .inl 1])
  have d2 : Dp K (upd (upd H p (.tup [.str "ground", .int 0, .int 0])) q (.tup [.int 0, .int 1])) (.ref q) (kD [.inl 0, .inl 1]) := .tup (SqT.of upd_same) (dp_keys [.inl 0, .inl 1])
  refine ⟨_, _, d1, d2, by decide +kernel, by decide +kernel, ?_⟩
  rw [kD_eqv, decide_eq_true rfl]
  refine ⟨_, rfl, ite2 (fun z => by cases z) (fun _ => ?_)⟩
  refine ⟨_, rfl, L, rfl, ⟨_, SqL.of (s2 _ _ eL)⟩, for_list (K := K) (a := L) (xs := xs) (fun i σ H2 => Same H H2 ∧ ∃ o2, σ = [some (.ref D), some (.ref L), o2]) ⟨s2, _, rfl⟩ (fun i σ H2 _ h => SqL.of (h.1 _ _ eL)) ?_ ?_⟩
  · rintro i x σ H2 hi ⟨k2, o2, rfl⟩
    obtain ⟨l, hl, lv⟩ := pr_get rL hi
    obtain ⟨e, he, a1, a2, a3⟩ := pr_get har hl
    have hke := hk e (List.mem_of_getElem? he)
    rw [a3] at hke
    refine ⟨_, rfl, _, rfl, D, kvs, ks, wv, x, l, e.1, e.2.1, rfl, k2 _ _ eD, tD.mono (same_tp k2), hlow, lv.mono (same_tp k2), a1, a2, ?_⟩
    rw [decide_eq_true hke]
    exact ⟨_, rfl, ite2 (fun z => by cases z) (fun _ => ⟨k2, _, rfl⟩)⟩
  · rintro σ H2 ⟨k2, o2, rfl⟩
    exact kk H2 k2
end
end Ell
set_option maxHeartbeats 4000000
namespace Ell
open PySem PySem.Spec PyProof.Rows L2
/-! ### the law's reading of rings -/
def spSpotLike : Sp := spIsSpot
def spLinkLike : Sp := fun vs H Q _ => ∃ (v : V) (l : Lk), vs = [v] ∧ LV H v l ∧ IsSp l.a ∧ IsSp l.b ∧ Q (.bl true) H
def spRightRing (K : PySem.W.Frag) : Sp := fun vs H Q _ => ∃ (Br L : Addr) (ls r : List Lk), vs = [.ref Br, .ref L] ∧ LinksT H Br r ∧ LinksAt H L ls ∧ RingOk ls r ∧ ls.length ≤ 1000 ∧ ∀ H', Same H H' → Q (.bl true) H'
def spRingHolds (K : PySem.W.Frag) : Sp := fun vs H Q _ => ∃ (L Br : Addr) (ls r : List Lk), vs = [.ref L, .ref Br] ∧ LinksT H Br r ∧ LinksAt H L ls ∧ RingOk ls r ∧ ls.length ≤ 1000 ∧ (∀ l ∈ ls, IsSp l.a ∧ IsSp l.b) ∧ ∀ H', Same H H' → Q (.bl true) H'
def spSoundL : Sp := fun vs H Q _ => ∃ (R : Addr) (N : Nat) (T : Tb), vs = [.ref R] ∧ TabAt H R N T ∧ N ≤ 1000 ∧ (∀ k, k < N → ∃ z, T k k = some z) ∧ ∀ (H' : Hp) (b : Bool), Same H H' → (b = true ↔ ∀ k z, k < N → T k k = some z → 0 ≤ z) → Q (.bl b) H'
theorem lk_last : ∀ {r : List Lk} {a b : List Key} {l : Lk}, LkW r a b → r[r.length - 1]? = some l → l.b = b
  | [], a, b, l, _, e => by cases e
  | [m], a, b, l, h, e => by
    cases e
    exact h.2
  | m :: n :: r, a, b, l, h, e => by
    refine lk_last (r := n :: r) h.2 ?_
    rw [← e]
    rfl
theorem lk_first {r : List Lk} {a b : List Key} {l : Lk} (h : LkW r a b) (e : r[0]? = some l) : l.a = a := by
  cases r with
  | nil => cases e
  | cons m r =>
    cases e
    exact h.1
theorem lk_next : ∀ {r : List Lk} {a b : List Key} {l m : Lk} (k : Nat), LkW r a b → r[k]? = some l → r[k + 1]? = some m → m.a = l.b
  | [], _, _, _, _, k, _, e, _ => by cases e
  | n :: r, a, b, l, m, 0, h, e, f => by
    cases e
    exact lk_first h.2 f
  | n :: r, a, b, l, m, k + 1, h, e, f => lk_next (r := r) k h.2 e f
theorem RingOk.len {ls r : List Lk} (h : RingOk ls r) : r.length ≤ ls.length := by
  have := sub_len h.nd (m := ls.map (·.a)) fun k hk => by
    obtain ⟨l, hl, rfl⟩ := List.mem_map.mp hk
    exact List.mem_map.mpr ⟨l, h.m l hl, rfl⟩
  simpa using this
theorem lsum_snoc {r : List Lk} {l : Lk} : lsum (r ++ [l]) = lsum r + l.w := by
  induction r with
  | nil => simp [lsum]
  | cons m r ih =>
    rw [List.cons_append, lsum, lsum, ih]
    omega
section
variable {P : Program} {w : World} {K : PySem.W.Frag} {mg : Str → Option Value} {base : Heap}
theorem ok_spot_like (T : Tx K mg) (c_l_integer : Cal P w K mg base CX0 1 "_law_integer" ["_law_thing"] [] spInt) : Cal P w K mg base CX0 2 "_law_spot_like" ["_law_thing"] [] spSpotLike := by
  obtain ⟨fd, F⟩ := T.f_l_spot_like
  refine ⟨_, fd, [], F.ok sc_l_spot_like (fun vs H Q E h => ?_) (fun cdv A outer s H vs Q E hr h => ?_), T.g_l_spot_like, F.kp, F.bindsN fun _ _ _ _ _ _ us hl => match us, hl with | [_], _ => rfl, .nil⟩
  · obtain ⟨v, k, rfl, _⟩ := h
    rfl
  obtain ⟨v, k, rfl, ⟨p, rfl, hp, _⟩, ⟨n, i, j, rfl⟩, kk⟩ := h
  have hT : SqT K H p _ := SqT.of hp
  refine ⟨_, PSs.nox ((pss_cons (ps_if (PW.pt (pw_or (pt_not (pt_val (pe_callB (isiK K) (by rfl) T.b_isinstance (by decide +kernel) (pa_cons (pv 0) (pa_cons (pe_bltn (v := .ty "tuple") (u := .type "tuple") (by rfl) T.b_tuple (by decide +kernel) rfl) pa_nil))))) (pw_or (pt_cmpR op_ne (pe_callB (call_lenK K) (by rfl) T.b_len PySem.boot_len (pa_cons (pv 0) pa_nil)) pe_int (nomark _)) (pw_or1 (pt_not (pt_val (pe_callB (isiK K) (by rfl) T.b_isinstance (by decide +kernel) (pa_cons (pe_ix (ix_tupK K) (pv 0) pe_int (fun _ _ => rfl)) (pa_cons (pe_bltn (v := .ty "str") (u := .type "str") (by rfl) T.b_str (by decide +kernel) rfl) pa_nil))))))))) (pss_one (ps_ret pe_bl)) pss_nil)
        (pss_one (ps_ret (pe_and (pcall c_l_integer hr (pa_cons (pe_ix (ix_tupK K) (pv 0) pe_int (fun _ _ => rfl)) pa_nil)) (pe_one (pcall c_l_integer hr (pa_cons (pe_ix (ix_tupK K) (pv 0) pe_int (fun _ _ => rfl)) pa_nil)))))))), ?_⟩
  refine ⟨_, rfl, _, _, _, _, true, rfl, .ty "tuple", .base (.tup (hp)), kTT, true, rfl, ?_⟩
  refine ⟨_, rfl, _, 3, rfl, .inr ⟨_, hT, rfl⟩, rfl, _, rfl, ?_⟩
  refine ⟨_, rfl, p, _, _, _, rfl, rfl, hT, atI_nat (j := 0) rfl, _, _, _, _, true, rfl, .ty "str", .base (.str _), kSS, true, rfl, ?_⟩
  exact ⟨_, rfl, p, _, _, _, rfl, rfl, hT, atI_nat (j := 1) rfl, i, rfl, true, rfl, _, rfl, p, _, _, _, rfl, rfl, hT, atI_nat (j := 2) rfl, j, rfl, kk⟩
theorem ok_link_like (T : Tx K mg) (c_l_spot_like : Cal P w K mg base CX0 2 "_law_spot_like" ["_law_thing"] [] spSpotLike) (c_l_integer : Cal P w K mg base CX0 1 "_law_integer" ["_law_thing"] [] spInt) : Cal P w K mg base CX0 3 "_law_link_like" ["_law_thing"] [] spLinkLike := by
  obtain ⟨fd, F⟩ := T.f_l_link_like
  refine ⟨_, fd, [], F.ok sc_l_link_like (fun vs H Q E h => ?_) (fun cdv A outer s H vs Q E hr h => ?_), T.g_l_link_like, F.kp, F.bindsN fun _ _ _ _ _ _ us hl => match us, hl with | [_], _ => rfl, .nil⟩
  · obtain ⟨v, l, rfl, _⟩ := h
    rfl
  obtain ⟨v, l, rfl, ⟨p, x, y, z, rfl, hp, hx, hy, hz⟩, sa, sb, kk⟩ := h
  have hT : SqT K H p _ := SqT.of hp
  obtain ⟨q, rfl, hq, _⟩ := id hz
  refine ⟨_, PSs.nox ((pss_cons (ps_if (PW.pt (pw_or (pt_not (pt_val (pe_callB (isiK K) (by rfl) T.b_isinstance (by decide +kernel) (pa_cons (pv 0) (pa_cons (pe_bltn (v := .ty "tuple") (u := .type "tuple") (by rfl) T.b_tuple (by decide +kernel) rfl) pa_nil))))) (pw_or (pt_cmpR op_ne (pe_callB (call_lenK K) (by rfl) T.b_len PySem.boot_len (pa_cons (pv 0) pa_nil)) pe_int (nomark _)) (pw_or1 (pt_not (pt_val (pe_callB (isiK K) (by rfl) T.b_isinstance (by decide +kernel) (pa_cons (pe_ix (ix_tupK K) (pv 0) pe_int (fun _ _ => rfl)) (pa_cons (pe_bltn (v := .ty "tuple") (u := .type "tuple") (by rfl) T.b_tuple (by decide +kernel) rfl) pa_nil))))))))) (pss_one (ps_ret pe_bl)) pss_nil)
        (pss_one (ps_ret (pe_and (pcall c_l_spot_like hr (pa_cons (pe_ix (ix_tupK K) (pv 0) pe_int (fun _ _ => rfl)) pa_nil)) (pe_and (pcall c_l_spot_like hr (pa_cons (pe_ix (ix_tupK K) (pv 0) pe_int (fun _ _ => rfl)) pa_nil)) (pe_one (pcall c_l_integer hr (pa_cons (pe_ix (ix_tupK K) (pv 0) pe_int (fun _ _ => rfl)) pa_nil))))))))), ?_⟩
  refine ⟨_, rfl, _, _, _, _, true, rfl, .ty "tuple", .base (.tup (hp)), kTT, true, rfl, ?_⟩
  refine ⟨_, rfl, _, 4, rfl, .inr ⟨_, hT, rfl⟩, rfl, _, rfl, ?_⟩
  refine ⟨_, rfl, p, _, _, _, rfl, rfl, hT, atI_nat (j := 3) rfl, _, _, _, _, true, rfl, .ty "tuple", .base (.tup (hq)), kTT, true, rfl, ?_⟩
  exact ⟨_, rfl, p, _, _, _, rfl, rfl, hT, atI_nat (j := 0) rfl, x, l.a, rfl, hx, sa, true, rfl, _, rfl, p, _, _, _, rfl, rfl, hT, atI_nat (j := 1) rfl, y, l.b, rfl, hy, sb, true, rfl, _, rfl, p, _, _, _, rfl, rfl, hT, atI_nat (j := 2) rfl, l.w, rfl, kk⟩
theorem ok_right_ring (T : Tx K mg) : Cal P w K mg base CX0 1 "_law_right_ring" ["_law_ring", "_law_links"] [] (spRightRing K) := by
  obtain ⟨fd, F⟩ := T.f_l_right_ring
  refine ⟨_, fd, [], F.ok sc_l_right_ring (fun vs H Q E h => ?_) (fun cdv A outer s H vs Q E hr h => ?_), T.g_l_right_ring, F.kp, F.bindsN fun _ _ _ _ _ _ us hl => match us, hl with | [_, _], _ => rfl, .nil⟩
  · obtain ⟨Br, L, ls, r, rfl, _⟩ := h
    rfl
  obtain ⟨Br, L, ls, r, rfl, hB, hL, hR, hl, kk⟩ := h
  have hu64 := hu64_of hr
  have hu65 := hu65_of hr
  refine ⟨_, PSs.nox ((pss_cons (ps_if (PW.pt (pw_or (pt_not (pt_val (pe_callB (isiK K) (by rfl) T.b_isinstance (by decide +kernel) (pa_cons (pv 0) (pa_cons (pe_bltn (v := .ty "tuple") (u := .type "tuple") (by rfl) T.b_tuple (by decide +kernel) rfl) pa_nil))))) (pw_or1 (pt_cmpR (eqDK K hu64) (pv 0) (pe_tup pa_nil) (nomark _))))) (pss_one (ps_ret pe_bl)) pss_nil)
        (pss_cons (ps_set (i := 2) sc_l_right_ring.nd rfl (Or.inl rfl) pe_int)
        (pss_cons (ps_set (i := 3) sc_l_right_ring.nd rfl (Or.inl rfl) (pe_lst pa_nil))
        (pss_cons (ps_for PassesOwn.never rfl (pi_range1 (by rfl) T.b_range (pa_cons (pe_callB (call_lenK K) (by rfl) T.b_len PySem.boot_len (pa_cons (pv 0) pa_nil)) pa_nil)) (pg_name (i := 4) sc_l_right_ring.nd rfl (Or.inl rfl))
          (pss_cons (ps_set (i := 5) sc_l_right_ring.nd rfl (Or.inl rfl) (pe_ix (ix_tupK K) (pv 0) (pv 4) (fun _ _ => rfl)))
          (pss_cons (ps_if (PW.pt (pw_or (pt_cmpR (notInDK K hu65) (pv 5) (pv 1) rfl) (pw_or (pt_cmpR (neDK K hu64) (pe_ix (ix_tupK K) (pv 5) pe_int (fun _ _ => rfl)) (pe_ix (ix_tupK K) (pe_ix (ix_tupK K) (pv 0) (pe_op op_sub (pv 4) pe_int) (fun _ _ => rfl)) pe_int (fun _ _ => rfl)) (nomark _)) (pw_or1 (pt_cmpR (inDK K hu65) (pe_ix (ix_tupK K) (pv 5) pe_int (fun _ _ => rfl)) (pv 3) rfl))))) (pss_one (ps_ret pe_bl)) pss_nil)
          (pss_cons (ps_expr (bmK K PySem.F.plainAttrs_list PySem.F.slot_list_append PySem.F.type_list_append mt_append (pv 3) (pa_cons (pe_ix (ix_tupK K) (pv 5) pe_int (fun _ _ => rfl)) pa_nil)))
          (pss_one (ps_set (i := 2) sc_l_right_ring.nd rfl (Or.inl rfl) (pe_op op_add (pv 2) (pe_ix (ix_tupK K) (pv 5) pe_int (fun _ _ => rfl)))))))))
        (pss_one (ps_ret (pe_cmpR op_lt (pv 2) pe_int (nomark _))))))))), ?_⟩
  obtain ⟨xs, eB, rB⟩ := id hB
  obtain ⟨ys, eL, rL⟩ := id hL
  have lx := pr_len rB
  have lr := hR.len
  obtain ⟨a0, cyc⟩ := hR.c
  refine ⟨_, rfl, _, _, _, _, true, rfl, .ty "tuple", .base (.tup (eB)), kTT, true, rfl, ?_⟩
  refine ⟨_, rfl, (show 0 ≤ sizeLine by decide), fun q hq => ?_⟩
  have sq := same_new (o := .tup []) hq
  refine ⟨_, _, lvs_dpT (SqT.of (sq _ _ eB)) (lvs_mono rB (same_tp sq)), .tup (SqT.of upd_same) .nil, lvs_shT rB, by decide +kernel, ?_⟩
  have hne : PyData.eqv (.tuple (r.map lD)) (.tuple []) = false := by
    cases r with
    | nil => exact absurd rfl hR.ne
    | cons l r => rfl
  rw [hne]
  refine ⟨_, rfl, ite2 (fun z => by cases z) (fun _ => ?_)⟩
  refine ⟨(show 0 ≤ sizeLine by decide), fun G hG => ?_⟩
  have sG := sq.trans (same_new (o := .lst []) hG)
  have hG0 : H G = none := sq.free hG
  refine ⟨_, rfl, _, xs.length, rfl, .inr ⟨_, SqT.of (sG _ _ eB), rfl⟩, (xs.length : Int), rfl, by omega, by omega, for_range (fun i σ H2 => ∃ (o4 o5 : Option V) (acc : List V) (t : Int), σ = [some (.ref Br), some (.ref L), some (.int t), some (.ref G), o4, o5] ∧ H2 G = some (.lst acc) ∧ TKs H2 acc ((r.take i).map (·.a)) ∧ t = lsum (r.take i) ∧ Same H H2) ?_ ?_ ?_⟩
  · exact ⟨none, none, [], 0, rfl, upd_same, .nil, rfl, sG⟩
  · rintro i σ H2 hi ⟨o4, o5, acc, t, rfl, eG, rG, ht, k2⟩
    have hi : i < xs.length := by omega
    obtain ⟨l, hl', lv⟩ := pr_get rB (List.getElem?_eq_getElem hi)
    have lv2 := lv.mono (same_tp k2)
    obtain ⟨p, x, y, z, ep', eq, hx, hy, hz⟩ := id lv2
    have B2 : SqT K H2 Br xs := SqT.of (k2 _ _ eB)
    have P2 : SqT K H2 p _ := SqT.of eq
    have mem : l ∈ ls := hR.m l (List.mem_of_getElem? hl')
    refine ⟨_, rfl, _, rfl, Br, xs, _, _, rfl, rfl, B2, at_of (j := i) (by omega) (List.getElem?_eq_getElem hi), ?_⟩
    -- not in
    have rL2 := lvs_mono rL (same_tp k2)
    refine ⟨_, rfl, _, rfl, _, _, lv2.dp, lvs_dp (SqL.of (k2 _ _ eL)) rL2, lv2.sh, lvs_sh rL2, ?_⟩
    rw [in_lD.mpr mem]
    refine ⟨_, rfl, ite2 (fun z => by cases z) (fun _ => ?_)⟩
    -- the link before
    have hpv : ∃ (j : Nat) (m : Lk), (∃ k : Int, k = 0 + (i : Int) - 1 ∧ atI xs k = xs[j]?) ∧ r[j]? = some m ∧ m.b = l.a := by
      by_cases h0 : i = 0
      · subst h0
        have hlt : r.length - 1 < r.length := by omega
        refine ⟨r.length - 1, r[r.length - 1], ⟨_, rfl, ?_⟩, List.getElem?_eq_getElem hlt, ?_⟩
        · have e : (0 : Int) + ((0 : Nat) : Int) - 1 = -1 := by omega
          rw [e]
          have hx1 : xs.length - 1 < xs.length := by omega
          rw [← lx]
          unfold atI ixN
          rw [if_neg (by omega), if_pos (by omega)]
          have e2 : ((-1 : Int) + (xs.length : Int)).toNat = xs.length - 1 := by omega
          first
            | rw [e2]; rfl
            | simp [e2]
        · rw [lk_last cyc (List.getElem?_eq_getElem hlt), lk_first cyc hl']
      · have hlt : i - 1 < r.length := by omega
        refine ⟨i - 1, r[i - 1], ⟨_, rfl, ?_⟩, List.getElem?_eq_getElem hlt, ?_⟩
        · have hx1 : i - 1 < xs.length := by omega
          rw [at_of (j := i - 1) (by omega) (List.getElem?_eq_getElem hx1), List.getElem?_eq_getElem hx1]
        · have e : i - 1 + 1 = i := by omega
          exact (lk_next (i - 1) cyc (List.getElem?_eq_getElem hlt) (by rw [e]; exact hl')).symm
    obtain ⟨j, m, ⟨kx, hkx, hat⟩, hm, hmb⟩ := hpv
    obtain ⟨v, hv, mv⟩ := pr_get2 rB hm
    obtain ⟨p2, x2, y2, z2, rfl, eq2, hx2, hy2, hz2⟩ := mv.mono (same_tp k2)
    rw [hv] at hat
    subst hkx
    rw [ep']
    refine ⟨_, rfl, p, _, _, _, rfl, rfl, P2, atI_nat (j := 0) rfl, _, rfl, _, rfl, _, _, rfl, rfl, Br, xs, _, _, rfl, rfl, B2, hat, p2, _, _, _, rfl, rfl, SqT.of eq2, atI_nat (j := 1) rfl, ?_⟩
    refine ⟨_, _, hx.dp, hy2.dp, hx.sh, hy2.sh, ?_⟩
    rw [kD_eqv, hmb, decide_eq_true rfl]
    refine ⟨_, rfl, ite2 (fun z => by cases z) (fun _ => ?_)⟩
    -- not begun yet
    have nb : l.a ∉ (r.take i).map (·.a) := fun hmem => by
      obtain ⟨c, hc⟩ := List.mem_iff_getElem?.mp hmem
      rw [List.map_take, List.getElem?_take] at hc
      split at hc
      · rename_i hlt
        have := nd_ix hR.nd hc (show (r.map (·.a))[i]? = some l.a by rw [List.getElem?_map, hl']; rfl)
        omega
      · cases hc
    have lacc : acc.length ≤ 1000 := by
      have := pr_len rG
      rw [List.length_map, List.length_take] at this
      omega
    refine ⟨_, rfl, p, _, _, _, rfl, rfl, P2, atI_nat (j := 0) rfl, _, rfl, _, _, hx.dp, tks_dp (SqL.of eG) rG, hx.sh, tks_sh rG, ?_⟩
    have nany : (((r.take i).map (·.a)).map kD).any (fun z => PyData.eqv z (kD l.a)) = false := by
      rw [Bool.eq_false_iff]
      exact fun h => nb (in_kD.mp h)
    rw [nany]
    refine ⟨_, rfl, ite2 (fun z => by cases z) (fun _ => ?_)⟩
    have tpG : TP H2 (upd H2 G (.lst (acc ++ [x]))) := put_tp eG fun _ z => by cases z
    refine ⟨_, rfl, .inl ⟨rfl, _, SqL.of eG⟩, _, rfl, p, _, _, _, rfl, rfl, P2, atI_nat (j := 0) rfl, G, acc, x, rfl, rfl, eG, small1000 (by omega), ?_⟩
    refine ⟨_, rfl, _, rfl, p, _, _, .int l.w, rfl, rfl, SqT.of (tpG _ _ eq), atI_nat (j := 2) rfl, _, _, rfl, rfl, _, _, _, _, rfl, upd_same, ?_, ?_, ?_⟩
    · rw [take_snoc hl', List.map_append]
      exact pr_snoc (tks_mono rG tpG) (hx.mono tpG)
    · rw [take_snoc hl', lsum_snoc, ht]
    · exact fun c o e => by
        rw [upd_ne (ne_of_none e hG0)]
        exact k2 _ _ e
  · rintro σ H2 ⟨o4, o5, acc, t, rfl, eG, rG, ht, k2⟩
    have en : ((xs.length : Nat) : Int).toNat = r.length := by omega
    rw [en, List.take_length] at ht
    subst ht
    have := kk H2 k2
    refine ⟨_, rfl, _, _, rfl, rfl, ?_⟩
    show Q (.bl (decide (lsum r < 0))) H2
    rw [decide_eq_true hR.neg]
    exact this
theorem ok_ring_holds (T : Tx K mg) (c_l_link_like : Cal P w K mg base CX0 3 "_law_link_like" ["_law_thing"] [] spLinkLike) (c_l_right_ring : Cal P w K mg base CX0 1 "_law_right_ring" ["_law_ring", "_law_links"] [] (spRightRing K)) : Cal P w K mg base CX0 4 "_law_ring_holds" ["_law_links", "_law_told"] [] (spRingHolds K) := by
  obtain ⟨fd, F⟩ := T.f_l_ring_holds
  refine ⟨_, fd, [], F.ok sc_l_ring_holds (fun vs H Q E h => ?_) (fun cdv A outer s H vs Q E hr h => ?_), T.g_l_ring_holds, F.kp, F.bindsN fun _ _ _ _ _ _ us hl => match us, hl with | [_, _], _ => rfl, .nil⟩
  · obtain ⟨L, Br, ls, r, rfl, _⟩ := h
    rfl
  obtain ⟨L, Br, ls, r, rfl, hB, hL, hR, hl, hsp, kk⟩ := h
  have hu64 := hu64_of hr
  refine ⟨_, PSs.nox ((pss_cons (ps_if (PW.pt (pw_or (pt_not (pt_val (pe_callB (isiK K) (by rfl) T.b_isinstance (by decide +kernel) (pa_cons (pv 1) (pa_cons (pe_bltn (v := .ty "tuple") (u := .type "tuple") (by rfl) T.b_tuple (by decide +kernel) rfl) pa_nil))))) (pw_or1 (pt_cmpR (eqDK K hu64) (pv 1) (pe_tup pa_nil) (nomark _))))) (pss_one (ps_ret pe_bl)) pss_nil)
        (pss_cons (ps_for PassesOwn.never rfl (pi_tupK K (pv 1)) (pg_name (i := 2) sc_l_ring_holds.nd rfl (Or.inl rfl))
          (pss_one (ps_if (pt_not (pt_val (pcall c_l_link_like hr (pa_cons (pv 2) pa_nil)))) (pss_one (ps_ret pe_bl)) pss_nil)))
        (pss_one (ps_ret (pcall c_l_right_ring hr (pa_cons (pv 1) (pa_cons (pv 0) pa_nil)))))))), ?_⟩
  obtain ⟨xs, eB, rB⟩ := id hB
  refine ⟨_, rfl, _, _, _, _, true, rfl, .ty "tuple", .base (.tup (eB)), kTT, true, rfl, ?_⟩
  refine ⟨_, rfl, (show 0 ≤ sizeLine by decide), fun q hq => ?_⟩
  have sq := same_new (o := .tup []) hq
  refine ⟨_, _, lvs_dpT (SqT.of (sq _ _ eB)) (lvs_mono rB (same_tp sq)), .tup (SqT.of upd_same) .nil, lvs_shT rB, by decide +kernel, ?_⟩
  have hne : PyData.eqv (.tuple (r.map lD)) (.tuple []) = false := by
    cases r with
    | nil => exact absurd rfl hR.ne
    | cons l r => rfl
  rw [hne]
  refine ⟨_, rfl, ite2 (fun z => by cases z) (fun _ => ?_)⟩
  refine ⟨_, rfl, Br, rfl, ⟨_, SqT.of (sq _ _ eB)⟩, for_tup (K := K) (a := Br) (xs := xs) (fun i σ H2 => Same H H2 ∧ ∃ o2, σ = [some (.ref L), some (.ref Br), o2]) ⟨sq, _, rfl⟩ (fun i σ H2 _ h => SqT.of (h.1 _ _ eB)) ?_ ?_⟩
  · rintro i x σ H2 hi ⟨k2, o2, rfl⟩
    obtain ⟨l, hl', lv⟩ := pr_get rB hi
    obtain ⟨sa, sb⟩ := hsp l (hR.m l (List.mem_of_getElem? hl'))
    exact ⟨_, rfl, x, l, rfl, lv.mono (same_tp k2), sa, sb, true, rfl, k2, _, rfl⟩
  · rintro σ H2 ⟨k2, o2, rfl⟩
    exact ⟨_, rfl, _, rfl, Br, L, ls, r, rfl, hB.mono (same_tp k2), hL.same k2, hR, hl, fun H3 s3 => kk H3 (k2.trans s3)⟩
theorem ok_l_sound (T : Tx K mg) : Cal P w K mg base CX0 1 "_law_sound" ["_law_rows"] [] spSoundL := by
  obtain ⟨fd, F⟩ := T.f_l_sound
  refine ⟨_, fd, [], F.ok sc_l_sound (fun vs H Q E h => ?_) (fun cdv A outer s H vs Q E hr h => ?_), T.g_l_sound, F.kp, F.bindsN fun _ _ _ _ _ _ us hl => match us, hl with | [_], _ => rfl, .nil⟩
  · obtain ⟨R, N, Tb, rfl, _⟩ := h
    rfl
  obtain ⟨R, N, Tb, rfl, hT, hn, hd, kk⟩ := h
  have hu64 := hu64_of hr
  refine ⟨_, PSs.nox ((pss_one (ps_ret (pe_cmpR (eqDK K hu64) (pe_lc (own := [("_law_k", 1)]) (g := gName 1) rfl sc_l_sound.nd (pi_range1 (by rfl) T.b_range (pa_cons (pe_callB (call_lenK K) (by rfl) T.b_len PySem.boot_len (pa_cons (pv 0) pa_nil)) pa_nil)) (blkOk_by (N := N_l_sound) (sc := defScope s_l_sound) (by decide +kernel)) (fun _ _ _ _ _ => (pg_name (i := 1) sc_l_sound.nd rfl (Or.inl rfl))) (fun _ _ _ _ _ => (pts_one (pt_cmpR op_lt (pe_ix (ix_listK K) (pe_ix (ix_listK K) (pv 0) (pv 1) (fun _ _ => rfl)) (pv 1) (fun _ _ => rfl)) pe_int (nomark _)))) (fun _ _ _ _ _ => (pv 1))) (pe_lst pa_nil) (nomark _))))), ?_⟩
  obtain ⟨rs, lrs, tt⟩ := id hT
  refine ⟨_, rfl, _, rs.length, rfl, .inl ⟨_, SqL.of tt.e, by simp⟩, _, rfl, by omega, by omega, fun D hD => lc_range (fun i H2 => ∃ vs : List Int, H2 D = some (.lst (vs.map V.int)) ∧ vs.length ≤ i ∧ (vs = [] ↔ ∀ k z, k < i → Tb k k = some z → 0 ≤ z) ∧ Same H H2) ⟨[], upd_same, Nat.le_refl _, ⟨fun _ k z h => by omega, fun _ => rfl⟩, same_new hD⟩ ?_ ?_⟩
  · rintro i H2 hi ⟨vs, e2, l2, i2, k2⟩
    have hi : i < N := by omega
    obtain ⟨z, hz⟩ := hd i hi
    have hri : rs[i]? = some rs[i] := List.getElem?_eq_getElem (by omega)
    refine ⟨rfl, _, rfl, _, rfl, R, _, _, .ref rs[i], rfl, rfl, SqL.of (k2 _ _ tt.e), at_of (j := i) (by omega) (by rw [List.getElem?_map, hri]; rfl), _, rfl, rs[i], _, _, .int z, rfl, rfl, SqL.of (k2 _ _ (tt.row i _ hri)), ?_, ?_⟩
    · rw [fl_at (i := i) (by omega) hi, hz]
      rfl
    · refine ⟨_, _, rfl, rfl, _, rfl, ?_⟩
      by_cases h0 : z < 0
      · rw [decide_eq_true h0]
        refine ⟨_, rfl, _, e2, by rw [List.length_map]; exact small1000 (by omega), vs ++ [0 + (i : Int)], by rw [upd_same, List.map_append]; rfl, by rw [List.length_append, List.length_singleton]; omega, ⟨fun h => ?_, fun h => ?_⟩, fun c o e => ?_⟩
        · simp at h
        · have := h i z (by omega) hz
          omega
        · rw [upd_ne (ne_of_none e hD)]
          exact k2 _ _ e
      · rw [decide_eq_false h0]
        refine ⟨vs, e2, by omega, i2.trans ⟨fun h k y hk hy => ?_, fun h k y hk hy => h k y (by omega) hy⟩, k2⟩
        by_cases hki : k = i
        · subst hki
          rw [hz] at hy
          cases hy
          omega
        · exact h k y (by omega) hy
  · rintro H2 ⟨vs, e2, l2, i2, k2⟩
    have en : ((rs.length : Nat) : Int).toNat = N := by omega
    rw [en] at l2 i2
    refine ⟨(show 0 ≤ sizeLine by decide), fun q hq => ?_⟩
    have sq := same_new (o := .lst []) hq
    have dv : DpAll K (upd H2 q (.lst [])) (vs.map V.int) (vs.map PyData.int) := by
      clear i2 l2 e2
      induction vs with
      | nil => exact .nil
      | cons v vs ih => exact .cons (.int _) ih
    refine ⟨_, _, .lst (SqL.of (sq _ _ e2)) dv, .lst (SqL.of upd_same) .nil, listD_sh (f := PyData.int) vs (n := 0) (fun a _ => ⟨rfl, rfl⟩) (by decide), by decide +kernel, kk _ _ (k2.trans sq) ?_⟩
    rw [← i2]
    cases vs <;> simp [PyData.eqv, PyData.eqvAll]
end
end Ell
set_option maxHeartbeats 4000000
namespace Ell
open PySem PySem.Spec PyProof.Rows L2
/-! ### within an except suite -/
section
open HotX L2H
theorem mkHot {X : Cx} (p : Addr × Obj) (h : Hot1 X.A p) (h2 : p ∈ X.pn) : HotC X := ⟨p, h, h2⟩
theorem next_tup_hot {prog : Program} {w : World} {A : Around} {E : Value → Shared → Prop} {s : Shared} {it t x1 : Addr} {i : Nat} {items : Array Value} {Q : Option Value → Shared → Prop} (hot : HotAt A x1 s.heap)
    (hit : s.heap.IsTupleIter it t i) (ht : s.heap.IsTuple t items) (hx : items[i]? = none) (hne : x1 ≠ it)
    (hQ : ∀ h', Heap.ExtBut it s.heap h' → Q none { s with heap := h' }) : wpAny (model prog w) A (pyNext (.ref it)) Q E s := by
  obtain ⟨hh, o1, vs1, h1, d1, c1⟩ := hot
  obtain ⟨o, ho, hc, hd⟩ := id hit
  obtain ⟨ol, hol, _, nl, hdl⟩ := ht
  unfold pyNext
  refine wpAny_bind (wpAny_attempt (wpAny_callSpecial?_slot (name := Str.ofString "__next__") hit.typeIs PySem.F.slot_tuple_iterator_next
    (wpAny_call_entry PySem.F.slot_tuple_iterator_next hit.typeIs PySem.F.entry_tuple_iterator_next ?_ (PySem.F.args_tuple_iterator_next_1 _))))
  show wpAny _ _ (field (.ref it) 0 >>= _) _ _ s
  refine wpAny_bind (wpAny_field ho hd (x := .ref t) rfl ?_)
  show wpAny _ _ (if (Value.ref t == Value.none) = true then _ else _) _ _ s
  rw [if_neg (show ¬ ((Value.ref t == Value.none) = true) from Bool.false_ne_true)]
  show wpAny _ _ (field (.ref it) 1 >>= _) _ _ s
  refine wpAny_bind (wpAny_field ho hd (x := .int i 0) rfl ?_)
  show wpAny _ _ (seqItems? (.ref t) >>= _) _ _ s
  refine wpAny_bind (wpAny_seqItems hol hdl ?_)
  simp only [Int.toNat_natCast, hx]
  refine wpAny_bind (wpAny_rule (wpAny_bind (wpAny_setField ho hd (by simp) ?_)))
  have sb : Heap.SameBut it s.heap (s.heap.update it (Obj.mapFields (·.setIfInBounds 0 Value.none))) := Heap.SameBut.update ..
  have h1' := (sb.2 x1 hne).trans h1
  show wpAny _ _ (newExc (.type "StopIteration") [] >>= _) _ _ _
  refine wpAny_bind ?_
  simp only [newExc, newTuple]
  refine wpAny_bind (wpAny_newObj_type ?_ (by size_fits))
  refine wpAny_bind (m := firstArgMember _ _) (wpAny_of_eq (a := Value.none) (by first | rfl | (simp only [firstArgMember]; rfl)) ?_)
  refine wpAny_newObj_type ?_ (by size_fits)
  refine raiseNew_hot ⟨hh, o1, vs1, Heap.get?_push_of_some _ (Heap.get?_push_of_some _ h1'), d1, c1⟩ (Nat.ne_of_lt (Heap.lt_size (Heap.get?_push_of_some _ h1'))) (Heap.get?_push_size _ rfl) rfl (by first | (simp; done) | (simp; omega) | (simp only [Array.size_append]; simp; omega)) ?_
  refine wpAny_bind (wpAny_isInstance (T := "StopIteration") (b := true) ⟨_, Heap.get?_update_self _ (Heap.get?_push_size _ rfl) rfl, rfl⟩ isSubtype_stop ?_)
  refine wpAny_pure (hQ _ fun b o hb e => ?_)
  have e' := (sb.2 b hb).trans e
  rw [Heap.get?_update_other _ _ (Nat.ne_of_gt (Heap.lt_size (Heap.get?_push_of_some _ e')))]
  exact Heap.get?_push_of_some _ (Heap.get?_push_of_some _ e')
theorem turn_tupH {P : Program} {w : World} {K : PySem.W.Frag} {tg : Expr} (a it : Addr) : TurnH P w K tg (Itt K a) [it] it (fun i h => h.IsTupleIter it a i) where
  mem := by simp
  obj := fun i h st b hb => by
    have e : b = it := by simpa using hb
    subst e
    obtain ⟨o, e, c, d⟩ := st
    exact ⟨o, e, fun v z => by rw [d] at z; cases z⟩
  keep := fun i h h' st k => st.at fun o e => k it (by simp) o e
  item := by
    intro X hP hw hK hc i pins s σ H E I hf st hg
    subst hP hw hK
    obtain ⟨xs, x, hq, hx⟩ := hg
    obtain ⟨its, rv, p, hz⟩ := I.tuple hq
    obtain ⟨u, hu, ru⟩ := rv.get hx
    obtain ⟨f0, f1, f2, f3, f4, f5⟩ := hf it (by simp)
    refine wpAny_pyNext_tuple_item st (show s.heap.IsTuple a its.toArray from p) (x := u) (by simpa using hu) fun h' st' sb => ?_
    have I1 : Inv X pins σ H { s with heap := h' } := I.turned (t' := s.toks) (fun b o hb e => (sb.2 b hb).trans e) f0 f1 f3 f4 f5
    obtain ⟨o, e, c, d⟩ := id st'
    exact ⟨u, rfl, go_of (s := { s with heap := h' }) e c d (by decide) ⟨x, H, I1, ru, ⟨rfl, fun ys hy => by rw [I.tuple_inj hy hq]; exact hx⟩, st', fun b hb => (hf b hb).1⟩⟩
  done := by
    intro X hP hw hK hc i pins s σ H E I hf st hg
    subst hP hw hK
    obtain ⟨xs, hq, hx⟩ := hg
    obtain ⟨its, rv, p, hz⟩ := I.tuple hq
    obtain ⟨f0, f1, f2, f3, f4, f5⟩ := hf it (by simp)
    have hl := rv.length
    obtain ⟨q, h1, hq1⟩ := id hc
    obtain ⟨hh, v1, e1, c1⟩ := h1
    have pin := (I.pin q (List.mem_append_left _ hq1)).1
    have hot : HotAt X.A q.1 s.heap := ⟨hh, q.2, v1, pin, e1, c1⟩
    have hne : q.1 ≠ it := f5 q (List.mem_append_left _ hq1)
    exact next_tup_hot hot st (show s.heap.IsTuple a its.toArray from p) (by simp; omega) hne fun h' eb => ⟨rfl, I.turned (t' := s.toks) (fun b o hb e => eb b o hb e) f0 f1 f3 f4 f5⟩
  self := fun _ _ _ _ _ st h => wpAny_pyIter_tupleiter st h
theorem pi_tupH {X : Cx} {tg : Expr} (K : PySem.W.Frag) {l : Expr} {tl : TE} (hl : PE X l tl) (hK : X.K = K := by rfl) : PIH X tg l (iTup K tl) := by
  subst hK
  refine ⟨fun pins s σ H R I h => ?_⟩
  refine thn (hl.run pins s σ H _ I h) fun v s1 ⟨x, H1, I1, r1, q1⟩ => ?_
  obtain ⟨a, e, ⟨xs, hq⟩, q⟩ := q1
  subst e
  cases r1
  obtain ⟨its, rv, p, hz⟩ := I1.tuple hq
  refine wpAny_pyIter_tuple (show s1.heap.IsTuple a its.toArray from p) ?_
  refine ⟨s1.heap.objs.size, [s1.heap.objs.size], _, _, H1, rfl, I1.kept (t' := s1.toks) fun b o e => Heap.get?_push_of_some _ e, turn_tupH a _, ⟨_, Heap.get?_push_size _ rfl, rfl, rfl⟩, fun b hb => ?_, q⟩
  have e : b = s1.heap.objs.size := by simpa using hb
  subst e
  exact I1.fpOk (Nat.le_refl _) (I1.hok.fresh (Nat.le_refl _))
/-- a def that may be called there -/
def CalH (P : Program) (w : World) (K : PySem.W.Frag) (mg : Str → Option Value) (base : Heap) (CX : CXT) (k : Nat) (x : Str) (ps : List Str) (sp : Sp) : Prop :=
  ∃ (f : Addr) (fd : FuncData), FnH P w K mg base CX k f fd ps sp ∧ mg x = some (.ref f) ∧ PySem.W.keepIn K (.ref f) = true ∧ Binds K fd ps []
theorem RoomH.lo {j k : Nat} {A : Around} (r : RoomH k A) (h : j ≤ k) : RoomH j A := r.mono h
theorem hu64_ofH {A : Around} {k : Nat} (hr : RoomH k A) : A.units + 64 < cLine := by have := hr.un; omega
theorem hu65_ofH {A : Around} {k : Nat} (hr : RoomH k A) : A.units + 65 < cLine := by have := hr.un; omega
theorem pcallH {X : Cx} {k n : Nat} {x : Str} {ps : List Str} {sp : Sp} {p pos : Pos} {e : Expr} {es : List Expr} {t : TA} (c : CalH X.prog X.w X.K X.mg X.base CX0 k x ps sp) (hr : RoomH n X.A) (hc : HotC X) (ha : PA X (e :: es) t) (hk : k ≤ n := by decide) (hg : Gl X x := by rfl)
    (hdb : (x == ("__debug__" : Str)) = false := by decide) (he : starEach (e :: es) X.env = (false, eval e X.env) :: starEach es X.env := by rfl) (hpl : (backTo pos (starEach es X.env)).any (·.1) = false := by rfl) :
    PE X (.Call (.Name x p) (e :: es) [] pos) (tCall sp [] E0 t) := by
  obtain ⟨f, fd, F, hm, kp, b⟩ := c
  refine ⟨fun pins s σ H Q I h => ?_⟩
  refine (pe_callH (E := fun _ => E0) F (hr.mono hk) hc hg hm kp b (fun σ _ _ _ _ _ _ h => h.elim) ha hdb he hpl).run pins s σ H Q I ?_
  have e1 : tCallS sp (fun _ => E0) t = tCall sp [] E0 t := by
    funext σ H Q
    simp only [tCallS, tCall, List.append_nil]
  rw [e1]
  exact h
theorem okH {CX : CXT} {P : Program} {w : World} {K : PySem.W.Frag} {mg : Str → Option Value} {base : Heap} {x qual : Str} {params : Arguments} {body : List Stmt} {scope : Scope} {dvs : List V} {kws : List (Str × V)} {f : Addr} {fd : FuncData} {N ps : List Str} {k : Nat} {sp : Sp}
    (F : FunD K x qual params body scope dvs kws f fd) (S : FnScope N ps scope) (len : ∀ vs H Q E, sp vs H Q E → vs.length = ps.length)
    (hbody : ∀ (cdv : Value) (A : Around) (outer : List Env) (s : Shared) (H : Hp) (vs : List V) (Q : VK) (E : XK) (p : Addr × Obj), Hot1 A p → RoomH k (A.deeper (envOfC qual scope s.heap.objs.size f cdv)) → sp vs H Q E →
      ∃ t, PSs (cxH CX P w K mg base N qual scope f cdv A outer s H E p) body t ∧ t { nx := fun _ H' => Q .non H', rt := Q } (L2.start N vs) H) : FnH P w K mg base CX (k + 1) f fd ps sp := by
  obtain ⟨oc, od, dV, kV, doc, pm, an, cdv, ct, osl, rfl, lk, hcd, _, _⟩ := F.ex
  exact fn_ofH lk hcd S len fun A outer s H vs Q E p h1 hr hsp => hbody cdv A outer s H vs Q E p h1 hr hsp
section
variable {P : Program} {w : World} {K : PySem.W.Frag} {mg : Str → Option Value} {base : Heap}
theorem okH_integer (T : Tx K mg) : CalH P w K mg base CX0 1 "_law_integer" ["_law_thing"] spInt := by
  obtain ⟨fd, F⟩ := T.f_l_integer
  refine ⟨_, fd, okH F sc_l_integer (fun vs H Q E h => ?_) (fun cdv A outer s H vs Q E p0 hot1 hr h => ?_), T.g_l_integer, F.kp, F.bindsN fun _ _ _ _ _ _ us hl => match us, hl with | [_], _ => rfl⟩
  · obtain ⟨a, rfl, _⟩ := h
    rfl
  obtain ⟨i, rfl, kk⟩ := h
  refine ⟨_, PSs.nox ((pss_one (ps_ret (pe_and (pe_callB (isiK K) (by rfl) T.b_isinstance (by decide +kernel) (pa_cons (pv 0) (pa_cons (pe_bltn (v := .ty "int") (u := .type "int") (by rfl) T.b_int (by decide +kernel) rfl) pa_nil))) (pe_one (pe_not (pe_callB (isiK K) (by rfl) T.b_isinstance (by decide +kernel) (pa_cons (pv 0) (pa_cons (pe_bltn (v := .ty "bool") (u := .type "bool") (by rfl) T.b_bool (by decide +kernel) rfl) pa_nil))))))))), ?_⟩
  exact ⟨_, rfl, _, _, _, _, true, rfl, .ty "int", .base (.int _), kII, true, rfl, _, rfl, _, _, _, _, false, rfl, .ty "bool", .base (.int _), kIB, _, rfl, kk⟩
theorem okH_spot_like (T : Tx K mg) (c_l_integer : CalH P w K mg base CX0 1 "_law_integer" ["_law_thing"] spInt) : CalH P w K mg base CX0 2 "_law_spot_like" ["_law_thing"] spSpotLike := by
  obtain ⟨fd, F⟩ := T.f_l_spot_like
  refine ⟨_, fd, okH F sc_l_spot_like (fun vs H Q E h => ?_) (fun cdv A outer s H vs Q E p0 hot1 hr h => ?_), T.g_l_spot_like, F.kp, F.bindsN fun _ _ _ _ _ _ us hl => match us, hl with | [_], _ => rfl⟩
  · obtain ⟨v, k, rfl, _⟩ := h
    rfl
  obtain ⟨v, k, rfl, ⟨p, rfl, hp, _⟩, ⟨n, i, j, rfl⟩, kk⟩ := h
  have hT : SqT K H p _ := SqT.of hp
  refine ⟨_, PSs.nox ((pss_cons (ps_if (PW.pt (pw_or (pt_not (pt_val (pe_callB (isiK K) (by rfl) T.b_isinstance (by decide +kernel) (pa_cons (pv 0) (pa_cons (pe_bltn (v := .ty "tuple") (u := .type "tuple") (by rfl) T.b_tuple (by decide +kernel) rfl) pa_nil))))) (pw_or (pt_cmpR op_ne (pe_callB (call_lenK K) (by rfl) T.b_len PySem.boot_len (pa_cons (pv 0) pa_nil)) pe_int (nomark _)) (pw_or1 (pt_not (pt_val (pe_callB (isiK K) (by rfl) T.b_isinstance (by decide +kernel) (pa_cons (pe_ix (ix_tupK K) (pv 0) pe_int (fun _ _ => rfl)) (pa_cons (pe_bltn (v := .ty "str") (u := .type "str") (by rfl) T.b_str (by decide +kernel) rfl) pa_nil))))))))) (pss_one (ps_ret pe_bl)) pss_nil)
        (pss_one (ps_ret (pe_and (pcallH c_l_integer hr (mkHot p0 hot1 (List.mem_singleton_self _)) (pa_cons (pe_ix (ix_tupK K) (pv 0) pe_int (fun _ _ => rfl)) pa_nil)) (pe_one (pcallH c_l_integer hr (mkHot p0 hot1 (List.mem_singleton_self _)) (pa_cons (pe_ix (ix_tupK K) (pv 0) pe_int (fun _ _ => rfl)) pa_nil)))))))), ?_⟩
  refine ⟨_, rfl, _, _, _, _, true, rfl, .ty "tuple", .base (.tup (hp)), kTT, true, rfl, ?_⟩
  refine ⟨_, rfl, _, 3, rfl, .inr ⟨_, hT, rfl⟩, rfl, _, rfl, ?_⟩
  refine ⟨_, rfl, p, _, _, _, rfl, rfl, hT, atI_nat (j := 0) rfl, _, _, _, _, true, rfl, .ty "str", .base (.str _), kSS, true, rfl, ?_⟩
  exact ⟨_, rfl, p, _, _, _, rfl, rfl, hT, atI_nat (j := 1) rfl, i, rfl, true, rfl, _, rfl, p, _, _, _, rfl, rfl, hT, atI_nat (j := 2) rfl, j, rfl, kk⟩
theorem okH_link_like (T : Tx K mg) (c_l_spot_like : CalH P w K mg base CX0 2 "_law_spot_like" ["_law_thing"] spSpotLike) (c_l_integer : CalH P w K mg base CX0 1 "_law_integer" ["_law_thing"] spInt) : CalH P w K mg base CX0 3 "_law_link_like" ["_law_thing"] spLinkLike := by
  obtain ⟨fd, F⟩ := T.f_l_link_like
  refine ⟨_, fd, okH F sc_l_link_like (fun vs H Q E h => ?_) (fun cdv A outer s H vs Q E p0 hot1 hr h => ?_), T.g_l_link_like, F.kp, F.bindsN fun _ _ _ _ _ _ us hl => match us, hl with | [_], _ => rfl⟩
  · obtain ⟨v, l, rfl, _⟩ := h
    rfl
  obtain ⟨v, l, rfl, ⟨p, x, y, z, rfl, hp, hx, hy, hz⟩, sa, sb, kk⟩ := h
  have hT : SqT K H p _ := SqT.of hp
  obtain ⟨q, rfl, hq, _⟩ := id hz
  refine ⟨_, PSs.nox ((pss_cons (ps_if (PW.pt (pw_or (pt_not (pt_val (pe_callB (isiK K) (by rfl) T.b_isinstance (by decide +kernel) (pa_cons (pv 0) (pa_cons (pe_bltn (v := .ty "tuple") (u := .type "tuple") (by rfl) T.b_tuple (by decide +kernel) rfl) pa_nil))))) (pw_or (pt_cmpR op_ne (pe_callB (call_lenK K) (by rfl) T.b_len PySem.boot_len (pa_cons (pv 0) pa_nil)) pe_int (nomark _)) (pw_or1 (pt_not (pt_val (pe_callB (isiK K) (by rfl) T.b_isinstance (by decide +kernel) (pa_cons (pe_ix (ix_tupK K) (pv 0) pe_int (fun _ _ => rfl)) (pa_cons (pe_bltn (v := .ty "tuple") (u := .type "tuple") (by rfl) T.b_tuple (by decide +kernel) rfl) pa_nil))))))))) (pss_one (ps_ret pe_bl)) pss_nil)
        (pss_one (ps_ret (pe_and (pcallH c_l_spot_like hr (mkHot p0 hot1 (List.mem_singleton_self _)) (pa_cons (pe_ix (ix_tupK K) (pv 0) pe_int (fun _ _ => rfl)) pa_nil)) (pe_and (pcallH c_l_spot_like hr (mkHot p0 hot1 (List.mem_singleton_self _)) (pa_cons (pe_ix (ix_tupK K) (pv 0) pe_int (fun _ _ => rfl)) pa_nil)) (pe_one (pcallH c_l_integer hr (mkHot p0 hot1 (List.mem_singleton_self _)) (pa_cons (pe_ix (ix_tupK K) (pv 0) pe_int (fun _ _ => rfl)) pa_nil))))))))), ?_⟩
  refine ⟨_, rfl, _, _, _, _, true, rfl, .ty "tuple", .base (.tup (hp)), kTT, true, rfl, ?_⟩
  refine ⟨_, rfl, _, 4, rfl, .inr ⟨_, hT, rfl⟩, rfl, _, rfl, ?_⟩
  refine ⟨_, rfl, p, _, _, _, rfl, rfl, hT, atI_nat (j := 3) rfl, _, _, _, _, true, rfl, .ty "tuple", .base (.tup (hq)), kTT, true, rfl, ?_⟩
  exact ⟨_, rfl, p, _, _, _, rfl, rfl, hT, atI_nat (j := 0) rfl, x, l.a, rfl, hx, sa, true, rfl, _, rfl, p, _, _, _, rfl, rfl, hT, atI_nat (j := 1) rfl, y, l.b, rfl, hy, sb, true, rfl, _, rfl, p, _, _, _, rfl, rfl, hT, atI_nat (j := 2) rfl, l.w, rfl, kk⟩
theorem okH_right_ring (T : Tx K mg) : CalH P w K mg base CX0 1 "_law_right_ring" ["_law_ring", "_law_links"] (spRightRing K) := by
  obtain ⟨fd, F⟩ := T.f_l_right_ring
  refine ⟨_, fd, okH F sc_l_right_ring (fun vs H Q E h => ?_) (fun cdv A outer s H vs Q E p0 hot1 hr h => ?_), T.g_l_right_ring, F.kp, F.bindsN fun _ _ _ _ _ _ us hl => match us, hl with | [_, _], _ => rfl⟩
  · obtain ⟨Br, L, ls, r, rfl, _⟩ := h
    rfl
  obtain ⟨Br, L, ls, r, rfl, hB, hL, hR, hl, kk⟩ := h
  have hu64 := hu64_ofH hr
  have hu65 := hu65_ofH hr
  refine ⟨_, PSs.nox ((pss_cons (ps_if (PW.pt (pw_or (pt_not (pt_val (pe_callB (isiK K) (by rfl) T.b_isinstance (by decide +kernel) (pa_cons (pv 0) (pa_cons (pe_bltn (v := .ty "tuple") (u := .type "tuple") (by rfl) T.b_tuple (by decide +kernel) rfl) pa_nil))))) (pw_or1 (pt_cmpR (eqDK K hu64) (pv 0) (pe_tup pa_nil) (nomark _))))) (pss_one (ps_ret pe_bl)) pss_nil)
        (pss_cons (ps_set (i := 2) sc_l_right_ring.nd rfl (Or.inl rfl) pe_int)
        (pss_cons (ps_set (i := 3) sc_l_right_ring.nd rfl (Or.inl rfl) (pe_lst pa_nil))
        (pss_cons (L2H.ps_forH PassesOwn.never (mkHot p0 hot1 (List.mem_singleton_self _)) (L2H.pi_range1H (by rfl) T.b_range (pa_cons (pe_callB (call_lenK K) (by rfl) T.b_len PySem.boot_len (pa_cons (pv 0) pa_nil)) pa_nil)) (pg_name (i := 4) sc_l_right_ring.nd rfl (Or.inl rfl))
          (pss_cons (ps_set (i := 5) sc_l_right_ring.nd rfl (Or.inl rfl) (pe_ix (ix_tupK K) (pv 0) (pv 4) (fun _ _ => rfl)))
          (pss_cons (ps_if (PW.pt (pw_or (pt_cmpR (notInDK K hu65) (pv 5) (pv 1) rfl) (pw_or (pt_cmpR (neDK K hu64) (pe_ix (ix_tupK K) (pv 5) pe_int (fun _ _ => rfl)) (pe_ix (ix_tupK K) (pe_ix (ix_tupK K) (pv 0) (pe_op op_sub (pv 4) pe_int) (fun _ _ => rfl)) pe_int (fun _ _ => rfl)) (nomark _)) (pw_or1 (pt_cmpR (inDK K hu65) (pe_ix (ix_tupK K) (pv 5) pe_int (fun _ _ => rfl)) (pv 3) rfl))))) (pss_one (ps_ret pe_bl)) pss_nil)
          (pss_cons (ps_expr (bmK K PySem.F.plainAttrs_list PySem.F.slot_list_append PySem.F.type_list_append mt_append (pv 3) (pa_cons (pe_ix (ix_tupK K) (pv 5) pe_int (fun _ _ => rfl)) pa_nil)))
          (pss_one (ps_set (i := 2) sc_l_right_ring.nd rfl (Or.inl rfl) (pe_op op_add (pv 2) (pe_ix (ix_tupK K) (pv 5) pe_int (fun _ _ => rfl)))))))))
        (pss_one (ps_ret (pe_cmpR op_lt (pv 2) pe_int (nomark _))))))))), ?_⟩
  obtain ⟨xs, eB, rB⟩ := id hB
  obtain ⟨ys, eL, rL⟩ := id hL
  have lx := pr_len rB
  have lr := hR.len
  obtain ⟨a0, cyc⟩ := hR.c
  refine ⟨_, rfl, _, _, _, _, true, rfl, .ty "tuple", .base (.tup (eB)), kTT, true, rfl, ?_⟩
  refine ⟨_, rfl, (show 0 ≤ sizeLine by decide), fun q hq => ?_⟩
  have sq := same_new (o := .tup []) hq
  refine ⟨_, _, lvs_dpT (SqT.of (sq _ _ eB)) (lvs_mono rB (same_tp sq)), .tup (SqT.of upd_same) .nil, lvs_shT rB, by decide +kernel, ?_⟩
  have hne : PyData.eqv (.tuple (r.map lD)) (.tuple []) = false := by
    cases r with
    | nil => exact absurd rfl hR.ne
    | cons l r => rfl
  rw [hne]
  refine ⟨_, rfl, ite2 (fun z => by cases z) (fun _ => ?_)⟩
  refine ⟨(show 0 ≤ sizeLine by decide), fun G hG => ?_⟩
  have sG := sq.trans (same_new (o := .lst []) hG)
  have hG0 : H G = none := sq.free hG
  refine ⟨_, rfl, _, xs.length, rfl, .inr ⟨_, SqT.of (sG _ _ eB), rfl⟩, (xs.length : Int), rfl, by omega, by omega, for_range (fun i σ H2 => ∃ (o4 o5 : Option V) (acc : List V) (t : Int), σ = [some (.ref Br), some (.ref L), some (.int t), some (.ref G), o4, o5] ∧ H2 G = some (.lst acc) ∧ TKs H2 acc ((r.take i).map (·.a)) ∧ t = lsum (r.take i) ∧ Same H H2) ?_ ?_ ?_⟩
  · exact ⟨none, none, [], 0, rfl, upd_same, .nil, rfl, sG⟩
  · rintro i σ H2 hi ⟨o4, o5, acc, t, rfl, eG, rG, ht, k2⟩
    have hi : i < xs.length := by omega
    obtain ⟨l, hl', lv⟩ := pr_get rB (List.getElem?_eq_getElem hi)
    have lv2 := lv.mono (same_tp k2)
    obtain ⟨p, x, y, z, ep', eq, hx, hy, hz⟩ := id lv2
    have B2 : SqT K H2 Br xs := SqT.of (k2 _ _ eB)
    have P2 : SqT K H2 p _ := SqT.of eq
    have mem : l ∈ ls := hR.m l (List.mem_of_getElem? hl')
    refine ⟨_, rfl, _, rfl, Br, xs, _, _, rfl, rfl, B2, at_of (j := i) (by omega) (List.getElem?_eq_getElem hi), ?_⟩
    -- not in
    have rL2 := lvs_mono rL (same_tp k2)
    refine ⟨_, rfl, _, rfl, _, _, lv2.dp, lvs_dp (SqL.of (k2 _ _ eL)) rL2, lv2.sh, lvs_sh rL2, ?_⟩
    rw [in_lD.mpr mem]
    refine ⟨_, rfl, ite2 (fun z => by cases z) (fun _ => ?_)⟩
    -- the link before
    have hpv : ∃ (j : Nat) (m : Lk), (∃ k : Int, k = 0 + (i : Int) - 1 ∧ atI xs k = xs[j]?) ∧ r[j]? = some m ∧ m.b = l.a := by
      by_cases h0 : i = 0
      · subst h0
        have hlt : r.length - 1 < r.length := by omega
        refine ⟨r.length - 1, r[r.length - 1], ⟨_, rfl, ?_⟩, List.getElem?_eq_getElem hlt, ?_⟩
        · have e : (0 : Int) + ((0 : Nat) : Int) - 1 = -1 := by omega
          rw [e]
          have hx1 : xs.length - 1 < xs.length := by omega
          rw [← lx]
          unfold atI ixN
          rw [if_neg (by omega), if_pos (by omega)]
          have e2 : ((-1 : Int) + (xs.length : Int)).toNat = xs.length - 1 := by omega
          first
            | rw [e2]; rfl
            | simp [e2]
        · rw [lk_last cyc (List.getElem?_eq_getElem hlt), lk_first cyc hl']
      · have hlt : i - 1 < r.length := by omega
        refine ⟨i - 1, r[i - 1], ⟨_, rfl, ?_⟩, List.getElem?_eq_getElem hlt, ?_⟩
        · have hx1 : i - 1 < xs.length := by omega
          rw [at_of (j := i - 1) (by omega) (List.getElem?_eq_getElem hx1), List.getElem?_eq_getElem hx1]
        · have e : i - 1 + 1 = i := by omega
          exact (lk_next (i - 1) cyc (List.getElem?_eq_getElem hlt) (by rw [e]; exact hl')).symm
    obtain ⟨j, m, ⟨kx, hkx, hat⟩, hm, hmb⟩ := hpv
    obtain ⟨v, hv, mv⟩ := pr_get2 rB hm
    obtain ⟨p2, x2, y2, z2, rfl, eq2, hx2, hy2, hz2⟩ := mv.mono (same_tp k2)
    rw [hv] at hat
    subst hkx
    rw [ep']
    refine ⟨_, rfl, p, _, _, _, rfl, rfl, P2, atI_nat (j := 0) rfl, _, rfl, _, rfl, _, _, rfl, rfl, Br, xs, _, _, rfl, rfl, B2, hat, p2, _, _, _, rfl, rfl, SqT.of eq2, atI_nat (j := 1) rfl, ?_⟩
    refine ⟨_, _, hx.dp, hy2.dp, hx.sh, hy2.sh, ?_⟩
    rw [kD_eqv, hmb, decide_eq_true rfl]
    refine ⟨_, rfl, ite2 (fun z => by cases z) (fun _ => ?_)⟩
    -- not begun yet
    have nb : l.a ∉ (r.take i).map (·.a) := fun hmem => by
      obtain ⟨c, hc⟩ := List.mem_iff_getElem?.mp hmem
      rw [List.map_take, List.getElem?_take] at hc
      split at hc
      · rename_i hlt
        have := nd_ix hR.nd hc (show (r.map (·.a))[i]? = some l.a by rw [List.getElem?_map, hl']; rfl)
        omega
      · cases hc
    have lacc : acc.length ≤ 1000 := by
      have := pr_len rG
      rw [List.length_map, List.length_take] at this
      omega
    refine ⟨_, rfl, p, _, _, _, rfl, rfl, P2, atI_nat (j := 0) rfl, _, rfl, _, _, hx.dp, tks_dp (SqL.of eG) rG, hx.sh, tks_sh rG, ?_⟩
    have nany : (((r.take i).map (·.a)).map kD).any (fun z => PyData.eqv z (kD l.a)) = false := by
      rw [Bool.eq_false_iff]
      exact fun h => nb (in_kD.mp h)
    rw [nany]
    refine ⟨_, rfl, ite2 (fun z => by cases z) (fun _ => ?_)⟩
    have tpG : TP H2 (upd H2 G (.lst (acc ++ [x]))) := put_tp eG fun _ z => by cases z
    refine ⟨_, rfl, .inl ⟨rfl, _, SqL.of eG⟩, _, rfl, p, _, _, _, rfl, rfl, P2, atI_nat (j := 0) rfl, G, acc, x, rfl, rfl, eG, small1000 (by omega), ?_⟩
    refine ⟨_, rfl, _, rfl, p, _, _, .int l.w, rfl, rfl, SqT.of (tpG _ _ eq), atI_nat (j := 2) rfl, _, _, rfl, rfl, _, _, _, _, rfl, upd_same, ?_, ?_, ?_⟩
    · rw [take_snoc hl', List.map_append]
      exact pr_snoc (tks_mono rG tpG) (hx.mono tpG)
    · rw [take_snoc hl', lsum_snoc, ht]
    · exact fun c o e => by
        rw [upd_ne (ne_of_none e hG0)]
        exact k2 _ _ e
  · rintro σ H2 ⟨o4, o5, acc, t, rfl, eG, rG, ht, k2⟩
    have en : ((xs.length : Nat) : Int).toNat = r.length := by omega
    rw [en, List.take_length] at ht
    subst ht
    have := kk H2 k2
    refine ⟨_, rfl, _, _, rfl, rfl, ?_⟩
    show Q (.bl (decide (lsum r < 0))) H2
    rw [decide_eq_true hR.neg]
    exact this
theorem okH_ring_holds (T : Tx K mg) (c_l_link_like : CalH P w K mg base CX0 3 "_law_link_like" ["_law_thing"] spLinkLike) (c_l_right_ring : CalH P w K mg base CX0 1 "_law_right_ring" ["_law_ring", "_law_links"] (spRightRing K)) : CalH P w K mg base CX0 4 "_law_ring_holds" ["_law_links", "_law_told"] (spRingHolds K) := by
  obtain ⟨fd, F⟩ := T.f_l_ring_holds
  refine ⟨_, fd, okH F sc_l_ring_holds (fun vs H Q E h => ?_) (fun cdv A outer s H vs Q E p0 hot1 hr h => ?_), T.g_l_ring_holds, F.kp, F.bindsN fun _ _ _ _ _ _ us hl => match us, hl with | [_, _], _ => rfl⟩
  · obtain ⟨L, Br, ls, r, rfl, _⟩ := h
    rfl
  obtain ⟨L, Br, ls, r, rfl, hB, hL, hR, hl, hsp, kk⟩ := h
  have hu64 := hu64_ofH hr
  refine ⟨_, PSs.nox ((pss_cons (ps_if (PW.pt (pw_or (pt_not (pt_val (pe_callB (isiK K) (by rfl) T.b_isinstance (by decide +kernel) (pa_cons (pv 1) (pa_cons (pe_bltn (v := .ty "tuple") (u := .type "tuple") (by rfl) T.b_tuple (by decide +kernel) rfl) pa_nil))))) (pw_or1 (pt_cmpR (eqDK K hu64) (pv 1) (pe_tup pa_nil) (nomark _))))) (pss_one (ps_ret pe_bl)) pss_nil)
        (pss_cons (L2H.ps_forH PassesOwn.never (mkHot p0 hot1 (List.mem_singleton_self _)) (pi_tupH K (pv 1)) (pg_name (i := 2) sc_l_ring_holds.nd rfl (Or.inl rfl))
          (pss_one (ps_if (pt_not (pt_val (pcallH c_l_link_like hr (mkHot p0 hot1 (List.mem_singleton_self _)) (pa_cons (pv 2) pa_nil)))) (pss_one (ps_ret pe_bl)) pss_nil)))
        (pss_one (ps_ret (pcallH c_l_right_ring hr (mkHot p0 hot1 (List.mem_singleton_self _)) (pa_cons (pv 1) (pa_cons (pv 0) pa_nil)))))))), ?_⟩
  obtain ⟨xs, eB, rB⟩ := id hB
  refine ⟨_, rfl, _, _, _, _, true, rfl, .ty "tuple", .base (.tup (eB)), kTT, true, rfl, ?_⟩
  refine ⟨_, rfl, (show 0 ≤ sizeLine by decide), fun q hq => ?_⟩
  have sq := same_new (o := .tup []) hq
  refine ⟨_, _, lvs_dpT (SqT.of (sq _ _ eB)) (lvs_mono rB (same_tp sq)), .tup (SqT.of upd_same) .nil, lvs_shT rB, by decide +kernel, ?_⟩
  have hne : PyData.eqv (.tuple (r.map lD)) (.tuple []) = false := by
    cases r with
    | nil => exact absurd rfl hR.ne
    | cons l r => rfl
  rw [hne]
  refine ⟨_, rfl, ite2 (fun z => by cases z) (fun _ => ?_)⟩
  refine ⟨_, rfl, Br, rfl, ⟨_, SqT.of (sq _ _ eB)⟩, for_tup (K := K) (a := Br) (xs := xs) (fun i σ H2 => Same H H2 ∧ ∃ o2, σ = [some (.ref L), some (.ref Br), o2]) ⟨sq, _, rfl⟩ (fun i σ H2 _ h => SqT.of (h.1 _ _ eB)) ?_ ?_⟩
  · rintro i x σ H2 hi ⟨k2, o2, rfl⟩
    obtain ⟨l, hl', lv⟩ := pr_get rB hi
    obtain ⟨sa, sb⟩ := hsp l (hR.m l (List.mem_of_getElem? hl'))
    exact ⟨_, rfl, x, l, rfl, lv.mono (same_tp k2), sa, sb, true, rfl, k2, _, rfl⟩
  · rintro σ H2 ⟨k2, o2, rfl⟩
    exact ⟨_, rfl, _, rfl, Br, L, ls, r, rfl, hB.mono (same_tp k2), hL.same k2, hR, hl, fun H3 s3 => kk H3 (k2.trans s3)⟩
end
end
end Ell
set_option maxHeartbeats 4000000
namespace Ell
open PySem PySem.Spec PyProof.Rows L2
/-! ### what is asked of a web without worlds -/
def spAsked (K : PySem.W.Frag) : Sp := fun vs H _ E => ∃ (W F : Addr) (ks : List (List Key)) (ls : List Lk) (as : List Arc) (st : WState) (way : Int) (va vb lv : V), vs = [.ref W, .int way, va, vb, lv] ∧ WebAt K H W F ks ls as st ∧ 0 ≤ way ∧ way ≤ 6 ∧
  (way ≤ 3 → ∃ (ka kb : List Key) (p : Addr) (n : Int) (z : V), lv = .ref p ∧ H p = some (.tup [va, vb, .int n, z]) ∧ TK H va ka ∧ TK H vb kb ∧ IsSp ka ∧ IsSp kb ∧ (ka ∈ ks → kb ∈ ks → NoPot as) ∧ TwoE K E H W F ks ls as va vb ka kb) ∧
  (4 ≤ way → NoPot as ∧ ClashE K E H W F ks ls as)
section
variable {P : Program} {w : World} {K : PySem.W.Frag} {mg : Str → Option Value} {base : Heap}
theorem ok_asked (T : Tx K mg) (c_Web_bound : CalM P w K mg base (L2N.CX P w) 5 (cWeb K) "bound" ["self", "a", "b"] [] (spBound K)) (c_Web_chain : CalM P w K mg base (L2N.CX P w) 6 (cWeb K) "chain" ["self", "a", "b"] [] (spChain K)) (c_Web_reaching : CalM P w K mg base (L2N.CX P w) 7 (cWeb K) "reaching" ["self", "a", "b"] [] (spReach K)) (c_follows : Cal P w K mg base (L2N.CX P w) 6 "follows" ["web", "link"] [] (spFollows K)) (c_Web_highest : CalM P w K mg base (L2N.CX P w) 7 (cWeb K) "highest" ["self"] [] (spHigh K)) (c_Web_lowest : CalM P w K mg base (L2N.CX P w) 6 (cWeb K) "lowest" ["self"] [] (spLow K)) (c_slim : Cal P w K mg base (L2N.CX P w) 4 "slim" ["web"] [] (spSlim K)) : Cal P w K mg base (L2N.CX P w) 8 "_law_asked" ["_law_web", "_law_way", "_law_a", "_law_b", "_law_link"] [] (spAsked K) := by
  obtain ⟨fd, F⟩ := T.f_l_asked
  refine ⟨_, fd, [], F.ok sc_l_asked (fun vs H Q E h => ?_) (fun cdv A outer s H vs Q E hr h => ?_), T.g_l_asked, F.kp, F.bindsN fun _ _ _ _ _ _ us hl => match us, hl with | [_, _, _, _, _], _ => rfl, .nil⟩
  · obtain ⟨W, F, ks, ls, as, st, way, va, vb, lv, rfl, _⟩ := h
    rfl
  obtain ⟨W, F, ks, ls, as, st, way, va, vb, lv, rfl, hW, w0, w6, h3, h4⟩ := h
  refine ⟨_, ((pss_cons (ps_if (pt_cmpR op_eq (pv 1) pe_int (nomark _)) (pss_one (ps_ret (pmethE c_Web_bound hr (L2N.passes_call (L2N.takes_of rfl rfl rfl rfl) (fun _ _ _ _ h => h)) (pv 0) (pa_cons (pv 2) (pa_cons (pv 3) pa_nil))))) pss_nil)
        (pss_cons (ps_if (pt_cmpR op_eq (pv 1) pe_int (nomark _)) (pss_one (ps_ret (pmethE c_Web_chain hr (L2N.passes_call (L2N.takes_of rfl rfl rfl rfl) (fun _ _ _ _ h => h)) (pv 0) (pa_cons (pv 2) (pa_cons (pv 3) pa_nil))))) pss_nil)
        (pss_cons (ps_if (pt_cmpR op_eq (pv 1) pe_int (nomark _)) (pss_one (ps_ret (pmethE c_Web_reaching hr (L2N.passes_call (L2N.takes_of rfl rfl rfl rfl) (fun _ _ _ _ h => h)) (pv 0) (pa_cons (pv 2) (pa_cons (pv 3) pa_nil))))) pss_nil)
        (pss_cons (ps_if (pt_cmpR op_eq (pv 1) pe_int (nomark _)) (pss_one (ps_ret (pcallE c_follows hr (L2N.passes_call (L2N.takes_of rfl rfl rfl rfl) (fun _ _ _ _ h => h)) (pa_cons (pv 0) (pa_cons (pv 4) pa_nil))))) pss_nil)
        (pss_cons (ps_if (pt_cmpR op_eq (pv 1) pe_int (nomark _)) (pss_one (ps_ret (pmeth0E c_Web_highest hr (L2N.passes_call (L2N.takes_of rfl rfl rfl rfl) (fun _ _ _ _ h => h)) (pv 0)))) pss_nil)
        (pss_cons (ps_if (pt_cmpR op_eq (pv 1) pe_int (nomark _)) (pss_one (ps_ret (pmeth0E c_Web_lowest hr (L2N.passes_call (L2N.takes_of rfl rfl rfl rfl) (fun _ _ _ _ h => h)) (pv 0)))) pss_nil)
        (pss_one (ps_ret (pcallE c_slim hr (L2N.passes_call (L2N.takes_of rfl rfl rfl rfl) (fun _ _ _ _ h => h)) (pa_cons (pv 0) pa_nil))))))))))), ?_⟩
  have nodup := hW.sp.nd
  refine ⟨_, rfl, rfl, _, rfl, ite2 (fun hw => ?_) (fun hw0 => ?_)⟩
  · have hw : V.int way = V.int 0 := of_decide_eq_true hw
    injection hw with hw
    obtain ⟨ka, kb, p, n, z, rfl, ep, ha, hb, sa, sb, np, e2⟩ := h3 (by omega)
    obtain ⟨dx1, fs1, eW1, lk1⟩ := hW.meth "bound" (by decide)
    refine ⟨_, rfl, W, _, _, rfl, eW1, lk1, _, rfl, _, rfl, W, F, ks, ls, as, st, va, vb, ka, kb, rfl, hW, ha, hb, sa, sb, fun i j H1 d hi hj k1 w1 dd => ?_, e2⟩
    obtain ⟨q, hq⟩ := w1.pot
    exact absurd hq (np (List.mem_of_getElem? hi) (List.mem_of_getElem? hj) q)
  refine ⟨_, rfl, rfl, _, rfl, ite2 (fun hw => ?_) (fun hw1 => ?_)⟩
  · have hw : V.int way = V.int 1 := of_decide_eq_true hw
    injection hw with hw
    obtain ⟨ka, kb, p, n, z, rfl, ep, ha, hb, sa, sb, np, e2⟩ := h3 (by omega)
    obtain ⟨dx1, fs1, eW1, lk1⟩ := hW.meth "chain" (by decide)
    exact ⟨_, rfl, W, _, _, rfl, eW1, lk1, _, rfl, _, rfl, W, F, ks, ls, as, st, va, vb, ka, kb, rfl, hW, ha, hb, sa, sb, np, e2⟩
  refine ⟨_, rfl, rfl, _, rfl, ite2 (fun hw => ?_) (fun hw2 => ?_)⟩
  · have hw : V.int way = V.int 2 := of_decide_eq_true hw
    injection hw with hw
    obtain ⟨ka, kb, p, n, z, rfl, ep, ha, hb, sa, sb, np, e2⟩ := h3 (by omega)
    obtain ⟨dx1, fs1, eW1, lk1⟩ := hW.meth "reaching" (by decide)
    refine ⟨_, rfl, W, _, _, rfl, eW1, lk1, _, rfl, _, rfl, W, F, ks, ls, as, st, va, vb, ka, kb, rfl, hW, ha, hb, sa, sb, fun i j H1 O d hi hj k1 w1 dd wo => ?_, e2⟩
    obtain ⟨q, hq⟩ := w1.pot
    exact absurd hq (np (List.mem_of_getElem? hi) (List.mem_of_getElem? hj) q)
  refine ⟨_, rfl, rfl, _, rfl, ite2 (fun hw => ?_) (fun hw3 => ?_)⟩
  · have hw : V.int way = V.int 3 := of_decide_eq_true hw
    injection hw with hw
    obtain ⟨ka, kb, p, n, z, rfl, ep, ha, hb, sa, sb, np, e2⟩ := h3 (by omega)
    exact ⟨_, rfl, _, rfl, W, F, p, ks, ls, as, st, va, vb, z, n, ka, kb, rfl, hW, ep, ha, hb, sa, sb, np, e2⟩
  have ne : ∀ j : Int, ¬ decide (V.int way = V.int j) = true → way ≠ j := fun j h e => h (decide_eq_true (by rw [e]))
  have n0 := ne 0 hw0
  have n1 := ne 1 hw1
  have n2 := ne 2 hw2
  have n3 := ne 3 hw3
  obtain ⟨np, e2⟩ := h4 (by omega)
  refine ⟨_, rfl, rfl, _, rfl, ite2 (fun hw => ?_) (fun hw4 => ?_)⟩
  · obtain ⟨dx1, fs1, eW1, lk1⟩ := hW.meth "highest" (by decide)
    refine ⟨_, rfl, W, _, _, rfl, eW1, lk1, W, F, ks, ls, as, st, rfl, hW, fun H1 O d k1 w1 dd wo => ?_, e2⟩
    obtain ⟨q, hq⟩ := w1.pot
    exact absurd hq (np q)
  refine ⟨_, rfl, rfl, _, rfl, ite2 (fun hw => ?_) (fun hw5 => ?_)⟩
  · obtain ⟨dx1, fs1, eW1, lk1⟩ := hW.meth "lowest" (by decide)
    refine ⟨_, rfl, W, _, _, rfl, eW1, lk1, W, F, ks, ls, as, st, rfl, hW, fun H1 O d k1 w1 dd wo => ?_, e2⟩
    obtain ⟨q, hq⟩ := w1.pot
    exact absurd hq (np q)
  exact ⟨_, rfl, W, F, ks, ls, as, st, rfl, hW, np, e2⟩
end
end Ell
set_option maxHeartbeats 4000000
namespace Ell
open PySem PySem.Spec PyProof.Rows L2
/-! ### try: .. except EllError as e -/
theorem takesN0 {X : Cx} : L2N.Takes X (fun _ _ _ _ => False) := fun _ _ x => by
  obtain ⟨_, _, _, _, _, _, _, _, _, _, _, _, _, _, _, _, z⟩ := x
  exact z.elim
structure Iy (K : PySem.W.Frag) : Prop where
  em_cl : PySem.W.exmOne K (.ref (cClash K)) (.ref (He.ga K "EllError")) = some true
  em_ns : PySem.W.exmOne K (.ref (cNoSpot K)) (.ref (He.ga K "EllError")) = some true
  ha_cl : PySem.W.findIn K (.ref (cClash K)) "__class__" = some (some (.builtin "object.__class__"))
  ha_ns : PySem.W.findIn K (.ref (cNoSpot K)) "__class__" = some (some (.builtin "object.__class__"))
  hm_cl : PySem.W.mroIn K (cClash K) (.type "object") = some true
  hm_ns : PySem.W.mroIn K (cNoSpot K) (.type "object") = some true
  i1 : PySem.W.kitOne K (.ref (cClash K)) (.ref (cClash K)) = some true
  i2 : PySem.W.kitOne K (.ref (cClash K)) (.ref (cNoSpot K)) = some false
  i3 : PySem.W.kitOne K (.ref (cClash K)) (.type "ValueError") = some true
  j1 : PySem.W.kitOne K (.ref (cNoSpot K)) (.ref (cNoSpot K)) = some true
  j2 : PySem.W.kitOne K (.ref (cNoSpot K)) (.ref (cClash K)) = some false
  j3 : PySem.W.kitOne K (.ref (cNoSpot K)) (.type "ValueError") = some true
def rIsD (K : PySem.W.Frag) (a : Addr) (cls : Value) (d : Option Addr) : List V → Hp → VK → Prop := fun xs H Q => ∃ (c : V) (cv : Value) (b : Bool) (D dd : Addr) (fs : List (Str × V)), xs = [.ref a, c] ∧ cls = .ref D ∧ d = some dd ∧ H dd = some (.xd fs) ∧ ExcC K D ∧ (∀ u, RelV c u → u = cv) ∧ PySem.W.kitOne K (.ref D) cv = some b ∧ Q (.bl b) H
section
variable {X : Cx}
theorem call_isD {a : Addr} {cls : Value} {d : Option Addr} {oe : Obj} {pn : List (Addr × Obj)} (K : PySem.W.Frag) (hz : Zc cls d oe) (hf : ∃ vs, oe.data = .fields vs) (hK : X.K = K := by rfl) : CallR (X.suite a ((a, oe) :: pn)) (.builtin "isinstance") (rIsD K a cls d) := by
  subst hK
  intro pins s σ H xs us Q I r h
  obtain ⟨c, cv, b, D, dd, fs, rfl, rfl, rfl, ed, C, hcv, e, q⟩ := h
  cases r with
  | cons rx rr =>
    cases rr with
    | cons rt rr =>
      cases rr
      cases rx
      have ec := hcv _ rt
      subst ec
      obtain ⟨hget, _⟩ := I.pin (a, oe) (List.mem_append.mpr (.inl List.mem_cons_self))
      obtain ⟨vs, hv⟩ := hf
      obtain ⟨mA, hns, _⟩ := (show ObjOk X.prog X.w H s.heap dd (.xd fs) from I.hok dd _ ed)
      obtain ⟨od, ho, _⟩ := lookIn_ns hns
      have J : PySem.W.InstAt s.heap a oe D (some od) := ⟨hget, hz.1, by unfold PySem.W.notCls; rw [hv] <;> rfl, by rw [hz.2]; exact ho⟩
      obtain ⟨cdD, hcD, _⟩ := PySem.W.any_some C.hd
      have hcl : (PySem.W.clsIn X.K D).isSome = true := by rw [hcD]; rfl
      exact PySem.W.kia_one (PySem.W.kitx_exc hcl C.hg C.hk C.hs C.ha C.hn C.ht C.hm) I.kIn J e (fun z => nomatch z) fun tk => ⟨.bl b, H, I.kept (t' := tk) fun _ _ z => z, rfl, q⟩
theorem pcallS {X : Cx} {k n : Nat} {x : Str} {ps : List Str} {sp : Sp} {W : WX} {p pos : Pos} {e : Expr} {es : List Expr} {t : TA} (c : Cal X.prog X.w X.K X.mg X.base (L2N.CX X.prog X.w) k x ps [] sp) (hr : Room n X.A) (tk : L2N.Takes X W) (ha : PA X (e :: es) t) (hk : k ≤ n := by decide) (hg : Gl X x := by rfl)
    (hdb : (x == ("__debug__" : Str)) = false := by decide) (he : starEach (e :: es) X.env = (false, eval e X.env) :: starEach es X.env := by rfl) (hpl : (backTo pos (starEach es X.env)).any (·.1) = false := by rfl) :
    PE X (.Call (.Name x p) (e :: es) [] pos) (tCallS sp (WE W) t) := by
  obtain ⟨f, fd, ds, F, hm, kp, b, hd⟩ := c
  cases hd
  exact pe_callS F (hr.mono hk) hg hm kp b (fun σ => L2N.passAt tk σ) ha hdb he hpl
theorem suiteHot {a : Addr} {cls : Value} {d : Option Addr} {oe : Obj} {pn : List (Addr × Obj)} (hz : L2N.Zn cls d oe) (hf : ∃ vs, oe.data = .fields vs) : L2H.HotC (X.suite a ((a, oe) :: pn)) := by
  obtain ⟨vs, hv⟩ := hf
  exact ⟨(a, oe), ⟨rfl, vs, hv, hz.2.2 vs hv⟩, List.mem_cons_self⟩
theorem suiteRoom {a : Addr} {k : Nat} {pn : List (Addr × Obj)} (hr : Room k X.A) : L2H.RoomH k (X.suite a pn).A := ⟨hr.dp, hr.un⟩
end
def spClashes (K : PySem.W.Frag) : Sp := fun vs H Q _ => ∃ (W F L : Addr) (ks : List (List Key)) (ls : List Lk) (as : List Arc) (st : WState) (way : Int) (va vb lv : V), vs = [.ref W, .ref L, .int way, va, vb, lv] ∧ WebAt K H W F ks ls as st ∧ LinksAt H L ls ∧ 0 ≤ way ∧ way ≤ 6 ∧ NoPot as ∧
  (way ≤ 3 → ∃ (ka kb : List Key) (p : Addr) (n : Int) (z : V), lv = .ref p ∧ H p = some (.tup [va, vb, .int n, z]) ∧ TK H va ka ∧ TK H vb kb ∧ ka ∈ ks ∧ kb ∈ ks) ∧
  ∀ H', FWb W F H H' → WebAt K H' W F ks ls as .broken → Q (.bl true) H'
def spLacks (K : PySem.W.Frag) : Sp := fun vs H Q _ => ∃ (W F : Addr) (ks : List (List Key)) (ls : List Lk) (as : List Arc) (st : WState) (way : Int) (va vb vx : V) (ka kb : List Key), vs = [.ref W, .int way, va, vb, vx] ∧ WebAt K H W F ks ls as st ∧ 0 ≤ way ∧ way ≤ 3 ∧ TK H va ka ∧ TK H vb kb ∧ IsSp ka ∧ IsSp kb ∧
  ((ka ∉ ks ∧ vx = va) ∨ (ka ∈ ks ∧ kb ∉ ks ∧ vx = vb)) ∧ ∀ H', Same H H' → Q (.bl true) H'
section
variable {P : Program} {w : World} {K : PySem.W.Frag} {mg : Str → Option Value} {base : Heap}
theorem ok_clashes (T : Tx K mg) (TE : Exs P K mg) (IX : Ix K) (IY : Iy K) (c_l_asked : Cal P w K mg base (L2N.CX P w) 8 "_law_asked" ["_law_web", "_law_way", "_law_a", "_law_b", "_law_link"] [] (spAsked K)) (c_l_ring_holds : CalH P w K mg base CX0 4 "_law_ring_holds" ["_law_links", "_law_told"] (spRingHolds K)) : Cal P w K mg base CX0 9 "_law_clashes_well" ["_law_web", "_law_links", "_law_way", "_law_a", "_law_b", "_law_link"] [] (spClashes K) := by
  obtain ⟨fd, F⟩ := T.f_l_clashes_well
  refine ⟨_, fd, [], F.ok sc_l_clashes_well (fun vs H Q E h => ?_) (fun cdv A outer s H vs Q E hr h => ?_), T.g_l_clashes_well, F.kp, F.bindsN fun _ _ _ _ _ _ us hl => match us, hl with | [_, _, _, _, _, _], _ => rfl, .nil⟩
  · obtain ⟨W, F, L, ks, ls, as, st, way, va, vb, lv, rfl, _⟩ := h
    rfl
  obtain ⟨W, F, L, ks, ls, as, st, way, va, vb, lv, rfl, hW, hL, w0, w6, np, h3, kk⟩ := h
  refine ⟨_, (pss_cons (ps_set (i := 6) sc_l_clashes_well.nd rfl (Or.inl rfl) (pe_lst pa_nil))
      (pss_cons (L2N.ps_try_as (i := 7) (Wout := fun _ _ _ _ => False) rfl rfl sc_l_clashes_well.nd rfl rfl ⟨rfl, by decide, Or.inl T.g_EllError⟩ takesN0
        (fun W pn xe tk _ => pss_one (ps_expr (bmK K PySem.F.plainAttrs_list PySem.F.slot_list_append PySem.F.type_list_append mt_append (pv 6) (pa_cons (pcallS c_l_asked hr tk (pa_cons (pv 0) (pa_cons (pv 2) (pa_cons (pv 3) (pa_cons (pv 4) (pa_cons (pv 5) pa_nil)))))) pa_nil))))
        (fun a oe cls d pn hz hf => pss_cons (ps_if (PW.pt (pw_or (pt_not (pt_val (pe_callB (call_isD K hz.zc hf) (by rfl) T.b_isinstance (by decide +kernel) (pa_cons (pv 7) (pa_cons (pe_glob (v := .ref (cClash K)) rfl TE.cl.gC rfl) pa_nil)))))
            (pw_or (pt_val (pe_callB (call_isD K hz.zc hf) (by rfl) T.b_isinstance (by decide +kernel) (pa_cons (pv 7) (pa_cons (pe_glob (v := .ref (cNoSpot K)) rfl TE.ns.gC rfl) pa_nil))))
            (pw_or1 (pt_not (pt_val (pe_callB (call_isD K hz.zc hf) (by rfl) T.b_isinstance (by decide +kernel) (pa_cons (pv 7) (pa_cons (pe_bltn (v := .ty "ValueError") (u := .type "ValueError") (by rfl) T.b_ValueError (by decide +kernel) rfl) pa_nil))))))))) (pss_one (ps_ret pe_bl)) pss_nil)
          (pss_one (ps_ret (pcallH c_l_ring_holds (suiteRoom hr) (suiteHot hz hf) (pa_cons (pv 1) (pa_cons (pe_xf (C := cClash K) ⟨TE.cl.ga, TE.cl.gg, TE.cl.exC, TE.cl.hdC⟩ TE.cl.noN hz.zc hf (pv 7)) pa_nil)))))))
      (pss_one (ps_ret pe_bl)))), ?_⟩
  have exC : ExcC K (cClash K) := ⟨TE.cl.ga, TE.cl.gg, TE.cl.exC, TE.cl.hdC, IY.ha_cl, IX.hn, IX.htk, IY.hm_cl⟩
  refine ⟨(show 0 ≤ sizeLine by decide), fun G hG => ?_⟩
  have sG := same_new (o := .lst []) hG
  have wG := hW.same sG
  have hs := hW.sp
  have wf := hW.wf
  have caught : ClashE K (WE (wAs K (.ref (He.ga K "EllError")) 7 (fun a cls d => tSeq (tIfS (tOr (tNot (tB (tCB (rIsD K a cls d) (tCons (tVar 7) (tCons (tC (.ref (cClash K))) tNil))))) (tOr (tB (tCB (rIsD K a cls d) (tCons (tVar 7) (tCons (tC (.ref (cNoSpot K))) tNil)))) (tNot (tB (tCB (rIsD K a cls d) (tCons (tVar 7) (tCons (tC (.ty "ValueError")) tNil))))))) (tRet (tC (.bl false))) tNext)
      (tRet (tCall (spRingHolds K) [] E0 (tCons (tVar 1) (tCons (tXf a cls d (cClash K) "ring" (tVar 7)) tNil))))) (fun _ _ _ _ => False)
      { nx := fun _ H' => Q (.bl false) H', rt := Q }) [some (.ref W), some (.ref L), some (.int way), some va, some vb, some lv, some (.ref G), none]) (upd H G (.lst [])) W F ks ls as := by
    intro H1 Br d r k1 w1 hB hR hd
    have sd := same_new (o := .xd [("ring", .ref Br)]) hd
    refine ⟨true, IY.em_cl, fun _ a ha => ?_, fun z => by cases z⟩
    have xd : (upd H1 d (.xd [("ring", .ref Br)])) d = some (.xd [("ring", .ref Br)]) := upd_same
    refine ⟨_, rfl, _, _, true, _, d, _, rfl, rfl, rfl, xd, exC, (fun u r => r), IY.i1, true, rfl, ?_⟩
    refine ⟨_, rfl, _, _, false, _, d, _, rfl, rfl, rfl, xd, exC, (fun u r => r), IY.i2, false, rfl, ?_⟩
    refine ⟨_, rfl, _, _, true, _, d, _, rfl, rfl, rfl, xd, exC, (fun u r => r), IY.i3, true, rfl, ?_⟩
    have kG : FWb W F H (upd H1 d (.xd [("ring", .ref Br)])) := ((Pres.same sG).trans k1).trans (Pres.same sd)
    refine ⟨_, rfl, _, rfl, rfl, rfl, d, _, .ref Br, rfl, xd, by kernel_rfl, L, Br, ls, r, rfl, hB.mono (same_tp sd), hW.links kG hL, hR, by have := hW.nl; omega, fun l hl => ⟨hs.sp _ (wf.a l hl), hs.sp _ (wf.b l hl)⟩, fun H3 s3 => kk H3 (kG.trans (Pres.same s3)) ((w1.same sd).same s3)⟩
  refine ⟨_, rfl, .inl ⟨rfl, _, SqL.of upd_same⟩, _, rfl, _, rfl, _, rfl, _, rfl, _, rfl, W, F, ks, ls, as, st, way, va, vb, lv, rfl, wG, w0, w6, fun hw => ?_, fun _ => ⟨np, caught⟩⟩
  obtain ⟨ka, kb, p, n, z, rfl, ep, ha, hb, ma, mb⟩ := h3 hw
  exact ⟨ka, kb, p, n, z, rfl, sG _ _ ep, ha.mono (same_tp sG), hb.mono (same_tp sG), hs.sp ka ma, hs.sp kb mb, fun _ _ => np, fun z => absurd ma z, fun _ z => absurd mb z, fun _ _ => caught⟩
theorem ok_lacks (T : Tx K mg) (TE : Exs P K mg) (IX : Ix K) (IY : Iy K) (c_l_asked : Cal P w K mg base (L2N.CX P w) 8 "_law_asked" ["_law_web", "_law_way", "_law_a", "_law_b", "_law_link"] [] (spAsked K)) : Cal P w K mg base CX0 9 "_law_lacks_well" ["_law_web", "_law_way", "_law_a", "_law_b", "_law_strange"] [] (spLacks K) := by
  obtain ⟨fd, F⟩ := T.f_l_lacks_well
  refine ⟨_, fd, [], F.ok sc_l_lacks_well (fun vs H Q E h => ?_) (fun cdv A outer s H vs Q E hr h => ?_), T.g_l_lacks_well, F.kp, F.bindsN fun _ _ _ _ _ _ us hl => match us, hl with | [_, _, _, _, _], _ => rfl, .nil⟩
  · obtain ⟨W, F, ks, ls, as, st, way, va, vb, vx, ka, kb, rfl, _⟩ := h
    rfl
  obtain ⟨W, F, ks, ls, as, st, way, va, vb, vx, ka, kb, rfl, hW, w0, w3, ha, hb, sa, sb, hx, kk⟩ := h
  have hu64 := hu64_of hr
  refine ⟨_, (pss_cons (ps_set (i := 5) sc_l_lacks_well.nd rfl (Or.inl rfl) (pe_lst pa_nil))
      (pss_cons (L2N.ps_try_as (i := 6) (Wout := fun _ _ _ _ => False) rfl rfl sc_l_lacks_well.nd rfl rfl ⟨rfl, by decide, Or.inl T.g_EllError⟩ takesN0
        (fun W pn xe tk _ => pss_one (ps_expr (bmK K PySem.F.plainAttrs_list PySem.F.slot_list_append PySem.F.type_list_append mt_append (pv 5) (pa_cons (pcallS c_l_asked hr tk (pa_cons (pv 0) (pa_cons (pv 1) (pa_cons (pv 2) (pa_cons (pv 3) (pa_cons (pe_tup (pa_cons (pv 2) (pa_cons (pv 3) (pa_cons pe_int (pa_cons (pe_tup (pa_cons pe_str (pa_cons pe_str pa_nil))) pa_nil))))) pa_nil)))))) pa_nil))))
        (fun a oe cls d pn hz hf => pss_one (ps_ret (pe_and (pe_callB (call_isD K hz.zc hf) (by rfl) T.b_isinstance (by decide +kernel) (pa_cons (pv 6) (pa_cons (pe_glob (v := .ref (cNoSpot K)) rfl TE.ns.gC rfl) pa_nil)))
            (pe_and (pe_not (pe_callB (call_isD K hz.zc hf) (by rfl) T.b_isinstance (by decide +kernel) (pa_cons (pv 6) (pa_cons (pe_glob (v := .ref (cClash K)) rfl TE.cl.gC rfl) pa_nil))))
            (pe_and (pe_callB (call_isD K hz.zc hf) (by rfl) T.b_isinstance (by decide +kernel) (pa_cons (pv 6) (pa_cons (pe_bltn (v := .ty "ValueError") (u := .type "ValueError") (by rfl) T.b_ValueError (by decide +kernel) rfl) pa_nil)))
            (pe_one (pe_cmpR (eqDK K hu64) (pe_xf (C := cNoSpot K) ⟨TE.ns.ga, TE.ns.gg, TE.ns.exC, TE.ns.hdC⟩ TE.ns.noN hz.zc hf (pv 6)) (pv 4) (nomark _)))))))))
      (pss_one (ps_ret pe_bl)))), ?_⟩
  have exC : ExcC K (cNoSpot K) := ⟨TE.ns.ga, TE.ns.gg, TE.ns.exC, TE.ns.hdC, IY.ha_ns, IX.hn, IX.htk, IY.hm_ns⟩
  refine ⟨(show 0 ≤ sizeLine by decide), fun G hG => ?_⟩
  have sG := same_new (o := .lst []) hG
  refine ⟨_, rfl, .inl ⟨rfl, _, SqL.of upd_same⟩, _, rfl, _, rfl, _, rfl, _, rfl, _, rfl, _, rfl, (show 2 ≤ sizeLine by decide), fun t1 ht1 => ?_⟩
  have s1 := sG.trans (same_new (o := .tup [.str "range", .str "x"]) ht1)
  refine ⟨(show 4 ≤ sizeLine by decide), fun p hp => ?_⟩
  have s2 := s1.trans (same_new (o := .tup [va, vb, .int 5, .ref t1]) hp)
  have kx : ∃ k, TK H vx k := by
    rcases hx with ⟨_, e⟩ | ⟨_, _, e⟩
    · exact ⟨ka, by rw [e]; exact ha⟩
    · exact ⟨kb, by rw [e]; exact hb⟩
  obtain ⟨kx, hkx⟩ := kx
  have caught : ∀ (ts : Addr → Value → Option Addr → TS) (D : Ends) (H2 : Hp), Same H H2 → (∀ a d, H2 d = none → ts a (.ref (cNoSpot K)) (some d) { nx := fun σ' H' => D.nx (σ'.set 6 none) H', rt := D.rt, bk := fun σ' H' => D.bk (σ'.set 6 none) H', ct := fun σ' H' => D.ct (σ'.set 6 none) H' } ([some (.ref W), some (.int way), some va, some vb, some vx, some (.ref G), none].set 6 (some (.ref a))) (upd H2 d (.xd [("spot", vx)]))) →
      NoSpotE K (WE (wAs K (.ref (He.ga K "EllError")) 6 ts (fun _ _ _ _ => False) D) [some (.ref W), some (.int way), some va, some vb, some vx, some (.ref G), none]) H2 vx := fun ts D H2 k h d hd => ⟨true, IY.em_ns, fun _ a _ => h a d hd, fun z => by cases z⟩
  have run : ∀ (H2 : Hp) (a d : Addr), Same H H2 → H2 d = none → (tRet (tAndV (tCB (rIsD K a (.ref (cNoSpot K)) (some d)) (tCons (tVar 6) (tCons (tC (.ref (cNoSpot K))) tNil))) (tAndV (tNotV (tCB (rIsD K a (.ref (cNoSpot K)) (some d)) (tCons (tVar 6) (tCons (tC (.ref (cClash K))) tNil)))) (tAndV (tCB (rIsD K a (.ref (cNoSpot K)) (some d)) (tCons (tVar 6) (tCons (tC (.ty "ValueError")) tNil))) (tOp (rEqD K) (tXf a (.ref (cNoSpot K)) (some d) (cNoSpot K) "spot" (tVar 6)) (tVar 4)))))) { nx := fun σ' H' => Q (.bl false) H', rt := Q } ([some (.ref W), some (.int way), some va, some vb, some vx, some (.ref G), none].set 6 (some (.ref a))) (upd H2 d (.xd [("spot", vx)])) := by
    intro H2 a d k hd
    have sd := same_new (o := .xd [("spot", vx)]) hd
    have xd : (upd H2 d (.xd [("spot", vx)])) d = some (.xd [("spot", vx)]) := upd_same
    have tx := hkx.mono (same_tp (k.trans sd))
    refine ⟨_, rfl, _, _, true, _, d, _, rfl, rfl, rfl, xd, exC, (fun u r => r), IY.j1, true, rfl, ?_⟩
    refine ⟨_, rfl, _, _, false, _, d, _, rfl, rfl, rfl, xd, exC, (fun u r => r), IY.j2, false, rfl, true, rfl, ?_⟩
    refine ⟨_, rfl, _, _, true, _, d, _, rfl, rfl, rfl, xd, exC, (fun u r => r), IY.j3, true, rfl, ?_⟩
    refine ⟨_, rfl, rfl, rfl, d, _, vx, rfl, xd, by kernel_rfl, _, rfl, _, _, tx.dp, tx.dp, tx.sh, tx.sh, ?_⟩
    rw [kD_eqv, decide_eq_true rfl]
    exact kk _ (k.trans sd)
  refine ⟨W, F, ks, ls, as, st, way, va, vb, .ref p, rfl, hW.same s2, w0, by omega, fun _ => ⟨ka, kb, p, 5, .ref t1, rfl, upd_same, ha.mono (same_tp s2), hb.mono (same_tp s2), sa, sb, fun ma mb => ?_, ?_⟩, fun z => by omega⟩
  · exfalso
    rcases hx with ⟨n, _⟩ | ⟨_, n, _⟩
    · exact n ma
    · exact n mb
  · rcases hx with ⟨n, rfl⟩ | ⟨m, n, rfl⟩
    · exact ⟨fun _ => caught _ _ _ s2 fun a d hd => run _ a d s2 hd, fun z => absurd z n, fun z => absurd z n⟩
    · exact ⟨fun z => absurd m z, fun _ _ => caught _ _ _ s2 fun a d hd => run _ a d s2 hd, fun _ z => absurd z n⟩
end
end Ell
set_option maxHeartbeats 4000000
namespace Ell
open PySem PySem.Spec PyProof.Rows L2
/-! ### if, for in a generator -/
section
variable {X : Cx}
def tGIf (c : TT) (tb to : TGn) : TGn := fun D ys σ H => c σ H fun b H1 => if b = true then tb D ys σ H1 else to D ys σ H1
theorem gs_if {test : Expr} {body orelse : List Stmt} {pos : Pos} {tc : TT} {tb to : TGn} (hc : PT X test tc) (hb : GSs X body tb) (ho : GSs X orelse to) : GS X (.If test body orelse pos) (tGIf tc tb to) := by
  refine ⟨fun A S ip R n ys s₀ c fs K J gd lv s σ H D g hn k hI ht => ?_⟩
  obtain ⟨acc, cc, r, I⟩ := hI
  rw [exec_If]
  refine seg_bind_wrap (wpAny_standAt ?_)
  refine seg_bind_wrap ?_
  rw [g.over]
  refine wpAny_mono (hc.run _ s σ H _ I ht) (fun b s' hb' => ?_) fun x s' hx => k.exc n s₀ x s' hx
  obtain ⟨H2, I2, q2⟩ := hb'
  cases b with
  | true => exact hb.run A S ip R n ys s₀ c fs K J gd lv s' σ H2 D g hn k ⟨acc, cc, r, I2⟩ q2
  | false => exact ho.run A S ip R n ys s₀ c fs K J gd lv s' σ H2 D g hn k ⟨acc, cc, r, I2⟩ q2
def tGFor (wi : TI) (g : TG) (tb : TGn) : TGn := fun D ys σ H => wi σ H fun J H1 => ∃ W : Nat → Nat → List V → L2.St → Hp → Prop, (∃ m, W 0 m ys σ H1) ∧ ∀ i m ys σ H, W i m ys σ H →
  (J.stop i H ∧ D.nx ys σ H) ∨ (J.go i H ∧ ∃ N : List V → L2.St → Hp → Prop, (∀ ys' σ' H', N ys' σ' H' → ∃ m', m' < m ∧ W (i + 1) m' ys' σ' H') ∧ ∀ x H', J.yld i H x H' → g x σ H' fun σ2 H2 => tb { D with nx := N, ct := N, bk := D.nx } ys σ2 H2)
theorem gs_for {tg iter : Expr} {body : List Stmt} {pos : Pos} {wi : TI} {g0 : TG} {tb : TGn} (hp : PassesOwn (model X.prog X.w) X.A X.env X.xe) (hcalm : X.calm = true) (hi : PI X tg iter wi) (hg : PG X tg g0) (hb : GSs X body tb)
    (hs : ∀ x, foldedSetIterable iter X.env x = pure x := by intro _; rfl) : GS X (.For tg iter body [] pos) (tGFor wi g0 tb) := by
  refine ⟨fun A S ip R n ys s₀ c fs K J gd lv s σ H D g hn k hI ht => ?_⟩
  obtain ⟨acc, cc, r, I⟩ := hI
  rw [exec_For]
  refine seg_bind_wrap (wpAny_standAt ?_)
  refine seg_bind_wrap ?_
  rw [g.over]
  refine wpAny_mono (hi.run _ s σ H _ I ht) (fun v s1 h1 => ?_) fun x s' hx => k.exc n s₀ x s' hx
  refine seg_bind_wrap (wpAny_of_eq (hs v) ?_)
  refine seg_bind_wrap (wpAny_standAt ?_)
  refine seg_bind_wrap (wpAny_holding ?_)
  rw [g.over]
  refine wpAny_mono h1 (fun itv s2 h2 => ?_) fun x s' hx => k.exc n s₀ x s' hx
  obtain ⟨it, fp, tn, Jt, H2, rfl, I2, T, st2, f2, W, ⟨m0, w0⟩, turn⟩ := h2
  have cstop : ∀ b ∈ fp, b ≠ S := fun b hb z => by
    obtain ⟨_, _, _, _, _, f5⟩ := f2 b hb
    exact f5 (S, lstObj acc cc) (List.mem_append_right _ List.mem_cons_self) z.symm
  have nS := cstop
  have stat : ∀ {H' : Hp} {acc' : Array Value} {c' : Nat}, (∀ b ∈ fp, H' b = none) → ∀ b ∈ fp, FpOk X ((S, lstObj acc' c') :: ip) H' b := fun {H' acc' c'} hn b hb => by
    obtain ⟨f0, f1, f2', f3, f4, f5⟩ := f2 b hb
    refine ⟨hn b hb, f1, f2', f3, f4, fun p hp => ?_⟩
    rcases List.mem_append.mp hp with z | z
    · exact f5 p (List.mem_append_left _ z)
    · rcases List.mem_cons.mp z with z | z
      · subst z
        exact (nS b hb).symm
      · exact f5 p (List.mem_append_right _ (List.mem_cons_of_mem _ z))
  refine seg_call fun p => ?_
  have gl := fun (kk : Result → Sem PySem.Fin) => gc_loop (k := kk) (c' := .forLoop tg (.ref it) body [] X.env) (l := lv []) (kp := []) (p := p) g rfl rfl
  have loop : ∀ (m i n : Nat) (ys : List V) (s₀ s : Shared) (σ : L2.St) (H : Hp), n + ys.length = sizeLine → W i m ys σ H → GI X S ip ys σ H s → tn i s.heap → (∀ b ∈ fp, H b = none) →
      Seg (model X.prog X.w) A R (GY X S) n s₀ (.forLoop tg (.ref it) body [] X.env) ((model X.prog X.w).den (.forLoop tg (.ref it) body [] X.env))
        (.ret (fun r => ((match r with | .ok f => (.pure f : Sem Flow) | .error e => .raise e).onRaise (cameBack X.env)).wrap K J gd lv) none (gd false) (lv []) c p [] :: fs) s := by
    intro m
    induction m using Nat.strongRecOn with
    | ind m ih =>
      intro i n ys s₀ s σ H hn w hI st hfree
      have ee : ∀ (n : Nat) (s₀ : Shared) (x : Value) (s' : Shared), X.xe x s' → Seg (model X.prog X.w) A R (GY X S) n s₀ (.forLoop tg (.ref it) body [] X.env)
          ((do noteFrame x X.env; theTreesLotGoes x : Sem Unit).wrap (fun _ => .raise x) .raise id id)
          (.ret (fun r => ((match r with | .ok f => (.pure f : Sem Flow) | .error e => .raise e).onRaise (cameBack X.env)).wrap K J gd lv) none (gd false) (lv []) c p [] :: fs) s' := fun n s₀ x s' hx => by
        refine seg_wrap ?_
        rw [(gl _).over]
        refine wpAny_bind (wpAny_mono (hp x s' hx) (fun _ s'' hcb => wpAny_theTreesLotGoes ?_) fun y s'' hcb => ?_)
        · exact seg_leaf (.error x) (seg_cameBack g k hcb)
        · exact seg_leaf (.error y) (seg_cameBack g k hcb)
      have ee' : ∀ (n : Nat) (s₀ : Shared) (x : Value) (s' : Shared), X.xe x s' → Seg (model X.prog X.w) A R (GY X S) n s₀ (.forLoop tg (.ref it) body [] X.env)
          (((do noteFrame x X.env; theTreesLotGoes x : Sem Unit)).bind fun _ => .raise x)
          (.ret (fun r => ((match r with | .ok f => (.pure f : Sem Flow) | .error e => .raise e).onRaise (cameBack X.env)).wrap K J gd lv) none (gd false) (lv []) c p [] :: fs) s' := fun n s₀ x s' hx => by
        rw [Sem.bind_eq_wrap]
        exact ee n s₀ x s' hx
      show Seg _ A R _ n s₀ _ ((forTurn tg (.ref it) body [] X.env).onRaise (fun x => do noteFrame x X.env; theTreesLotGoes x)) _ s
      unfold forTurn
      rw [Sem.onRaise_eq_wrap]
      refine seg_bind_wrap (wpAny_standAt ?_)
      refine seg_bind_wrap ?_
      rw [(gl _).over]
      obtain ⟨acc, cc, r, I⟩ := hI
      rcases turn i m ys σ H w with ⟨stop, qn⟩ | ⟨go, N, hN, step⟩
      · refine wpAny_onRaise (wpAny_mono (T.done X rfl rfl rfl hcalm i _ s σ H X.xe I (stat hfree) st stop) (fun r' s' hd => ?_) fun x s' hx => wpAny_standAt (ee' n s₀ x s' hx))
        obtain ⟨rfl, I'⟩ := hd
        refine seg_again rfl ?_
        show Seg _ A R _ n s₀ _ (.pure (.done .next)) _ s'
        exact seg_leaf (.ok .next) (k.ok n ys s₀ s' .next hn ⟨σ, H, ⟨acc, cc, r, I'⟩, qn⟩)
      · refine wpAny_onRaise (wpAny_mono (T.item X rfl rfl rfl hcalm i _ s σ H X.xe I (stat hfree) st go) (fun r' s' hd => ?_) fun x s' hx => wpAny_standAt (ee' n s₀ x s' hx))
        obtain ⟨u, rfl, h4⟩ := hd
        refine seg_bind_wrap ?_
        rw [(gl _).over]
        refine wpAny_mono h4 (fun _ s5 h5 => ?_) fun x s' hx => ee' n s₀ x s' hx
        obtain ⟨x, H5, I5, r5, y5, st5, fr5⟩ := h5
        have I5' := I5.pinned (stat fr5) (T.obj _ _ st5)
        refine seg_bind_wrap ?_
        rw [(gl _).over]
        refine wpAny_mono (hg.run _ s5 σ H5 x u _ I5' r5 (step x H5 y5)) (fun _ s6 h6 => ?_) fun x s' hx => ee' n s₀ x s' hx
        obtain ⟨σ6, H6, I6, q6⟩ := h6
        have gb := gl (fun r => ((match r with | .ok f => (.pure f : Sem Flow) | .error e => .raise e).onRaise (cameBack X.env)).wrap K J gd lv)
        rw [Sem.bind_eq_wrap', Sem.wrap_wrap]
        refine hb.run A S (ip ++ pinsAt fp s5.heap) R n ys s₀ _ _ _ _ _ _ s6 σ6 H6 { D with nx := N, ct := N, bk := D.nx } ⟨gb.pn, fun p hp => ?_, gb.apart, gb.over, gb.split, gb.guard, rfl⟩ hn ⟨fun n' ys' s₀' s3 f hn' hs => ?_, fun n' s₀' x s3 hx => ee' n' s₀' x s3 hx⟩ ⟨acc, cc, r, I6⟩ q6
        · rcases List.mem_append.mp hp with z | z
          · exact g.ip p z
          · exact nS p.1 (of_pinsAt z).1
        · have back : ∀ {σ7 : L2.St} {H7 : Hp}, GI X S (ip ++ pinsAt fp s5.heap) ys' σ7 H7 s3 → GI X S ip ys' σ7 H7 s3 := fun {σ7 H7} h7 => by
            obtain ⟨a7, c7, r7, I7⟩ := h7
            exact ⟨a7, c7, r7, Inv.unpinned (pins := (S, lstObj a7 c7) :: ip) (pl := pinsAt fp s5.heap) I7⟩
          have again' : ∀ {σ7 : L2.St} {H7 : Hp}, GI X S (ip ++ pinsAt fp s5.heap) ys' σ7 H7 s3 → N ys' σ7 H7 → Seg (model X.prog X.w) A R (GY X S) n' s₀' (.forLoop tg (.ref it) body [] X.env) ((model X.prog X.w).den (.forLoop tg (.ref it) body [] X.env)) _ s3 := fun {σ7 H7} h7 n7 => by
            obtain ⟨m', hm, w7⟩ := hN ys' σ7 H7 n7
            obtain ⟨a7, c7, r7, I7⟩ := id h7
            refine ih m' hm (i + 1) n' ys' s₀' s3 σ7 H7 hn' w7 (back h7) (T.keep _ _ _ st5 fun b hb o e => (I7.pin (b, o) (List.mem_append_right _ (List.mem_cons_of_mem _ (List.mem_append_right _ (mem_pinsAt hb e))))).1) fun b hb => ?_
            obtain ⟨o, e, d⟩ := T.obj _ _ st5 b hb
            exact (I7.pin (b, o) (List.mem_append_right _ (List.mem_cons_of_mem _ (List.mem_append_right _ (mem_pinsAt hb e))))).2.1
          cases f with
          | next =>
            obtain ⟨σ3, H3, I3, n3⟩ := hs
            exact seg_again rfl (again' I3 n3)
          | cont =>
            obtain ⟨σ3, H3, I3, n3⟩ := hs
            exact seg_again rfl (again' I3 n3)
          | brk =>
            obtain ⟨σ3, H3, I3, n3⟩ := hs
            exact seg_leaf (.ok .next) (k.ok n' ys' s₀' s3 .next hn' ⟨σ3, H3, back I3, n3⟩)
          | ret v =>
            obtain ⟨v3, σ3, H3, I3, r3, n3⟩ := hs
            exact seg_leaf (.ok (.ret v)) (k.ok n' ys' s₀' s3 (.ret v) hn' ⟨v3, σ3, H3, back I3, r3, n3⟩)
  exact loop m0 0 n ys s₀ s2 σ H2 hn w0 ⟨acc, cc, r, I2⟩ st2 fun b hb => (f2 b hb).1
end
end Ell
set_option maxHeartbeats 4000000
namespace Ell
open PySem PySem.Spec PyProof.Rows L2
/-! ### Web.links_from -/
theorem gsc_links : GScope N_Web_links_from ["self", "spot"] (defScope s_Web_links_from) := ⟨rfl, rfl, rfl, by decide +kernel, rfl, by decide +kernel, by decide +kernel⟩
/-- the links that begin at k -/
def begins (k : List Key) (ls : List Lk) : List Lk := ls.filter fun l => decide (l.a = k)
def spLinksFrom (K : PySem.W.Frag) : SpG := fun vs H Q _ => ∃ (W F : Addr) (ks : List (List Key)) (ls : List Lk) (as : List Arc) (st : WState) (v : V) (k : List Key), vs = [.ref W, v] ∧ WebAt K H W F ks ls as st ∧ TK H v k ∧ IsSp k ∧ k ∈ ks ∧
  ∀ out H', Same H H' → LVs H' out (begins k ls) → Q out H'
theorem passN0 {X : Cx} : Passes (L2N.CX X.prog X.w) X E0 := fun _ _ _ _ _ _ _ h => by
  obtain ⟨_, _, _, _, _, _, _, _, _, _, _, _, _, z⟩ := h
theorem gfor_tup {K : PySem.W.Frag} {a : Addr} {xs : List V} {g : TG} {tb : TGn} {D : GEnds} {ys : List V} {σ : L2.St} {H : Hp} (Pv : Nat → List V → L2.St → Hp → Prop) (h0 : Pv 0 ys σ H) (hl : ∀ i ys σ H, i ≤ xs.length → Pv i ys σ H → SqT K H a xs)
    (hs : ∀ i x ys σ H, xs[i]? = some x → Pv i ys σ H → g x σ H fun σ2 H2 => tb { D with nx := Pv (i + 1), ct := Pv (i + 1), bk := D.nx } ys σ2 H2) (hd : ∀ ys σ H, Pv xs.length ys σ H → D.nx ys σ H) :
    ∃ W : Nat → Nat → List V → L2.St → Hp → Prop, (∃ m, W 0 m ys σ H) ∧ ∀ i m ys σ H, W i m ys σ H →
      ((Itt K a).stop i H ∧ D.nx ys σ H) ∨ ((Itt K a).go i H ∧ ∃ N : List V → L2.St → Hp → Prop, (∀ ys' σ' H', N ys' σ' H' → ∃ m', m' < m ∧ W (i + 1) m' ys' σ' H') ∧ ∀ x H', (Itt K a).yld i H x H' → g x σ H' fun σ2 H2 => tb { D with nx := N, ct := N, bk := D.nx } ys σ2 H2) := by
  refine ⟨fun i m ys σ H => m = xs.length - i ∧ i ≤ xs.length ∧ Pv i ys σ H, ⟨xs.length, by simp, Nat.zero_le _, h0⟩, ?_⟩
  rintro i m ys σ H ⟨rfl, hi, p⟩
  have q := hl i ys σ H hi p
  by_cases hlt : i < xs.length
  · refine .inr ⟨⟨xs, xs[i], q, by simp [hlt]⟩, Pv (i + 1), fun ys' σ' H' p' => ⟨xs.length - (i + 1), by omega, rfl, hlt, p'⟩, fun x H' y => ?_⟩
    obtain ⟨e, y⟩ := y
    subst e
    exact hs i x ys σ _ (y xs q) p
  · have e : i = xs.length := by omega
    subst e
    exact .inl ⟨⟨xs, q, Nat.le_refl _⟩, hd ys σ H p⟩
section
variable {P : Program} {w : World} {K : PySem.W.Frag} {mg : Str → Option Value} {base : Heap}
theorem ok_links_from (T : Tx K mg) (c_Web_place_of : CalM P w K mg base (L2N.CX P w) 3 (cWeb K) "place_of" ["self", "spot"] [] (spPlace K)) : ∃ (f : Addr) (fd : FuncData), GFn P w K mg base 5 f fd ["self", "spot"] (spLinksFrom K) ∧ Cls K (cWeb K) ∧ Meth K (cWeb K) "links_from" f ∧ Binds K fd ["self", "spot"] [] := by
  obtain ⟨fd, F⟩ := T.f_Web_links_from
  refine ⟨_, fd, ?_, T.c_Web, T.m_Web_links_from, F.bindsN fun _ _ _ _ _ _ us hl => match us, hl with | [_, _], _ => rfl⟩
  obtain ⟨oc, od, dV, kV, doc, pm, an, cdv, ct, osl, rfl, lk, hcd, _, _⟩ := F.ex
  refine gfn_of lk hcd gsc_links (fun vs H Q E h => ?_) fun A outer s H vs Q E pn hr h => ?_
  · obtain ⟨W, F, ks, ls, as, st, v, k, rfl, _⟩ := h
    rfl
  obtain ⟨W, F, ks, ls, as, st, v, k, rfl, hW, hv, hk, hm, kk⟩ := h
  have hu64 : _ := hu64_of hr
  refine ⟨_, (gss_cons (gs_ps (ps_expr (pmethE c_Web_place_of hr passN0 (pv 0) (pa_cons (pv 1) pa_nil))))
      (gss_cons (gs_for (hp := by exact owns_gcx) rfl (pi_tupK K (fldK K (pv 0))) (pg_name (i := 2) gsc_links.nd rfl (Or.inl rfl))
        (gss_cons (gs_if (pt_cmpR (eqDK K hu64) (pe_ix (ix_tupK K) (pv 2) pe_int (fun _ _ => rfl)) (pv 1) (nomark _)) (gss_cons (gs_yield (pv 2)) gss_nil) gss_nil) gss_nil)) gss_nil)), ?_⟩
  obtain ⟨dx0, fs0, eW0, lk0⟩ := hW.meth "place_of" (by decide)
  refine ⟨_, rfl, W, _, _, rfl, eW0, lk0, _, rfl, W, F, ks, ls, as, st, v, k, rfl, hW, hv, hk, fun j hj => ?_, fun z => absurd hm z⟩
  obtain ⟨dx, S, D, L, lv, br, on, bk, kvs', eW, hS, eD, nD, ⟨xs, eL, rL⟩, _⟩ := id hW.ex
  have lx := pr_len rL
  have nl := hW.nl
  refine ⟨_, rfl, W, _, _, _, _, rfl, eW, T.c_Web, T.n_links, wf_links, L, rfl, ⟨_, SqT.of eL⟩, gfor_tup (K := K) (a := L) (xs := xs) (fun i ys σ H2 => H2 = H ∧ LVs H2 ys (begins k (ls.take i)) ∧ ∃ o2, σ = [some (.ref W), some v, o2]) ⟨rfl, .nil, _, rfl⟩ (fun i ys σ H2 _ h => (by rw [h.1]; exact SqT.of eL)) ?_ ?_⟩
  · rintro i x ys σ H2 hi ⟨rfl, rv, o2, rfl⟩
    obtain ⟨l, hl, lvx⟩ := pr_get rL hi
    obtain ⟨p, xa, xb, xz, rfl, ep, hxa, hxb, hxz⟩ := id lvx
    have ly : ys.length ≤ i := by
      have h1 := pr_len rv
      have h2 : (begins k (ls.take i)).length ≤ (ls.take i).length := List.length_filter_le _ _
      rw [List.length_take] at h2
      omega
    have hix := (List.getElem?_eq_some_iff.mp hi).1
    refine ⟨_, rfl, p, _, _, _, rfl, rfl, SqT.of ep, atI_nat (j := 0) rfl, _, rfl, _, _, hxa.dp, hv.dp, hxa.sh, hv.sh, ?_⟩
    rw [kD_eqv]
    by_cases hk2 : l.a = k
    · rw [decide_eq_true hk2]
      refine ⟨_, rfl, small1000 (by omega), _, rfl, rfl, ?_, _, rfl⟩
      have e : begins k (ls.take (i + 1)) = begins k (ls.take i) ++ [l] := by
        unfold begins
        rw [take_snoc hl, List.filter_append]
        simp [hk2]
      rw [e]
      exact pr_snoc rv lvx
    · rw [decide_eq_false hk2]
      refine ⟨_, rfl, rfl, ?_, _, rfl⟩
      have e : begins k (ls.take (i + 1)) = begins k (ls.take i) := by
        unfold begins
        rw [take_snoc hl, List.filter_append]
        simp [hk2]
      rw [e]
      exact rv
  · rintro ys σ H2 ⟨rfl, rv, o2, rfl⟩
    rw [lx, List.take_length] at rv
    exact kk ys H2 (Same.refl _) rv
end
end Ell
set_option maxHeartbeats 4000000
namespace Ell
open PySem PySem.Spec PyProof.Rows L2
/-! ### worlds and potentials -/
theorem keeps_pot {as : List Arc} {wv : WV} {N : Nat} (hb : ∀ e ∈ as, e.1 < N ∧ e.2.1 < N) (hl : ∀ j, j < N → Low (wv j)) (h : ∀ e ∈ as, Keeps (wv e.1) (wv e.2.1) e.2.2) : ∃ p, Pot as p := by
  refine ⟨fun i => (if (wv i).2 = 1 then 2 * (wv i).1 else (wv i).1) / 2, fun e he => ?_⟩
  obtain ⟨h1, h2⟩ := hb e he
  obtain ⟨a1, a2, _⟩ := hl _ h1
  obtain ⟨b1, b2, _⟩ := hl _ h2
  have hk := h e he
  unfold Keeps at hk
  show (if (wv e.2.1).2 = 1 then 2 * (wv e.2.1).1 else (wv e.2.1).1) / 2 ≤ (if (wv e.1).2 = 1 then 2 * (wv e.1).1 else (wv e.1).1) / 2 + e.2.2
  generalize wv e.1 = a at *
  generalize wv e.2.1 = b at *
  generalize e.2.2 = w at *
  obtain ⟨n, d⟩ := a
  obtain ⟨m, c⟩ := b
  simp only at *
  have hd : d = 1 ∨ d = 2 := by omega
  have hc : c = 1 ∨ c = 2 := by omega
  rcases hd with rfl | rfl <;> rcases hc with rfl | rfl <;> simp at hk ⊢ <;> omega
theorem keeps_gw {as : List Arc} {d : Nat → Int} (h : Pot as d) : ∀ e ∈ as, Keeps (gw d e.1) (gw d e.2.1) e.2.2 := fun e he => by
  have := h e he
  unfold Keeps gw
  simp only [Int.mul_one]
  omega
theorem keeps_lw {as : List Arc} {d : Nat → Int} (h : Pot (rev as) d) : ∀ e ∈ as, Keeps (lw d e.1) (lw d e.2.1) e.2.2 := fun e he => by
  have := h (revA e) (List.mem_map.mpr ⟨e, he, rfl⟩)
  unfold Keeps lw
  simp only [Int.mul_one]
  have h2 : d e.1 ≤ d e.2.1 + e.2.2 := this
  omega
theorem all_keeps_false {as : List Arc} {wv : WV} {N : Nat} (hb : ∀ e ∈ as, e.1 < N ∧ e.2.1 < N) (hl : ∀ j, j < N → Low (wv j)) (np : NoPot as) : (as.all fun e => decide (Keeps (wv e.1) (wv e.2.1) e.2.2)) = false := by
  rw [Bool.eq_false_iff]
  intro h
  rw [List.all_eq_true] at h
  obtain ⟨p, hp⟩ := keeps_pot hb hl fun e he => of_decide_eq_true (h e he)
  exact np p hp
end Ell
set_option maxHeartbeats 4000000
namespace Ell
open PySem PySem.Spec PyProof.Rows L2
/-! ### all_clash -/
theorem passL0 {X : Cx} : Passes (L2.CX X.prog X.w) X E0 := fun _ _ _ _ _ _ _ h => by
  obtain ⟨_, _, _, _, _, _, _, _, _, _, _, _, _, z⟩ := h
theorem noStop0 {K : PySem.W.Frag} : NoStop K E0 := fun _ _ _ h => h.elim
def spAllClash (K : PySem.W.Frag) : Sp := fun vs H Q _ => ∃ (b c W F S L : Addr) (ks : List (List Key)) (ls : List Lk) (as : List Arc) (st : WState), vs = [.ref b, .ref W, .ref S, .ref L] ∧ Bag H b c ∧ WebAt K H W F ks ls as st ∧ SpotsAt H S ks ∧ LinksAt H L ls ∧ NoPot as ∧ ls ≠ [] ∧
  ∀ H', Bag H' b c → WebAt K H' W F ks ls as .broken → SpotsAt H' S ks → LinksAt H' L ls → Q (.bl true) H'
theorem ld_list (ks ls : List Lk) : PyData.eqv (.list (ks.map lD)) (.list (ls.map lD)) = decide (ks = ls) := by
  have go : ∀ ks ls : List Lk, PyData.eqvAll (ks.map lD) (ls.map lD) = decide (ks = ls) := by
    intro ks
    induction ks with
    | nil => intro ls; cases ls <;> simp [PyData.eqvAll]
    | cons k ks ih =>
      intro ls
      cases ls with
      | nil => simp [PyData.eqvAll]
      | cons l ls =>
        simp only [List.map_cons, PyData.eqvAll, lD_eqv, ih]
        by_cases h1 : k = l <;> by_cases h2 : ks = ls <;> simp [h1, h2]
  simp only [PyData.eqv]
  exact go ks ls
structure CJ (K : PySem.W.Frag) (H : Hp) (b c W F S L : Addr) (ks : List (List Key)) (ls : List Lk) (as : List Arc) (st : WState) (xs ys : List V) : Prop where
  bag : Bag H b c
  web : WebAt K H W F ks ls as st
  eS : H S = some (.lst xs)
  rS : TKs H xs ks
  eL : H L = some (.lst ys)
  rL : LVs H ys ls
theorem CJ.fb {K : PySem.W.Frag} {H H' : Hp} {b c W F S L : Addr} {ks : List (List Key)} {ls : List Lk} {as : List Arc} {st : WState} {xs ys : List V} (h : CJ K H b c W F S L ks ls as st xs ys) (k : FB H H') (hb : Bag H' b c) : CJ K H' b c W F S L ks ls as st xs ys :=
  ⟨hb, h.web.fb k, fb_free k h.eS True.intro, tks_mono h.rS (fb_tp k), fb_free k h.eL True.intro, lvs_mono h.rL (fb_tp k)⟩
theorem CJ.same {K : PySem.W.Frag} {H H' : Hp} {b c W F S L : Addr} {ks : List (List Key)} {ls : List Lk} {as : List Arc} {st : WState} {xs ys : List V} (h : CJ K H b c W F S L ks ls as st xs ys) (k : Same H H') : CJ K H' b c W F S L ks ls as st xs ys :=
  ⟨h.bag.same k, h.web.same k, k _ _ h.eS, tks_mono h.rS (same_tp k), k _ _ h.eL, lvs_mono h.rL (same_tp k)⟩
theorem CJ.fwb {K : PySem.W.Frag} {H H' : Hp} {b c W F S L : Addr} {ks : List (List Key)} {ls : List Lk} {as : List Arc} {st st' : WState} {xs ys : List V} (h : CJ K H b c W F S L ks ls as st xs ys) (k : FWb W F H H') (w : WebAt K H' W F ks ls as st') : CJ K H' b c W F S L ks ls as st' xs ys :=
  ⟨h.web.bag k h.bag, w, h.web.lt k h.eS True.intro, tks_mono h.rS (h.web.tp k), h.web.lt k h.eL True.intro, lvs_mono h.rL (h.web.tp k)⟩
section
variable {P : Program} {w : World} {K : PySem.W.Frag} {mg : Str → Option Value} {base : Heap}
theorem ok_all_clash (T : Tx K mg) (c_l_pick : Cal P w K mg base CX0 1 "_law_pick" ["_law_bag", "_law_many"] [] spPick) (c_l_clashes_well : Cal P w K mg base CX0 9 "_law_clashes_well" ["_law_web", "_law_links", "_law_way", "_law_a", "_law_b", "_law_link"] [] (spClashes K)) (c_l_stranger : Cal P w K mg base CX0 4 "_law_stranger" ["_law_bag", "_law_spots"] [] spStranger) (c_l_choice : Cal P w K mg base CX0 2 "_law_choice" ["_law_bag", "_law_things"] [] (spChoice K)) (c_l_lacks_well : Cal P w K mg base CX0 9 "_law_lacks_well" ["_law_web", "_law_way", "_law_a", "_law_b", "_law_strange"] [] (spLacks K)) (c_l_ratio : Cal P w K mg base CX0 2 "_law_ratio" ["_law_n", "_law_d"] [] spRat) (c_World_init : CalC P w K mg base CX0 4 "World" (cWorld K) ["self", "pairs"] [] (spWorldInit K)) (c_Web_allows : CalM P w K mg base CX0 7 (cWeb K) "allows" ["self", "world"] [] (spAllows K)) (gl : ∃ (f : Addr) (fd : FuncData), GFn P w K mg base 5 f fd ["self", "spot"] (spLinksFrom K) ∧ Cls K (cWeb K) ∧ Meth K (cWeb K) "links_from" f ∧ Binds K fd ["self", "spot"] []) : Cal P w K mg base CX0 10 "_law_all_clash" ["_law_bag", "_law_web", "_law_spots", "_law_links"] [] (spAllClash K) := by
  obtain ⟨fd, F⟩ := T.f_l_all_clash
  refine ⟨_, fd, [], F.ok sc_l_all_clash (fun vs H Q E h => ?_) (fun cdv A outer s H vs Q E hr h => ?_), T.g_l_all_clash, F.kp, F.bindsN fun _ _ _ _ _ _ us hl => match us, hl with | [_, _, _, _], _ => rfl, .nil⟩
  · obtain ⟨b, c, W, F, S, L, ks, ls, as, st, rfl, _⟩ := h
    rfl
  obtain ⟨b, c, W, F, S, L, ks, ls, as, st, rfl, hB, hW, hS, hL, np, hne, kk⟩ := h
  obtain ⟨f, fd, gF, gC, gM, gB⟩ := gl
  have hu64 := hu64_of hr
  refine ⟨_, PSs.nox ((Evl.pss_cut (ps_for PassesOwn.never rfl (pi_listK K (pv 2)) (pg_name (i := 4) sc_l_all_clash.nd rfl (Or.inl rfl))
          (pss_one (ps_for PassesOwn.never rfl (pi_listK K (pv 2)) (pg_name (i := 5) sc_l_all_clash.nd rfl (Or.inl rfl))
            (pss_one (ps_for PassesOwn.never rfl (pi_range1 (by rfl) T.b_range (pa_cons pe_int pa_nil)) (pg_name (i := 6) sc_l_all_clash.nd rfl (Or.inl rfl))
              (Evl.pss_cut (ps_if (PW.pt (pw_and (pt_cmpR op_eq (pv 6) pe_int (nomark _)) (pw_and1 (pt_cmpR (eqDK K hu64) (pv 4) (pv 5) (nomark _))))) (pss_one ps_continue) pss_nil)
              (pss_one (ps_if (pt_not (pt_val (pcall c_l_clashes_well hr (pa_cons (pv 1) (pa_cons (pv 3) (pa_cons (pv 6) (pa_cons (pv 4) (pa_cons (pv 5) (pa_cons (pe_tup (pa_cons (pv 4) (pa_cons (pv 5) (pa_cons (pcall c_l_pick hr (pa_cons (pv 0) (pa_cons pe_int pa_nil))) (pa_cons (pe_tup (pa_cons pe_str (pa_cons pe_int pa_nil))) pa_nil))))) pa_nil))))))))) (pss_one (ps_ret pe_bl)) pss_nil))))))))
        (Evl.pss_cut (ps_for PassesOwn.never rfl (pi_range2 (by rfl) T.b_range (pa_cons pe_int (pa_cons pe_int pa_nil))) (pg_name (i := 6) sc_l_all_clash.nd rfl (Or.inl rfl))
          (pss_one (ps_if (pt_not (pt_val (pcall c_l_clashes_well hr (pa_cons (pv 1) (pa_cons (pv 3) (pa_cons (pv 6) (pa_cons (pe_ix (ix_listK K) (pv 2) pe_int (fun _ _ => rfl)) (pa_cons (pe_ix (ix_listK K) (pv 2) pe_int (fun _ _ => rfl)) (pa_cons (pe_ix (ix_listK K) (pv 3) pe_int (fun _ _ => rfl)) pa_nil))))))))) (pss_one (ps_ret pe_bl)) pss_nil)))
        (pss_cons (ps_set (i := 7) sc_l_all_clash.nd rfl (Or.inl rfl) (pcall c_l_stranger hr (pa_cons (pv 0) (pa_cons (pv 2) pa_nil))))
        (pss_cons (ps_set (i := 8) sc_l_all_clash.nd rfl (Or.inl rfl) (pcall c_l_choice hr (pa_cons (pv 0) (pa_cons (pv 2) pa_nil))))
        (Evl.pss_cut (ps_for PassesOwn.never rfl (pi_range1 (by rfl) T.b_range (pa_cons pe_int pa_nil)) (pg_name (i := 6) sc_l_all_clash.nd rfl (Or.inl rfl))
          (pss_one (ps_if (PW.pt (pw_or (pt_not (pt_val (pcall c_l_lacks_well hr (pa_cons (pv 1) (pa_cons (pv 6) (pa_cons (pv 7) (pa_cons (pv 8) (pa_cons (pv 7) pa_nil)))))))) (pw_or1 (pt_not (pt_val (pcall c_l_lacks_well hr (pa_cons (pv 1) (pa_cons (pv 6) (pa_cons (pv 8) (pa_cons (pv 7) (pa_cons (pv 7) pa_nil))))))))))) (pss_one (ps_ret pe_bl)) pss_nil)))
        (Evl.pss_cut (ps_for PassesOwn.never rfl (pi_listK K (pv 2)) (pg_name (i := 9) sc_l_all_clash.nd rfl (Or.inr rfl))
          (pss_one (ps_if (pt_cmpR (neDK K hu64) (pe_listG (E := E0) (pgen_meth (pv 1) gC gM gF (hr.mono (by decide)) gB .nil (pa_cons (pv 9) pa_nil)) passL0 noStop0 (hr.mono (by decide)) (by rfl) T.b_list (by decide +kernel)) (pe_lc (own := [("_law_link", 11)]) (g := gName 11) rfl sc_l_all_clash.nd (pi_listK K (pv 3)) (blkOk_by (N := N_l_all_clash) (sc := defScope s_l_all_clash) (by decide +kernel)) (fun _ _ _ _ _ => (pg_name (i := 11) sc_l_all_clash.nd rfl (Or.inl rfl))) (fun _ _ _ _ _ => (pts_one (pt_cmpR (eqDK K hu64) (pe_ix (ix_tupK K) (pv 11) pe_int (fun _ _ => rfl)) (pv 9) (nomark _)))) (fun _ _ _ _ _ => (pv 11))) (nomark _)) (pss_one (ps_ret pe_bl)) pss_nil)))
        (pss_cons (ps_set (i := 10) sc_l_all_clash.nd rfl (Or.inl rfl) (pe_lst (pa_cons (pe_tup (pa_cons (pe_ix (ix_listK K) (pv 2) pe_int (fun _ _ => rfl)) (pa_cons (pe_tup (pa_cons pe_int (pa_cons pe_int pa_nil))) pa_nil))) pa_nil)))
        (Evl.pss_cut (ps_for PassesOwn.never rfl (pi_listK K (pe_slice (sl_listK K) (pv 2) (po_some pe_int) po_none)) (pg_name (i := 9) sc_l_all_clash.nd rfl (Or.inr rfl))
          (pss_one (ps_expr (bmK K PySem.F.plainAttrs_list PySem.F.slot_list_append PySem.F.type_list_append mt_append (pv 10) (pa_cons (pe_tup (pa_cons (pv 9) (pa_cons (pcall c_l_ratio hr (pa_cons (pe_op op_sub (pcall c_l_pick hr (pa_cons (pv 0) (pa_cons pe_int pa_nil))) pe_int) (pa_cons (pe_op op_add pe_int (pcall c_l_pick hr (pa_cons (pv 0) (pa_cons pe_int pa_nil)))) pa_nil))) pa_nil))) pa_nil)))))
        (pss_one (ps_ret (pe_cmpR op_isBl (pmeth c_Web_allows hr (pv 1) (pa_cons (pmake c_World_init hr (pa_cons (pv 10) pa_nil)) pa_nil)) pe_bl (nomark _))))))))))))), ?_⟩
  obtain ⟨⟨xs, eS, rS⟩, nd, g0, sp⟩ := id hS
  obtain ⟨ys, eL, rL⟩ := id hL
  have hs := hW.sp
  have lx := pr_len rS
  have ly := pr_len rL
  have J0 : CJ K H b c W F S L ks ls as st xs ys := ⟨hB, hW, eS, rS, eL, rL⟩
  refine ⟨fun σ' H2 => ∃ (o4 o5 o6 : Option V) (st' : WState), σ' = [some (.ref b), some (.ref W), some (.ref S), some (.ref L), o4, o5, o6, none, none, none, none, none] ∧ CJ K H2 b c W F S L ks ls as st' xs ys, ?_, ?_⟩
  · refine ⟨_, rfl, S, rfl, ⟨_, SqL.of eS⟩, for_list (K := K) (a := S) (xs := xs) (fun i σ H2 => ∃ (o4 o5 o6 : Option V) (st' : WState), σ = [some (.ref b), some (.ref W), some (.ref S), some (.ref L), o4, o5, o6, none, none, none, none, none] ∧ CJ K H2 b c W F S L ks ls as st' xs ys) ⟨none, none, none, st, rfl, J0⟩ (fun i σ H2 _ ⟨_, _, _, _, _, j⟩ => SqL.of j.eS) ?_ (fun σ H2 h => h)⟩
    rintro i x σ H2 hi ⟨o4, o5, o6, st', rfl, j2⟩
    refine ⟨_, rfl, S, rfl, ⟨_, SqL.of j2.eS⟩, for_list (K := K) (a := S) (xs := xs) (fun i σ H2 => ∃ (o5 o6 : Option V) (st' : WState), σ = [some (.ref b), some (.ref W), some (.ref S), some (.ref L), some x, o5, o6, none, none, none, none, none] ∧ CJ K H2 b c W F S L ks ls as st' xs ys) ⟨_, _, st', rfl, j2⟩ (fun i σ H2 _ ⟨_, _, _, _, j⟩ => SqL.of j.eS) ?_ (fun σ H2 ⟨o5, o6, st', e, j⟩ => ⟨_, _, _, st', e, j⟩)⟩
    rintro i2 x2 σ H3 hi2 ⟨o5', o6', st3, rfl, j3⟩
    obtain ⟨ka, hka, ta⟩ := pr_get rS hi
    obtain ⟨kb, hkb, tb⟩ := pr_get rS hi2
    have ma := List.mem_of_getElem? hka
    have mb := List.mem_of_getElem? hkb
    refine ⟨4, rfl, by omega, by omega, for_range (fun i σ H2 => ∃ (o6 : Option V) (st' : WState), σ = [some (.ref b), some (.ref W), some (.ref S), some (.ref L), some x, some x2, o6, none, none, none, none, none] ∧ CJ K H2 b c W F S L ks ls as st' xs ys) ⟨_, st3, rfl, j3⟩ ?_ (fun σ H2 ⟨o6, st', e, j⟩ => ⟨_, _, st', e, j⟩)⟩
    rintro i3 σ H4 hi3 ⟨o6'', st4, rfl, j4⟩
    have hi3 : i3 < 4 := by omega
    obtain ⟨xa, hxa, tka⟩ := pr_get2 j4.rS hka
    rw [hi] at hxa
    cases hxa
    obtain ⟨xb, hxb, tkb⟩ := pr_get2 j4.rS hkb
    rw [hi2] at hxb
    cases hxb
    refine ⟨fun σ' H5 => H5 = H4 ∧ σ' = [some (.ref b), some (.ref W), some (.ref S), some (.ref L), some x, some x2, some (.int (0 + (i3 : Int))), none, none, none, none, none], ?_, ?_⟩
    · refine ⟨_, rfl, rfl, _, rfl, ite2 (fun _ => ?_) (fun _ => ⟨rfl, rfl⟩)⟩
      refine ⟨_, rfl, _, rfl, _, _, tka.dp, tkb.dp, tka.sh, tkb.sh, _, rfl, ite2 (fun _ => ⟨_, st4, rfl, j4⟩) (fun _ => ⟨rfl, rfl⟩)⟩
    rintro σ' H5 ⟨rfl, rfl⟩
    refine ⟨_, rfl, _, rfl, _, rfl, _, rfl, _, rfl, _, rfl, _, rfl, _, rfl, b, c, _, rfl, j4.bag, by decide, by decide, fun r H6 r0 r1 k6 b6 => ?_⟩
    have j6 := j4.fb k6 b6
    refine ⟨(show 2 ≤ sizeLine by decide), fun t1 ht1 => ?_⟩
    have s1 := same_new (o := .tup [.str "x", .int 1]) ht1
    refine ⟨(show 4 ≤ sizeLine by decide), fun p hp => ?_⟩
    have s2 := s1.trans (same_new (o := .tup [x, x2, .int r, .ref t1]) hp)
    have j7 := j6.same s2
    have tp := TP.trans (fb_tp k6) (same_tp s2)
    refine ⟨W, F, L, ks, ls, as, st4, (0 + (i3 : Int)), x, x2, .ref p, rfl, j7.web, ⟨ys, j7.eL, j7.rL⟩, by omega, by omega, np, fun _ => ⟨ka, kb, p, r, .ref t1, rfl, upd_same, tka.mono tp, tkb.mono tp, ma, mb⟩, fun H8 k8 w8 => ?_⟩
    exact ⟨true, rfl, _, _, rfl, j7.fwb k8 w8⟩
  rintro σ' H2 ⟨o4, o5, o6, st2, rfl, j2⟩
  -- highest, lowest, slim
  refine ⟨fun σ' H3 => ∃ o6 : Option V, σ' = [some (.ref b), some (.ref W), some (.ref S), some (.ref L), o4, o5, o6, none, none, none, none, none] ∧ CJ K H3 b c W F S L ks ls as .broken xs ys, ?_, ?_⟩
  · refine ⟨4, 7, rfl, ⟨by omega, by omega, by omega, by omega⟩, for_range (fun i σ H2 => ∃ (o6 : Option V) (st' : WState), σ = [some (.ref b), some (.ref W), some (.ref S), some (.ref L), o4, o5, o6, none, none, none, none, none] ∧ CJ K H2 b c W F S L ks ls as st' xs ys ∧ (1 ≤ i → st' = .broken)) ⟨o6, st2, rfl, j2, fun h => by omega⟩ ?_ ?_⟩
    · rintro i σ H4 hi ⟨o6', st4, rfl, j4, _⟩
      have hi : i < 3 := by omega
      have hp0 := hs.pos
      have hy0 : 0 < ys.length := by
        have := List.length_pos_iff.mpr hne
        omega
      have hx0 : 0 < xs.length := by omega
      have x0 : xs[0]? = some xs[0] := List.getElem?_eq_getElem hx0
      have y0 : ys[0]? = some ys[0] := List.getElem?_eq_getElem hy0
      refine ⟨_, rfl, _, rfl, _, rfl, _, rfl, S, _, _, _, rfl, rfl, SqL.of j4.eS, atI_nat (j := 0) x0, _, rfl, S, _, _, _, rfl, rfl, SqL.of j4.eS, atI_nat (j := 0) x0, _, rfl, L, _, _, _, rfl, rfl, SqL.of j4.eL, atI_nat (j := 0) y0, ?_⟩
      exact ⟨W, F, L, ks, ls, as, st4, (4 + (i : Int)), _, _, _, rfl, j4.web, ⟨ys, j4.eL, j4.rL⟩, by omega, by omega, np, fun h => by omega, fun H8 k8 w8 => ⟨true, rfl, _, .broken, rfl, j4.fwb k8 w8, fun _ => rfl⟩⟩
    · rintro σ H4 ⟨o6', st4, rfl, j4, hb⟩
      have e := hb (by decide)
      subst e
      exact ⟨_, rfl, j4⟩
  rintro σ' H3 ⟨o6', rfl, j3⟩
  -- a stranger, a known one
  have hp0 := hs.pos
  have hn := hs.n
  refine ⟨_, rfl, _, rfl, b, c, S, ks, rfl, j3.bag, ⟨⟨xs, j3.eS, j3.rS⟩, nd, g0, sp⟩, by omega, fun vx kx H4 k4 b4 tx sx nx => ?_⟩
  have j4 := j3.fb k4 b4
  refine ⟨_, rfl, _, rfl, b, c, _, rfl, j4.bag, .inl ⟨S, xs, rfl, .inl (SqL.of j4.eS), by omega, by omega, fun i vk H5 hvk k5 b5 => ?_⟩⟩
  have j5 := j4.fb k5 b5
  have tx5 := tx.mono (fb_tp k5)
  obtain ⟨kk0, hkk0, tk0⟩ := pr_get j5.rS hvk
  have mk0 := List.mem_of_getElem? hkk0
  refine ⟨fun σ' H6 => ∃ o6 : Option V, σ' = [some (.ref b), some (.ref W), some (.ref S), some (.ref L), o4, o5, o6, some vx, some vk, none, none, none] ∧ CJ K H6 b c W F S L ks ls as .broken xs ys, ?_, ?_⟩
  · refine ⟨4, rfl, by omega, by omega, for_range (fun i σ H2 => ∃ o6 : Option V, σ = [some (.ref b), some (.ref W), some (.ref S), some (.ref L), o4, o5, o6, some vx, some vk, none, none, none] ∧ CJ K H2 b c W F S L ks ls as .broken xs ys ∧ TK H2 vx kx ∧ TK H2 vk kk0) ⟨_, rfl, j5, tx5, tk0⟩ ?_ (fun σ H2 ⟨o6, e, j, _, _⟩ => ⟨o6, e, j⟩)⟩
    rintro i σ H6 hi ⟨o6'', rfl, j6, t6, u6⟩
    have hi : i < 4 := by omega
    refine ⟨_, rfl, _, rfl, _, rfl, _, rfl, _, rfl, W, F, ks, ls, as, .broken, (0 + (i : Int)), vx, vk, vx, kx, kk0, rfl, j6.web, by omega, by omega, t6, u6, sx, sp kk0 mk0, .inl ⟨nx, rfl⟩, fun H7 s7 => ⟨true, rfl, ?_⟩⟩
    refine ⟨_, rfl, _, rfl, _, rfl, _, rfl, _, rfl, W, F, ks, ls, as, .broken, (0 + (i : Int)), vk, vx, vx, kk0, kx, rfl, (j6.same s7).web, by omega, by omega, u6.mono (same_tp s7), t6.mono (same_tp s7), sp kk0 mk0, sx, .inr ⟨mk0, nx, rfl⟩, fun H8 s8 => ⟨true, rfl, ?_⟩⟩
    exact ⟨_, rfl, (j6.same s7).same s8, t6.mono (same_tp (s7.trans s8)), u6.mono (same_tp (s7.trans s8))⟩
  rintro σ' H6 ⟨o6'', rfl, j6⟩
  -- links_from
  refine ⟨fun σ' H7 => ∃ o9 : Option V, σ' = [some (.ref b), some (.ref W), some (.ref S), some (.ref L), o4, o5, o6'', some vx, some vk, o9, none, none] ∧ CJ K H7 b c W F S L ks ls as .broken xs ys, ?_, ?_⟩
  · refine ⟨_, rfl, S, rfl, ⟨_, SqL.of j6.eS⟩, for_list (K := K) (a := S) (xs := xs) (fun i σ H2 => ∃ o9 : Option V, σ = [some (.ref b), some (.ref W), some (.ref S), some (.ref L), o4, o5, o6'', some vx, some vk, o9, none, none] ∧ CJ K H2 b c W F S L ks ls as .broken xs ys) ⟨_, rfl, j6⟩ (fun i σ H2 _ ⟨_, _, j⟩ => SqL.of j.eS) ?_ (fun σ H2 h => h)⟩
    rintro i x σ H7 hi ⟨o9, rfl, j7⟩
    obtain ⟨k, hk, tk⟩ := pr_get j7.rS hi
    have mk := List.mem_of_getElem? hk
    obtain ⟨dx0, fs0, eW0, lk0⟩ := j7.web.meth "links_from" (by decide)
    refine ⟨_, rfl, W, _, _, rfl, eW0, lk0, _, rfl, W, F, ks, ls, as, .broken, x, k, rfl, j7.web, tk, sp k mk, mk, fun out H8 s8 lv8 => fun p hp => ?_⟩
    have sp8 := s8.trans (same_new (o := .lst out) hp)
    have j8 := j7.same sp8
    refine ⟨_, rfl, L, rfl, ⟨_, SqL.of j8.eL⟩, fun D hD => lc_list (K := K) (a := L) (xs := ys) (fun i H9 => Same (upd H8 p (.lst out)) H9 ∧ ∃ acc, H9 D = some (.lst acc) ∧ acc.length ≤ i ∧ LVs H9 acc (begins k (ls.take i))) ⟨same_new hD, [], upd_same, Nat.le_refl _, .nil⟩ (fun i H9 _ h => SqL.of (h.1 _ _ j8.eL)) ?_ ?_⟩
    · rintro i2 y H9 hy ⟨s9, acc, eA, lA, rA⟩
      obtain ⟨l, hl, lvy⟩ := pr_get (j8.same s9).rL hy
      obtain ⟨q, xa, xb, xz, rfl, eq, hxa, hxb, hxz⟩ := id lvy
      have tk9 := tk.mono (same_tp (sp8.trans s9))
      have hi2 := (List.getElem?_eq_some_iff.mp hy).1
      refine ⟨rfl, _, rfl, q, _, _, _, rfl, rfl, SqT.of eq, atI_nat (j := 0) rfl, _, rfl, _, _, hxa.dp, tk9.dp, hxa.sh, tk9.sh, ?_⟩
      rw [kD_eqv]
      have nl := j7.web.nl
      by_cases hk2 : l.a = k
      · rw [decide_eq_true hk2]
        have e : begins k (ls.take (i2 + 1)) = begins k (ls.take i2) ++ [l] := by
          unfold begins
          rw [take_snoc hl, List.filter_append]
          simp [hk2]
        have tpD : TP H9 (upd H9 D (.lst (acc ++ [.ref q]))) := put_tp eA fun _ z => by cases z
        refine ⟨_, rfl, _, rfl, acc, eA, small1000 (by omega), fun c o ec => ?_, _, upd_same, by simp; omega, ?_⟩
        · rw [upd_ne (ne_of_none ec hD)]
          exact s9 _ _ ec
        · rw [e]
          exact pr_snoc (lvs_mono rA tpD) (lvy.mono tpD)
      · rw [decide_eq_false hk2]
        have e : begins k (ls.take (i2 + 1)) = begins k (ls.take i2) := by
          unfold begins
          rw [take_snoc hl, List.filter_append]
          simp [hk2]
        exact ⟨_, rfl, s9, acc, eA, by omega, by rw [e]; exact rA⟩
    · rintro H9 ⟨s9, acc, eA, lA, rA⟩
      rw [ly, List.take_length] at rA
      have lv9 : LVs H9 out (begins k ls) := lvs_mono lv8 (same_tp ((same_new hp).trans s9))
      refine ⟨_, _, lvs_dp (SqL.of (s9 _ _ upd_same)) lv9, lvs_dp (SqL.of eA) rA, lvs_sh lv9, lvs_sh rA, ?_⟩
      rw [ld_list, decide_eq_true rfl]
      exact ⟨_, rfl, ite2 (fun z => by cases z) (fun _ => ⟨_, rfl, j8.same s9⟩)⟩
  rintro σ' H7 ⟨o9, rfl, j7⟩
  have hx0 : 0 < xs.length := by omega
  refine ⟨_, rfl, S, _, _, _, rfl, rfl, SqL.of j7.eS, atI_nat (j := 0) (List.getElem?_eq_getElem hx0), (show 2 ≤ sizeLine by decide), fun r0 hr0 => ?_⟩
  have s1 := same_new (o := .tup [.int 0, .int 1]) hr0
  refine ⟨(show 2 ≤ sizeLine by decide), fun p0 hp1 => ?_⟩
  have s2 := s1.trans (same_new (o := .tup [xs[0], .ref r0]) hp1)
  refine ⟨(show 1 ≤ sizeLine by decide), fun D hD => ?_⟩
  have s3 := s2.trans (same_new (o := .lst [.ref p0]) hD)
  have j8 := j7.same s3
  refine ⟨fun σ' H9 => ∃ (o9 : Option V) (acc : List V) (wv : WV), σ' = [some (.ref b), some (.ref W), some (.ref S), some (.ref L), o4, o5, o6'', some vx, some vk, o9, some (.ref D), none] ∧ CJ K H9 b c W F S L ks ls as .broken xs ys ∧ H9 D = some (.lst acc) ∧ acc.length = ks.length ∧ PVs H9 acc ks wv ∧ Lows ks wv ∧ wv 0 = (0, 1), ?_, ?_⟩
  · have hD7 : H7 D = none := s2.free hD
    have k8 : FB H7 (upd (upd (upd H7 r0 (.tup [.int 0, .int 1])) p0 (.tup [xs[0], .ref r0])) D (.lst [.ref p0])) := Pres.same s3
    have b8 : Bag (upd (upd (upd H7 r0 (.tup [.int 0, .int 1])) p0 (.tup [xs[0], .ref r0])) D (.lst [.ref p0])) b c := j8.bag
    have cD : c ≠ D := ne_of_none j7.bag.cells.choose_spec hD7
    have e0 : (upd (upd (upd H7 r0 (.tup [.int 0, .int 1])) p0 (.tup [xs[0], .ref r0])) D (.lst [.ref p0])) p0 = some (.tup [xs[0], .ref r0]) := by
      rw [upd_ne (ne_of_none upd_same hD), upd_same]
    have er0 : (upd (upd (upd H7 r0 (.tup [.int 0, .int 1])) p0 (.tup [xs[0], .ref r0])) D (.lst [.ref p0])) r0 = some (.tup [.int 0, .int 1]) := by
      have n1 : r0 ≠ p0 := ne_of_none upd_same hp1
      have q1 : (upd (upd H7 r0 (.tup [.int 0, .int 1])) p0 (.tup [xs[0], .ref r0])) r0 = some (.tup [.int 0, .int 1]) := by rw [upd_ne n1, upd_same]
      rw [upd_ne (ne_of_none q1 hD)]
      exact q1
    have tp8 := fb_tp k8
    obtain ⟨kg, hkg, tkg⟩ := pr_get j8.rS (List.getElem?_eq_getElem hx0)
    have eD8 : (upd (upd (upd H7 r0 (.tup [.int 0, .int 1])) p0 (.tup [xs[0], .ref r0])) D (.lst [.ref p0])) D = some (.lst [.ref p0]) := upd_same
    generalize hH8 : upd (upd (upd H7 r0 (.tup [.int 0, .int 1])) p0 (.tup [xs[0], .ref r0])) D (.lst [.ref p0]) = H8 at k8 b8 e0 er0 tp8 tkg eD8 j8 s3 ⊢
    refine ⟨_, rfl, 1, rfl, S, xs, rfl, SqL.of j8.eS, fun P0 hP0 => ?_⟩
    have hcut : cutV xs (some 1) none = xs.drop 1 := by
      show (xs.drop (min 1 xs.length)).take (xs.length - min 1 xs.length) = xs.drop 1
      rw [Nat.min_eq_left hx0, List.take_of_length_le (by rw [List.length_drop]; exact Nat.le_refl _)]
    rw [hcut]
    have s9 := same_new (o := .lst (xs.drop 1)) hP0
    have nPD : D ≠ P0 := ne_of_none eD8 hP0
    refine ⟨P0, rfl, ⟨_, SqL.of upd_same⟩, for_list (K := K) (a := P0) (xs := xs.drop 1) (fun i σ H2 => ∃ (o9 : Option V) (acc : List V) (wv : WV), σ = [some (.ref b), some (.ref W), some (.ref S), some (.ref L), o4, o5, o6'', some vx, some vk, o9, some (.ref D), none] ∧ H2 P0 = some (.lst (xs.drop 1)) ∧ FB H7 H2 ∧ Bag H2 b c ∧ H2 D = some (.lst acc) ∧ acc.length = i + 1 ∧ PVs H2 acc ks wv ∧ (∀ j, j < i + 1 → Low (wv j)) ∧ wv 0 = (0, 1)) ?_ (fun i σ H2 _ ⟨_, _, _, _, e, _⟩ => SqL.of e) ?_ ?_⟩
    · refine ⟨_, [.ref p0], fun _ => (0, 1), rfl, upd_same, k8.then_new hP0, b8.same s9, s9 _ _ eD8, rfl, fun i x hx => ?_, fun j hj => low1 0, rfl⟩
      cases i with
      | succ i => simp at hx
      | zero =>
        cases hx
        exact ⟨kg, hkg, p0, xs[0], .ref r0, rfl, s9 _ _ e0, tkg.mono (same_tp s9), r0, rfl, s9 _ _ er0⟩
    · rintro i x σ H2 hi ⟨o9', acc, wv, rfl, eP2, k2, b2, eD2, la, pv, low, w0⟩
      have hi1 : xs[i + 1]? = some x := by
        rw [List.getElem?_drop] at hi
        rw [Nat.add_comm]
        exact hi
      have hil := (List.getElem?_eq_some_iff.mp hi1).1
      obtain ⟨k, hk, tk⟩ := pr_get j7.rS hi1
      refine ⟨_, rfl, .inl ⟨rfl, _, SqL.of eD2⟩, _, rfl, _, rfl, b, c, _, rfl, b2, by decide, by decide, fun r H3 r0' r1' k3 b3 => ⟨_, _, rfl, rfl, _, rfl, b, c, _, rfl, b3, by decide, by decide, fun r2 H4 r20 r21 k4 b4 => ⟨_, _, rfl, rfl, _, _, rfl, by omega, by omega, fun p n' d' hp d1 d2 g => ⟨(show 2 ≤ sizeLine by decide), fun q hq => ?_⟩⟩⟩⟩
      have k24 := k3.trans k4
      have eD4 := fb_free k24 eD2 True.intro
      have eP4 := fb_free k24 eP2 True.intro
      have s5 := (same_new (o := .tup [.int n', .int d']) hp).trans (same_new (o := .tup [x, .ref p]) hq)
      have kq := (k2.trans k24).trans (Pres.same s5)
      have eD5 := s5 _ _ eD4
      have tpD : TP (upd (upd H4 p (.tup [.int n', .int d'])) q (.tup [x, .ref p])) (upd (upd (upd H4 p (.tup [.int n', .int d'])) q (.tup [x, .ref p])) D (.lst (acc ++ [.ref q]))) := put_tp eD5 fun _ z => by cases z
      refine ⟨D, acc, .ref q, rfl, rfl, eD5, small1000 (by omega), _, acc ++ [.ref q], fset wv (i + 1) (n', d'), rfl, ?_, kq.then_put hD7, (b4.same s5).putL eD5 cD, upd_same, by rw [List.length_append, la]; rfl, fun j y hy => ?_, fun j hj => ?_, ?_⟩
      · rw [upd_ne nPD.symm]
        exact s5 _ _ eP4
      · have tpa := TP.trans (fb_tp k24) (TP.trans (same_tp s5) tpD)
        by_cases hj : j = i + 1
        · subst hj
          rw [List.getElem?_append_right (by omega), la, Nat.sub_self] at hy
          cases hy
          have npq : p ≠ q := ne_of_none upd_same hq
          refine ⟨k, hk, q, x, .ref p, rfl, tpD _ _ upd_same, (tk.mono (fb_tp (kq.then_put hD7))), ?_⟩
          rw [fset_same]
          exact ⟨p, rfl, tpD _ _ (by rw [upd_ne npq, upd_same])⟩
        · have hja : j < acc.length := by
            have := (List.getElem?_eq_some_iff.mp hy).1
            rw [List.length_append] at this
            simp at this
            omega
          rw [List.getElem?_append_left hja] at hy
          obtain ⟨k', h1, h2⟩ := pv j y hy
          rw [fset_ne hj]
          exact ⟨k', h1, h2.mono tpa⟩
      · by_cases e : j = i + 1
        · rw [e, fset_same]
          exact ⟨d1, d2, g⟩
        · rw [fset_ne e]
          exact low j (by omega)
      · rw [fset_ne (by omega)]
        exact w0
    · rintro σ H2 ⟨o9', acc, wv, rfl, eP2, k2, b2, eD2, la, pv, low, w0⟩
      rw [List.length_drop] at la low
      have el : xs.length - 1 + 1 = xs.length := by omega
      rw [el] at la low
      exact ⟨_, acc, wv, rfl, j7.fb k2 b2, eD2, by omega, pv, fun j hj => low j (by omega), w0⟩
  rintro σ' H9 ⟨o9', acc, wv, rfl, j9, eD, la, pv, low, w0⟩
  obtain ⟨dx1, fs1, eW1, lk1⟩ := j9.web.meth "allows" (by decide)
  refine ⟨_, rfl, W, _, _, rfl, eW1, lk1, _, rfl, ?_⟩
  intro O dx hO hdx hnx
  have sO : Same H9 (upd (upd H9 dx (.own O)) O (.ins (cWorld K) dx [])) := (same_new hdx).trans (same_new (by rw [upd_ne hnx.symm]; exact hO))
  refine ⟨O, dx, D, acc, ks, wv, rfl, upd_same, sO _ _ eD, la, hs, fun i x hx => ?_, low, w0, fun H10 p10 w10 => ⟨rfl, ?_⟩⟩
  · obtain ⟨k, e, q⟩ := pv i x hx
    exact ⟨k, e, q.mono (same_tp sO)⟩
  have s10 := make_same hO hdx p10
  have j10 := j9.same s10
  refine ⟨W, F, O, ks, ls, as, .broken, wv, rfl, j10.web, w10, low, fun H11 s11 => ?_⟩
  rw [all_keeps_false j10.web.bnd low np]
  have j11 := j10.same s11
  have fin := kk H11 j11.bag j11.web ⟨⟨xs, j11.eS, j11.rS⟩, nd, g0, sp⟩ ⟨ys, j11.eL, j11.rL⟩
  exact ⟨_, _, rfl, rfl, fin⟩
end
end Ell
set_option maxHeartbeats 4000000
namespace Ell
open PySem PySem.Spec PyProof.Rows L2
/-! ### rings and tables -/
theorem nd_starts {ks : List (List Key)} : ∀ {rl : List Lk} {r : List Arc}, Paired (ArcOf ks) rl r → (rl.map (·.a)).Nodup → (starts r).Nodup
  | _, _, .nil, _ => List.nodup_nil
  | _, _, .cons (a := l) (b := e) (l₁ := rl) (l₂ := r) o t, h => by
    obtain ⟨h1, h2⟩ := List.nodup_cons.mp h
    refine List.nodup_cons.mpr ⟨fun m => h1 ?_, nd_starts t h2⟩
    obtain ⟨e', he', ee⟩ := List.mem_map.mp m
    obtain ⟨i, hi⟩ := List.mem_iff_getElem?.mp he'
    obtain ⟨l', hl', o'⟩ := pr_get2 t hi
    have q := o'.1
    rw [ee, o.1] at q
    exact List.mem_map.mpr ⟨l', List.mem_of_getElem? hl', (Option.some.inj q).symm⟩
/-- links that go on, as arcs, each of its link -/
theorem links_arcs2 {ks : List (List Key)} (hk : ks.Nodup) {ls : List Lk} {as : List Arc} (h : Arcs ks ls as) : ∀ {rl : List Lk} {a b : List Key} {i : Nat}, (∀ l ∈ rl, l ∈ ls) → LkW rl a b → ks[i]? = some a → ∃ r j, Walk as r i j ∧ ks[j]? = some b ∧ Paired (ArcOf ks) rl r
  | [], a, b, i, _, w, ha => by
    have e : a = b := w
    subst e
    exact ⟨[], i, .nil, ha, .nil⟩
  | l :: rl, a, b, i, m, w, ha => by
    obtain ⟨h1, h2⟩ := w
    obtain ⟨e, he, o⟩ := arc_of_mem h (m l List.mem_cons_self)
    obtain ⟨r, j, w', hb, es⟩ := links_arcs2 hk h (rl := rl) (fun x hx => m x (List.mem_cons_of_mem _ hx)) h2 o.2.1
    have e1 : e.1 = i := nd_ix hk (o.1.trans (by rw [h1])) ha
    subst e1
    exact ⟨e :: r, j, Walk.cons he w', hb, .cons o es⟩
/-- a ring below 0 shows in the table -/
theorem ring_tab {ks : List (List Key)} (hk : ks.Nodup) {ls rl : List Lk} {as : List Arc} {T : Tb} (h : Arcs ks ls as) (hN : ∀ e ∈ as, e.1 < ks.length ∧ e.2.1 < ks.length) (ht : Tab as ks.length T) (hr : RingOk ls rl) : ∃ a z, a < ks.length ∧ T a a = some z ∧ z < 0 := by
  obtain ⟨a, ha⟩ := hr.c
  match rl, hr, ha with
  | [], hr, _ => exact absurd rfl hr.ne
  | l :: rl, hr, ha =>
    obtain ⟨e, he, o⟩ := arc_of_mem h (hr.m l List.mem_cons_self)
    obtain ⟨r, j, w, hb, es⟩ := links_arcs2 hk h hr.m ha (o.1.trans (by rw [ha.1]))
    have e1 : j = e.1 := nd_ix hk hb (o.1.trans (by rw [ha.1]))
    subst e1
    have neg := hr.neg
    rw [ring_sum es] at neg
    have ne : r ≠ [] := fun z => by
      subst z
      cases es
    obtain ⟨h1, z, h2, h3⟩ := ht.ring hN w ne (nd_starts es hr.nd) neg
    exact ⟨_, z, h1, h2, h3⟩
def NoRing (ls : List Lk) : Prop := ∀ r, ¬ RingOk ls r
theorem no_ring {ks : List (List Key)} (hk : ks.Nodup) {ls : List Lk} {as : List Arc} {T : Tb} (h : Arcs ks ls as) (hN : ∀ e ∈ as, e.1 < ks.length ∧ e.2.1 < ks.length) (ht : Tab as ks.length T) (hs : ∀ k z, k < ks.length → T k k = some z → 0 ≤ z) : NoRing ls := fun r hr => by
  obtain ⟨a, z, h1, h2, h3⟩ := ring_tab hk h hN ht hr
  have := hs a z h1 h2
  omega
theorem no_pot {as : List Arc} {N k : Nat} {T : Tb} {z : Int} (ht : Tab as N T) (e : T k k = some z) (hz : z < 0) : NoPot as := fun p hp => by
  have := ht.sound hp e
  omega
theorem pot_noring {ks : List (List Key)} (hk : ks.Nodup) {ls : List Lk} {as : List Arc} {p : Nat → Int} (h : Arcs ks ls as) (hp : Pot as p) : NoRing ls := fun _ hr => hr.no hk h hp
/-! ### a ring loosened -/
def absum : List Lk → Int
  | [] => 0
  | l :: r => (l.w.natAbs : Int) + absum r
theorem absum_perm {a b : List Lk} (p : a.Perm b) : absum a = absum b := by
  induction p with
  | nil => rfl
  | cons x _ ih => simp only [absum, ih]
  | swap x y l => simp only [absum]; omega
  | trans _ _ h1 h2 => exact h1.trans h2
theorem absum_pos : ∀ l : List Lk, 0 ≤ absum l
  | [] => Int.le_refl _
  | l :: r => by
    have := absum_pos r
    simp only [absum]
    omega
theorem nd_sum : ∀ {r ms : List Lk}, r.Nodup → (∀ l ∈ r, l ∈ ms) → - absum ms ≤ lsum r
  | [], ms, _, _ => by
    have := absum_pos ms
    simp only [lsum]
    omega
  | l :: r, ms, nd, m => by
    obtain ⟨h1, h2⟩ := List.nodup_cons.mp nd
    have hp : ms.Perm (l :: ms.erase l) := List.perm_cons_erase (m l List.mem_cons_self)
    have ih := nd_sum (r := r) (ms := ms.erase l) h2 fun x hx => (List.mem_erase_of_ne (fun z => h1 (by rw [← z]; exact hx))).mpr (m x (List.mem_cons_of_mem _ hx))
    rw [absum_perm hp]
    simp only [absum, lsum]
    omega
theorem abs_le : ∀ {ms : List Lk} {l : Lk}, l ∈ ms → (l.w.natAbs : Int) ≤ absum ms
  | m :: ms, l, h => by
    have := absum_pos ms
    simp only [absum]
    rcases List.mem_cons.mp h with rfl | h
    · omega
    · have := abs_le h
      omega
theorem lsum_split (f : Int) : ∀ r : List Lk, lsum r = lsum (r.filter fun l => decide (l.w = f)) + lsum (r.filter fun l => !decide (l.w = f))
  | [] => rfl
  | l :: r => by
    have ih := lsum_split f r
    by_cases h : l.w = f
    · simp only [List.filter_cons, h, decide_true, Bool.not_true, if_true, lsum, ih]
      simp
      omega
    · simp only [List.filter_cons, h, decide_false, Bool.not_false, lsum]
      simp [lsum]
      omega
theorem lsum_all {f : Int} (hf : 0 < f) : ∀ {r : List Lk}, (∀ l ∈ r, l.w = f) → 0 ≤ lsum r ∧ (r ≠ [] → f ≤ lsum r)
  | [], _ => ⟨Int.le_refl _, fun h => absurd rfl h⟩
  | l :: r, h => by
    have h1 := h l List.mem_cons_self
    have h2 := (lsum_all hf (r := r) fun x hx => h x (List.mem_cons_of_mem _ hx)).1
    simp only [lsum]
    exact ⟨by omega, fun _ => by omega⟩
theorem nd_of_map {α β : Type} (f : α → β) : ∀ {l : List α}, (l.map f).Nodup → l.Nodup
  | [], _ => List.nodup_nil
  | a :: l, h => by
    obtain ⟨h1, h2⟩ := List.nodup_cons.mp h
    exact List.nodup_cons.mpr ⟨fun m => h1 (List.mem_map.mpr ⟨a, m, rfl⟩), nd_of_map f h2⟩
/-- the far bound -/
def farOf (ls : List Lk) : Int := 1 + absum ls
theorem far_pos (ls : List Lk) : 0 < farOf ls := by
  have := absum_pos ls
  unfold farOf
  omega
theorem far_no {ls : List Lk} {l : Lk} (h : l ∈ ls) : l.w ≠ farOf ls := by
  have := abs_le h
  unfold farOf
  omega
theorem ring_near {ls ms r : List Lk} (hm : ∀ m ∈ ms, m ∈ ls ∨ m.w = farOf ls) (hr : RingOk ms r) {l : Lk} (hl : l ∈ r) : l.w ≠ farOf ls := fun e => by
  have nd := nd_of_map _ hr.nd
  have s := lsum_split (farOf ls) r
  have a := lsum_all (far_pos ls) (r := r.filter fun l => decide (l.w = farOf ls)) fun x hx => of_decide_eq_true (List.mem_filter.mp hx).2
  have ne : (r.filter fun l => decide (l.w = farOf ls)) ≠ [] := List.ne_nil_of_mem (List.mem_filter.mpr ⟨hl, decide_eq_true e⟩)
  have b := nd_sum (r := r.filter fun l => !decide (l.w = farOf ls)) (ms := ls) (nd.filter _) fun x hx => by
    obtain ⟨h1, h2⟩ := List.mem_filter.mp hx
    rcases hm x (hr.m x h1) with q | q
    · exact q
    · rw [decide_eq_true q] at h2
      cases h2
  have c := a.2 ne
  have d := hr.neg
  have f : farOf ls = 1 + absum ls := rfl
  omega
/-- how many links are not far yet -/
def nearN (f : Int) (ms : List Lk) : Nat := ms.countP fun l => !decide (l.w = f)
theorem near_set {f : Int} {ms : List Lk} {p : Nat} {l : Lk} (h : ms[p]? = some l) (hl : l.w ≠ f) : nearN f (ms.set p ⟨l.a, l.b, f, l.y⟩) + 1 = nearN f ms := by
  obtain ⟨hp, e⟩ := List.getElem?_eq_some_iff.mp h
  unfold nearN
  have pos : 0 < ms.countP fun l => !decide (l.w = f) := List.countP_pos_iff.mpr ⟨l, List.mem_of_getElem? h, by simp [hl]⟩
  rw [List.countP_set hp, e]
  simp [hl]
  omega
theorem near_pos {f : Int} {ms : List Lk} {l : Lk} (h : l ∈ ms) (hl : l.w ≠ f) : 1 ≤ nearN f ms := List.countP_pos_iff.mpr ⟨l, h, by simp [hl]⟩
/-- the links so far -/
structure Loosd (ks : List (List Key)) (ls ms : List Lk) (as : List Arc) (i : Nat) : Prop where
  len : ms.length = ls.length
  or_ : ∀ m ∈ ms, m ∈ ls ∨ m.w = farOf ls
  cnt : nearN (farOf ls) ms + i ≤ ls.length
  wf : WF ks ms
  td : Tied ks ms
  ar : Arcs ks ms as
theorem Loosd.start {ks : List (List Key)} {ls : List Lk} {as : List Arc} (wf : WF ks ls) (td : Tied ks ls) (ar : Arcs ks ls as) : Loosd ks ls ls as 0 :=
  ⟨rfl, fun _ h => .inl h, by
    have : nearN (farOf ls) ls ≤ ls.length := List.countP_le_length
    omega, wf, td, ar⟩
theorem WF.set {ks : List (List Key)} {ms : List Lk} {p : Nat} {l : Lk} (h : WF ks ms) (e : ms[p]? = some l) (f : Int) : WF ks (ms.set p ⟨l.a, l.b, f, l.y⟩) := by
  have ml := List.mem_of_getElem? e
  have key : ∀ x ∈ ms.set p ⟨l.a, l.b, f, l.y⟩, ∃ m ∈ ms, x.a = m.a ∧ x.b = m.b ∧ x.y = m.y := fun x hx => by
    rcases List.mem_or_eq_of_mem_set hx with q | q
    · exact ⟨x, q, rfl, rfl, rfl⟩
    · exact ⟨l, ml, by rw [q], by rw [q], by rw [q]⟩
  refine ⟨fun x hx => ?_, fun x hx => ?_, fun x hx => ?_, fun x hx => ?_⟩ <;> obtain ⟨m, hm, e1, e2, e3⟩ := key x hx
  · rw [e1]; exact h.a m hm
  · rw [e2]; exact h.b m hm
  · rw [e1, e2]; exact h.ne m hm
  · rw [e3]; exact h.y m hm
theorem Tied.set {ks : List (List Key)} {ms : List Lk} {p : Nat} {l : Lk} (h : Tied ks ms) (e : ms[p]? = some l) (f : Int) : Tied ks (ms.set p ⟨l.a, l.b, f, l.y⟩) := h.mono fun x hx => by
  obtain ⟨j, hj⟩ := List.mem_iff_getElem?.mp hx
  by_cases q : p = j
  · subst q
    rw [e] at hj
    cases hj
    have hp := (List.getElem?_eq_some_iff.mp e).1
    exact ⟨⟨l.a, l.b, f, l.y⟩, List.mem_of_getElem? (i := p) (by rw [List.getElem?_set, if_pos rfl, if_pos hp]), rfl, rfl⟩
  · exact ⟨x, List.mem_of_getElem? (i := j) (by rw [List.getElem?_set, if_neg q]; exact hj), rfl, rfl⟩
theorem Loosd.set {ks : List (List Key)} {ls ms r : List Lk} {as : List Arc} {i p : Nat} {l : Lk} (h : Loosd ks ls ms as i) (hr : RingOk ms r) (hl : l ∈ r) (e : ms[p]? = some l) : ∃ as', Loosd ks ls (ms.set p ⟨l.a, l.b, farOf ls, l.y⟩) as' (i + 1) := by
  have hn := ring_near h.or_ hr hl
  obtain ⟨a, ha, o⟩ := pr_get2 (R := fun a l => ArcOf ks l a) (xs := as) (ys := ms) (by
    have : ∀ {ms : List Lk} {as : List Arc}, Arcs ks ms as → Paired (fun a l => ArcOf ks l a) as ms := by
      intro ms as q
      induction q with
      | nil => exact .nil
      | cons r _ ih => exact .cons r ih
    exact this h.ar) e
  refine ⟨as.set p (a.1, a.2.1, farOf ls), by rw [List.length_set]; exact h.len, fun m hm => ?_, ?_, h.wf.set e _, h.td.set e _, pr_set (R := ArcOf ks) (x := ⟨l.a, l.b, farOf ls, l.y⟩) (y := (a.1, a.2.1, farOf ls)) ⟨o.1, o.2.1, rfl⟩ p h.ar⟩
  · rcases List.mem_or_eq_of_mem_set hm with q | q
    · exact h.or_ m q
    · right
      rw [q]
  · have := near_set e hn
    have := h.cnt
    omega
theorem Loosd.lt {ks : List (List Key)} {ls ms r : List Lk} {as : List Arc} {i : Nat} (h : Loosd ks ls ms as i) (hr : RingOk ms r) : i < ls.length := by
  match r, hr with
  | [], hr => exact absurd rfl hr.ne
  | l :: r, hr =>
    have := near_pos (hr.m l List.mem_cons_self) (ring_near h.or_ hr List.mem_cons_self)
    have := h.cnt
    omega
end Ell
set_option maxHeartbeats 4000000
namespace Ell
open PySem PySem.Spec PyProof.Rows L2
/-! ### a web that has worlds -/
/-- all but the web's two objects, the bag -/
abbrev FWB (W F : Addr) : Hp → Hp → Prop := Pres fun c o => c ≠ W ∧ c ≠ F ∧ NDK o
theorem fwb_w {W F : Addr} {H H' : Hp} (k : FWb W F H H') : FWB W F H H' := k.weak fun c o h => ⟨h.1, h.2.1⟩
theorem fwb_b {W F : Addr} {H H' : Hp} (k : FB H H') : FWB W F H H' := k.weak fun c o h => h.2.2
theorem fwb_s {W F : Addr} {H H' : Hp} (k : Same H H') : FWB W F H H' := Pres.same k
structure HJ (K : PySem.W.Frag) (H : Hp) (b c W F S L R : Addr) (ks : List (List Key)) (ls : List Lk) (as : List Arc) (st : WState) (Tb : Tb) : Prop where
  bag : Bag H b c
  web : WebAt K H W F ks ls as st
  sp : SpotsAt H S ks
  li : LinksAt H L ls
  ta : TabAt H R ks.length Tb
theorem HJ.fb {K : PySem.W.Frag} {H H' : Hp} {b c W F S L R : Addr} {ks : List (List Key)} {ls : List Lk} {as : List Arc} {st : WState} {Tb : Tb} (h : HJ K H b c W F S L R ks ls as st Tb) (k : FB H H') (hb : Bag H' b c) : HJ K H' b c W F S L R ks ls as st Tb :=
  ⟨hb, h.web.fb k, h.sp.fb k, h.li.fb k, h.ta.fb k⟩
theorem HJ.same {K : PySem.W.Frag} {H H' : Hp} {b c W F S L R : Addr} {ks : List (List Key)} {ls : List Lk} {as : List Arc} {st : WState} {Tb : Tb} (h : HJ K H b c W F S L R ks ls as st Tb) (k : Same H H') : HJ K H' b c W F S L R ks ls as st Tb :=
  ⟨h.bag.same k, h.web.same k, h.sp.same k, h.li.same k, h.ta.same k⟩
theorem HJ.fwb {K : PySem.W.Frag} {H H' : Hp} {b c W F S L R : Addr} {ks : List (List Key)} {ls : List Lk} {as : List Arc} {st st' : WState} {Tb : Tb} (h : HJ K H b c W F S L R ks ls as st Tb) (k : FWb W F H H') (w : WebAt K H' W F ks ls as st') : HJ K H' b c W F S L R ks ls as st' Tb :=
  ⟨h.web.bag k h.bag, w, h.web.spots k h.sp, h.web.links k h.li, h.web.tab k h.ta⟩
def spHasWorlds (K : PySem.W.Frag) : Sp := fun vs H Q _ => ∃ (b c W F S L R : Addr) (ks : List (List Key)) (ls : List Lk) (as : List Arc) (st : WState) (Tb : Tb), vs = [.ref b, .ref W, .ref S, .ref L, .ref R] ∧ HJ K H b c W F S L R ks ls as st Tb ∧ Tab as ks.length Tb ∧ NoRing ls ∧
  ∀ H', FWB W F H H' → HJ K H' b c W F S L R ks ls as .sound Tb → Q (.bl true) H'
/-- a world of the links -/
def GoodW (K : PySem.W.Frag) (H : Hp) (x : V) (ks : List (List Key)) (as : List Arc) : Prop := ∃ (O : Addr) (wv : WV), x = .ref O ∧ WorldAt K H O ks wv ∧ Lows ks wv ∧ wv 0 = (0, 1) ∧ ∀ e ∈ as, Keeps (wv e.1) (wv e.2.1) e.2.2
theorem GoodW.same {K : PySem.W.Frag} {H H' : Hp} {x : V} {ks : List (List Key)} {as : List Arc} (h : GoodW K H x ks as) (k : Same H H') : GoodW K H' x ks as := by
  obtain ⟨O, wv, h1, h2, h3⟩ := h
  exact ⟨O, wv, h1, h2.same k, h3⟩
theorem clash0 {K : PySem.W.Frag} {H : Hp} {W F : Addr} {ks : List (List Key)} {ls : List Lk} {as : List Arc} {E : XK} (nr : NoRing ls) : ClashE K E H W F ks ls as := fun _ _ _ r _ _ _ hr _ => absurd hr (nr r)
theorem two0 {K : PySem.W.Frag} {H : Hp} {W F : Addr} {ks : List (List Key)} {ls : List Lk} {as : List Arc} {E : XK} {va vb : V} {ka kb : List Key} (nr : NoRing ls) (ha : ka ∈ ks) (hb : kb ∈ ks) : TwoE K E H W F ks ls as va vb ka kb :=
  ⟨fun h => absurd ha h, fun _ h => absurd hb h, fun _ _ => clash0 nr⟩
/-- worlds stand in a web's frame -/
theorem WebAt.world {K : PySem.W.Frag} {H H' : Hp} {W F O : Addr} {ks : List (List Key)} {ls : List Lk} {as : List Arc} {st : WState} {wv : WV} (h : WebAt K H W F ks ls as st) (k : FWb W F H H') (o : WorldAt K H O ks wv) : WorldAt K H' O ks wv := by
  obtain ⟨dx, Tb, kvs, e1, e2, t⟩ := o
  obtain ⟨dw, S, D, L, lv, br, on, bk, kw, eW, _, _, _, _, ⟨fk, eF, _, fks, _⟩, _, _⟩ := h.ex
  have nTF : Tb ≠ F := fun z => by
    subst z
    rw [e2] at eF
    cases eF
    have g : groundK ∈ kvs.map (·.1) := by
      rw [t.keys, List.take_length]
      exact List.mem_of_getElem? h.sp.g
    obtain ⟨p, _, q⟩ := fks _ g
    rcases q with q | q
    · injection q with _ q
      injection q with _ q
      cases q
    · injection q with _ q
      injection q with _ q
      cases q
  refine ⟨dx, Tb, kvs, k.k _ _ e1 ⟨fun z => ?_, ne_of e1 eF fun z => by cases z⟩, k.k _ _ e2 ⟨ne_of e2 eW fun z => (by cases z), nTF⟩, t.mono (h.tp k)⟩
  subst z
  rw [eW] at e1
  injection e1 with e1
  injection e1 with _ _ q
  cases congrArg List.length q
section
variable {P : Program} {w : World} {K : PySem.W.Frag} {mg : Str → Option Value} {base : Heap}
theorem ok_has_worlds (T : Tx K mg) (c_Web_bad_ring : CalM P w K mg base CX0 3 (cWeb K) "bad_ring" ["self"] [] (spBadRing K)) (c_l_pick : Cal P w K mg base CX0 1 "_law_pick" ["_law_bag", "_law_many"] [] spPick) (c_Web_highest : CalM P w K mg base (L2N.CX P w) 7 (cWeb K) "highest" ["self"] [] (spHigh K)) (c_Web_lowest : CalM P w K mg base (L2N.CX P w) 6 (cWeb K) "lowest" ["self"] [] (spLow K)) (c_Web_reaching : CalM P w K mg base (L2N.CX P w) 7 (cWeb K) "reaching" ["self", "a", "b"] [] (spReach K)) (c_l_values_of : Cal P w K mg base CX0 5 "_law_values_of" ["_law_world", "_law_spots"] [] (spValues K)) (c_l_allowed : Cal P w K mg base CX0 2 "_law_allowed" ["_law_values", "_law_links"] [] spAllowed) (c_Web_bound : CalM P w K mg base (L2N.CX P w) 5 (cWeb K) "bound" ["self", "a", "b"] [] (spBound K)) (c_l_integer : Cal P w K mg base CX0 1 "_law_integer" ["_law_thing"] [] spInt) : Cal P w K mg base CX0 8 "_law_has_worlds" ["_law_bag", "_law_web", "_law_spots", "_law_links", "_law_rows"] [] (spHasWorlds K) := by
  obtain ⟨fd, F⟩ := T.f_l_has_worlds
  refine ⟨_, fd, [], F.ok sc_l_has_worlds (fun vs H Q E h => ?_) (fun cdv A outer s H vs Q E hr h => ?_), T.g_l_has_worlds, F.kp, F.bindsN fun _ _ _ _ _ _ us hl => match us, hl with | [_, _, _, _, _], _ => rfl, .nil⟩
  · obtain ⟨b, c, W, F, S, L, R, ks, ls, as, st, Tb, rfl, _⟩ := h
    rfl
  obtain ⟨b, c, W, F, S, L, R, ks, ls, as, st, Tb, rfl, J, tab, nr, kk⟩ := h
  refine ⟨_, PSs.nox ((pss_cons (ps_if (pt_cmpR op_notN (pmeth0 c_Web_bad_ring hr (pv 1)) pe_non (nomark _)) (pss_one (ps_ret pe_bl)) pss_nil)
        (pss_cons (ps_set (i := 5) sc_l_has_worlds.nd rfl (Or.inl rfl) (pcall c_l_pick hr (pa_cons (pv 0) (pa_cons (pe_callB (call_lenK K) (by rfl) T.b_len PySem.boot_len (pa_cons (pv 2) pa_nil)) pa_nil))))
        (pss_cons (ps_set (i := 6) sc_l_has_worlds.nd rfl (Or.inl rfl) (pcall c_l_pick hr (pa_cons (pv 0) (pa_cons (pe_callB (call_lenK K) (by rfl) T.b_len PySem.boot_len (pa_cons (pv 2) pa_nil)) pa_nil))))
        (pss_cons (ps_for PassesOwn.never rfl (pi_listK K (pe_lst (pa_cons (pmeth0E c_Web_highest hr passN0 (pv 1)) (pa_cons (pmeth0E c_Web_lowest hr passN0 (pv 1)) (pa_cons (pmethE c_Web_reaching hr passN0 (pv 1) (pa_cons (pe_ix (ix_listK K) (pv 2) (pv 5) (fun _ _ => rfl)) (pa_cons (pe_ix (ix_listK K) (pv 2) (pv 6) (fun _ _ => rfl)) pa_nil))) pa_nil))))) (pg_name (i := 7) sc_l_has_worlds.nd rfl (Or.inl rfl))
          (pss_one (ps_if (pt_not (pt_val (pcall c_l_allowed hr (pa_cons (pcall c_l_values_of hr (pa_cons (pv 7) (pa_cons (pv 2) pa_nil))) (pa_cons (pv 3) pa_nil))))) (pss_one (ps_ret pe_bl)) pss_nil)))
        (pss_cons (ps_set (i := 8) sc_l_has_worlds.nd rfl (Or.inl rfl) (pmethE c_Web_bound hr passN0 (pv 1) (pa_cons (pe_ix (ix_listK K) (pv 2) (pv 5) (fun _ _ => rfl)) (pa_cons (pe_ix (ix_listK K) (pv 2) (pv 6) (fun _ _ => rfl)) pa_nil))))
        (pss_one (ps_ret (pe_and (pcall c_l_integer hr (pa_cons (pv 8) pa_nil)) (pe_one (pe_cmpR op_eq (pv 8) (pe_ix (ix_listK K) (pe_ix (ix_listK K) (pv 4) (pv 5) (fun _ _ => rfl)) (pv 6) (fun _ _ => rfl)) (nomark _)))))))))))), ?_⟩
  obtain ⟨dx0, fs0, eW0, lk0⟩ := J.web.meth "bad_ring" (by decide)
  refine ⟨_, rfl, W, _, _, rfl, eW0, lk0, W, F, ks, ls, as, st, rfl, J.web, fun H1 k1 w1 => ⟨rfl, _, rfl, ite2 (fun z => by cases z) (fun _ => ?_)⟩, fun H1 Br r k1 w1 hB hr => absurd hr (nr r)⟩
  have J1 := J.fwb k1 w1
  obtain ⟨⟨xs, eS1, rS1⟩, nd, g0, isp⟩ := id J1.sp
  have hs := J.web.sp
  have hn := hs.n
  have hpos := hs.pos
  have lx := pr_len rS1
  refine ⟨_, rfl, _, rfl, _, xs.length, rfl, .inl ⟨_, SqL.of eS1, rfl⟩, b, c, _, rfl, J1.bag, by omega, by omega, fun r H2 r0 r1 k2 b2 => ?_⟩
  have J2 := J1.fb k2 b2
  have eS2 := fb_free k2 eS1 True.intro
  obtain ⟨ia, rfl, hia⟩ := pos_nat r0 r1
  refine ⟨_, rfl, _, rfl, _, xs.length, rfl, .inl ⟨_, SqL.of eS2, rfl⟩, b, c, _, rfl, J2.bag, by omega, by omega, fun r H3 r0 r1 k3 b3 => ?_⟩
  have J3 := J2.fb k3 b3
  have eS3 := fb_free k3 eS2 True.intro
  obtain ⟨ib, rfl, hib⟩ := pos_nat r0 r1
  have hia : ia < xs.length := by omega
  have hib : ib < xs.length := by omega
  obtain ⟨ka, hka, tka3⟩ := pr_get (tks_mono rS1 (fb_tp (k2.trans k3))) (List.getElem?_eq_getElem hia)
  obtain ⟨kb, hkb, tkb3⟩ := pr_get (tks_mono rS1 (fb_tp (k2.trans k3))) (List.getElem?_eq_getElem hib)
  have ma := List.mem_of_getElem? hka
  have mb := List.mem_of_getElem? hkb
  -- the three worlds
  obtain ⟨dx3, fs3, eW3, lk3⟩ := J3.web.meth "highest" (by decide)
  refine ⟨_, rfl, W, _, _, rfl, eW3, lk3, W, F, ks, ls, as, .sound, rfl, J3.web, fun H4 O1 d1 k4 w4 di1 wo1 => ?_, clash0 nr⟩
  have J4 := J3.fwb k4 w4
  obtain ⟨dx4, fs4, eW4, lk4⟩ := J4.web.meth "lowest" (by decide)
  refine ⟨_, rfl, W, _, _, rfl, eW4, lk4, W, F, ks, ls, as, .sound, rfl, J4.web, fun H5 O2 d2 k5 w5 di2 wo2 => ?_, clash0 nr⟩
  have J5 := J4.fwb k5 w5
  obtain ⟨dx5, fs5, eW5, lk5⟩ := J5.web.meth "reaching" (by decide)
  refine ⟨_, rfl, W, _, _, rfl, eW5, lk5, _, rfl, _, rfl, S, _, _, _, rfl, rfl, SqL.of (J4.web.lt k5 (J3.web.lt k4 eS3 True.intro) True.intro), atI_nat (List.getElem?_eq_getElem hia), _, rfl, _, rfl, S, _, _, _, rfl, rfl, SqL.of (J4.web.lt k5 (J3.web.lt k4 eS3 True.intro) True.intro), atI_nat (List.getElem?_eq_getElem hib), ?_⟩
  have eS5 := J4.web.lt k5 (J3.web.lt k4 eS3 True.intro) True.intro
  have t35 := TP.trans (J3.web.tp k4) (J4.web.tp k5)
  refine ⟨W, F, ks, ls, as, .sound, _, _, ka, kb, rfl, J5.web, tka3.mono t35, tkb3.mono t35, isp ka ma, isp kb mb, fun i j H6 O3 d3 hi hj k6 w6 di3 wo3 => ?_, two0 nr ma mb⟩
  have J6 := J5.fwb k6 w6
  have eS6 := J5.web.lt k6 eS5 True.intro
  have W1 := J5.web.world k6 (J4.web.world k5 wo1)
  have W2 := J5.web.world k6 wo2
  have g1 : GoodW K H6 (.ref O1) ks as := ⟨O1, _, rfl, W1, fun j _ => low1 _, by unfold gw; rw [Int.sub_self], keeps_gw di1.pot⟩
  have g2 : GoodW K H6 (.ref O2) ks as := ⟨O2, _, rfl, W2, fun j _ => low1 _, by unfold lw; rw [di2.s0]; rfl, keeps_lw di2.pot⟩
  have g3 : GoodW K H6 (.ref O3) ks as := ⟨O3, _, rfl, wo3, fun j _ => low1 _, by unfold gw; rw [Int.sub_self], keeps_gw di3.pot⟩
  refine ⟨(show 3 ≤ sizeLine by decide), fun p hp => ?_⟩
  have s7 := same_new (o := .lst [.ref O1, .ref O2, .ref O3]) hp
  have gs : ∀ (i : Nat) x, ([.ref O1, .ref O2, .ref O3] : List V)[i]? = some x → GoodW K (upd H6 p (.lst [.ref O1, .ref O2, .ref O3])) x ks as := fun i x hx => by
    match i, hx with
    | 0, hx => cases hx; exact g1.same s7
    | 1, hx => cases hx; exact g2.same s7
    | 2, hx => cases hx; exact g3.same s7
    | _ + 3, hx => simp at hx
  have eP : (upd H6 p (.lst [.ref O1, .ref O2, .ref O3])) p = some (.lst [.ref O1, .ref O2, .ref O3]) := upd_same
  have J7 := J6.same s7
  have eS7 := s7 _ _ eS6
  have fr7 : FWB W F H (upd H6 p (.lst [.ref O1, .ref O2, .ref O3])) := (((((fwb_w k1).trans (fwb_b (k2.trans k3))).trans (fwb_w k4)).trans (fwb_w k5)).trans (fwb_w k6)).trans (fwb_s s7)
  generalize hH7 : upd H6 p (.lst [.ref O1, .ref O2, .ref O3]) = H7 at s7 gs eP J7 eS7 fr7 ⊢
  refine ⟨p, rfl, ⟨_, SqL.of eP⟩, for_list (K := K) (a := p) (xs := [.ref O1, .ref O2, .ref O3]) (fun i σ H2 => ∃ o7 : Option V, σ = [some (.ref b), some (.ref W), some (.ref S), some (.ref L), some (.ref R), some (.int ia), some (.int ib), o7, none] ∧ Same H7 H2) ⟨_, rfl, Same.refl _⟩ (fun i σ H2 _ ⟨_, _, s⟩ => SqL.of (s _ _ eP)) ?_ ?_⟩
  · rintro i x σ H8 hi ⟨o7, rfl, s8⟩
    obtain ⟨O, wv, rfl, wo, low, w0, kp⟩ := (gs i x hi).same s8
    have J8 := J7.same s8
    refine ⟨_, rfl, _, rfl, O, S, ks, wv, rfl, wo, low, J8.sp, hs, fun H9 D kvs s9 _ eD tD => ?_⟩
    have J9 := J8.same s9
    exact ⟨_, rfl, D, L, kvs, ks, wv, ls, as, rfl, eD, tD, low, w0, hs, J9.li, J9.web.ar, kp, fun H10 s10 => ⟨true, rfl, _, rfl, (s8.trans s9).trans s10⟩⟩
  rintro σ H8 ⟨o7, rfl, s8⟩
  have J8 := J7.same s8
  obtain ⟨dx8, fs8, eW8, lk8⟩ := J8.web.meth "bound" (by decide)
  have eS8 := s8 _ _ eS7
  obtain ⟨ka', hka', tka8⟩ := pr_get (tks_mono rS1 (TP.trans (fb_tp (k2.trans k3)) (TP.trans t35 (TP.trans (J5.web.tp k6) (same_tp (s7.trans s8)))))) (List.getElem?_eq_getElem hia)
  rw [hka] at hka'
  cases hka'
  obtain ⟨kb', hkb', tkb8⟩ := pr_get (tks_mono rS1 (TP.trans (fb_tp (k2.trans k3)) (TP.trans t35 (TP.trans (J5.web.tp k6) (same_tp (s7.trans s8)))))) (List.getElem?_eq_getElem hib)
  rw [hkb] at hkb'
  cases hkb'
  refine ⟨_, rfl, W, _, _, rfl, eW8, lk8, _, rfl, _, rfl, S, _, _, _, rfl, rfl, SqL.of eS8, atI_nat (List.getElem?_eq_getElem hia), _, rfl, _, rfl, S, _, _, _, rfl, rfl, SqL.of eS8, atI_nat (List.getElem?_eq_getElem hib), ?_⟩
  refine ⟨W, F, ks, ls, as, .sound, _, _, ka, kb, rfl, J8.web, tka8, tkb8, isp ka ma, isp kb mb, fun i j H9 d hi hj k9 w9 di => ?_, two0 nr ma mb⟩
  have J9 := J8.fwb k9 w9
  cases nd_ix nd hi hka
  cases nd_ix nd hj hkb
  obtain ⟨rs, lrs, tt⟩ := id J9.ta
  have hra : rs[ia]? = some rs[ia] := List.getElem?_eq_getElem (by omega)
  have hv : Tb ia ib = some (d ib) := tab.dist J9.web.bnd di (by omega) (by omega)
  refine ⟨_, rfl, _, rfl, true, rfl, _, rfl, _, rfl, _, rfl, R, _, _, _, rfl, rfl, SqL.of tt.e, atI_nat (by rw [List.getElem?_map, hra]; rfl), _, rfl, _, _, _, .int (d ib), rfl, rfl, SqL.of (tt.row ia _ hra), ?_, rfl, ?_⟩
  · rw [fl_at rfl (by omega), hv]
    rfl
  rw [decide_eq_true rfl]
  exact kk _ (((fr7.trans (fwb_s s8)).trans (fwb_w k9))) J9
end
end Ell
set_option maxHeartbeats 4000000
namespace Ell
open PySem PySem.Spec PyProof.Rows L2
/-! ### rings loosened -/
theorem first_at : ∀ {ms : List Lk} {l : Lk}, l ∈ ms → ∃ j, ms[j]? = some l ∧ ∀ (m : Nat) x, m < j → ms[m]? = some x → x ≠ l
  | [], _, h => by cases h
  | a :: ms, l, h => by
    by_cases e : a = l
    · exact ⟨0, by rw [e]; rfl, fun m x h => by omega⟩
    · obtain ⟨j, h1, h2⟩ := first_at (ms := ms) (l := l) ((List.mem_cons.mp h).resolve_left fun z => e z.symm)
      refine ⟨j + 1, h1, fun m x hm hx => ?_⟩
      cases m with
      | zero =>
        cases hx
        exact e
      | succ m => exact h2 m x (by omega) hx
def absL (l : Lk) : Int := if l.w < 0 then -l.w else l.w
theorem absum_eq : ∀ ls : List Lk, (ls.map absL).sum = absum ls
  | [] => rfl
  | l :: r => by
    rw [List.map_cons, List.sum_cons, absum_eq r]
    unfold absL
    simp only [absum]
    split <;> omega
theorem fwb_fb {W F : Addr} {H H1 H2 : Hp} (k : FB H H1) (k2 : FWB W F H1 H2) (hW : H W = none) (hF : H F = none) : FB H H2 :=
  ⟨fun c o e n => k2.k c o (k.k c o e n) ⟨ne_of_none e hW, ne_of_none e hF, n⟩, fun c e => k.fr c (k2.fr c e)⟩
theorem fw_fb {W F : Addr} {H H1 H2 : Hp} (k : FB H H1) (k2 : FWb W F H1 H2) (hW : H W = none) (hF : H F = none) : FB H H2 := fwb_fb k (fwb_w k2) hW hF
def spLoosened (K : PySem.W.Frag) : Sp := fun vs H Q _ => ∃ (b c S L : Addr) (ks : List (List Key)) (ls : List Lk) (as : List Arc), vs = [.ref b, .ref S, .ref L] ∧ Bag H b c ∧ SpotsAt H S ks ∧ Sps ks ∧ LinksAt H L ls ∧ ls.length ≤ 60 ∧ WF ks ls ∧ Tied ks ls ∧ Arcs ks ls as ∧
  ∀ H', FB H H' → Bag H' b c → Q (.bl true) H'
section
variable {P : Program} {w : World} {K : PySem.W.Frag} {mg : Str → Option Value} {base : Heap}
theorem ok_loosened (T : Tx K mg) (c_Web_init_1 : CalC P w K mg base CX0 4 "Web" (cWeb K) ["self", "spots", "links", "sure"] [.bl false] (spWebInit K)) (c_Web_bad_ring : CalM P w K mg base CX0 3 (cWeb K) "bad_ring" ["self"] [] (spBadRing K)) (c_l_has_worlds : Cal P w K mg base CX0 8 "_law_has_worlds" ["_law_bag", "_law_web", "_law_spots", "_law_links", "_law_rows"] [] (spHasWorlds K)) (c_l_closed : Cal P w K mg base CX0 3 "_law_closed" ["_law_spots", "_law_links"] [] spClosed) (c_l_ring_holds : Cal P w K mg base CX0 4 "_law_ring_holds" ["_law_links", "_law_told"] [] (spRingHolds K)) (c_l_choice : Cal P w K mg base CX0 2 "_law_choice" ["_law_bag", "_law_things"] [] (spChoice K)) : Cal P w K mg base CX0 9 "_law_loosened_well" ["_law_bag", "_law_spots", "_law_links"] [] (spLoosened K) := by
  obtain ⟨fd, F⟩ := T.f_l_loosened_well
  refine ⟨_, fd, [], F.ok sc_l_loosened_well (fun vs H Q E h => ?_) (fun cdv A outer s H vs Q E hr h => ?_), T.g_l_loosened_well, F.kp, F.bindsN fun _ _ _ _ _ _ us hl => match us, hl with | [_, _, _], _ => rfl, .nil⟩
  · obtain ⟨b, c, S, L, ks, ls, as, rfl, _⟩ := h
    rfl
  obtain ⟨b, c, S, L, ks, ls, as, rfl, hB, hS, hs, hL, hl, wf, td, ar, kk⟩ := h
  have hu65 := hu65_of hr
  refine ⟨_, PSs.nox ((pss_cons (ps_set (i := 3) sc_l_loosened_well.nd rfl (Or.inl rfl) (pe_callTy (listofK K) (by rfl) T.b_list (by decide +kernel) (pa_cons (pv 2) pa_nil)))
        (pss_cons (ps_set (i := 4) sc_l_loosened_well.nd rfl (Or.inl rfl) (pe_op op_add pe_int (pe_callB (sumK K rfl) (by rfl) T.b_sum (by decide +kernel) (pa_cons (pe_lc (own := [("_law_link", 9)]) (g := gName 9) (tt := tYes) rfl sc_l_loosened_well.nd (pi_listK K (pv 2)) (blkOk_by (N := N_l_loosened_well) (sc := defScope s_l_loosened_well) (by decide +kernel)) (fun _ _ _ _ _ => (pg_name (i := 9) sc_l_loosened_well.nd rfl (Or.inl rfl))) (fun _ _ _ _ _ => pts_nil) (fun _ _ _ _ _ => (pe_callB call_abs (by rfl) T.b_abs (by decide +kernel) (pa_cons (pe_ix (ix_tupK K) (pv 9) pe_int (fun _ _ => rfl)) pa_nil)))) pa_nil))))
        (pss_cons (ps_for PassesOwn.never rfl (pi_range1 (by rfl) T.b_range (pa_cons (pe_op op_add (pe_callB (call_lenK K) (by rfl) T.b_len PySem.boot_len (pa_cons (pv 2) pa_nil)) pe_int) pa_nil)) (pg_name (i := 5) sc_l_loosened_well.nd rfl (Or.inl rfl))
          (pss_cons (ps_set (i := 6) sc_l_loosened_well.nd rfl (Or.inl rfl) (pmake c_Web_init_1 hr (pa_cons (pv 1) (pa_cons (pv 3) pa_nil))))
          (pss_cons (ps_set (i := 7) sc_l_loosened_well.nd rfl (Or.inl rfl) (pmeth0 c_Web_bad_ring hr (pv 6)))
          (pss_cons (ps_if (pt_cmpR op_isN (pv 7) pe_non (nomark _)) (pss_one (ps_ret (pcall c_l_has_worlds hr (pa_cons (pv 0) (pa_cons (pv 6) (pa_cons (pv 1) (pa_cons (pv 3) (pa_cons (pcall c_l_closed hr (pa_cons (pv 1) (pa_cons (pv 3) pa_nil))) pa_nil)))))))) pss_nil)
          (pss_cons (ps_if (pt_not (pt_val (pcall c_l_ring_holds hr (pa_cons (pv 3) (pa_cons (pv 7) pa_nil))))) (pss_one (ps_ret pe_bl)) pss_nil)
          (pss_cons (ps_set (i := 8) sc_l_loosened_well.nd rfl (Or.inl rfl) (bmK K PySem.F.plainAttrs_list PySem.F.slot_list_index PySem.F.type_list_index (indexDK K hu65) (pv 3) (pa_cons (pcall c_l_choice hr (pa_cons (pv 0) (pa_cons (pv 7) pa_nil))) pa_nil)))
          (pss_cons (ps_set (i := 9) sc_l_loosened_well.nd rfl (Or.inl rfl) (pe_ix (ix_listK K) (pv 3) (pv 8) (fun _ _ => rfl)))
          (pss_one (ps_asg (pe_tup (pa_cons (pe_ix (ix_tupK K) (pv 9) pe_int (fun _ _ => rfl)) (pa_cons (pe_ix (ix_tupK K) (pv 9) pe_int (fun _ _ => rfl)) (pa_cons (pv 4) (pa_cons (pe_ix (ix_tupK K) (pv 9) pe_int (fun _ _ => rfl)) pa_nil))))) (pg_sub (pv 3) (pv 8) set_list))))))))))
        (pss_one (ps_ret pe_bl)))))), ?_⟩
  obtain ⟨ys, eL, rL⟩ := id hL
  have ly := pr_len rL
  have hn := hs.n
  refine ⟨_, rfl, L, ys, rfl, .inl (SqL.of eL), fun p hp => ?_⟩
  have s1 := same_new (o := .lst ys) hp
  have cp : c ≠ p := ne_of_none hB.cells.choose_spec hp
  refine ⟨_, rfl, L, rfl, ⟨_, SqL.of (s1 _ _ eL)⟩, fun D hD => lc_list (K := K) (a := L) (xs := ys) (fun i H2 => H2 D = some (.lst (((ls.map absL).take i).map V.int)) ∧ Same (upd H p (.lst ys)) H2) ⟨upd_same, same_new hD⟩ (fun i H2 _ h => SqL.of (h.2 _ _ (s1 _ _ eL))) ?_ ?_⟩
  · rintro i y H2 hy ⟨eD2, k2⟩
    obtain ⟨l, hl', lv⟩ := pr_get (lvs_mono rL (same_tp (s1.trans k2))) hy
    obtain ⟨q, xa, xb, xz, rfl, eq, _⟩ := lv
    have hi := (List.getElem?_eq_some_iff.mp hy).1
    refine ⟨rfl, _, rfl, q, _, _, _, rfl, rfl, SqT.of eq, atI_nat (j := 2) rfl, _, rfl, _, eD2, ?_, ?_, fun cc o e => ?_⟩
    · rw [List.length_map]
      exact small1000 (Nat.le_trans (List.length_take_le' _ _) (by rw [List.length_map]; omega))
    · rw [upd_same, take_snoc (by rw [List.getElem?_map, hl']; rfl), List.map_append]
      rfl
    · rw [upd_ne (ne_of_none e hD)]
      exact k2 _ _ e
  rintro H2 ⟨eD2, k2⟩
  rw [ly, List.take_of_length_le (by rw [List.length_map]; exact Nat.le_refl _)] at eD2
  refine ⟨D, _, rfl, SqL.of eD2, _, _, rfl, rfl, ?_⟩
  rw [absum_eq]
  have s2 := s1.trans k2
  have J0 : Loosd ks ls ls as 0 := Loosd.start wf td ar
  refine ⟨_, rfl, _, ys.length, rfl, .inl ⟨_, SqL.of (s2 _ _ eL), rfl⟩, _, _, rfl, rfl, _, rfl, by omega, by omega, for_range (fun i σ H3 => ∃ (o5 o6 o7 o8 o9 : Option V) (ms : List Lk) (bs : List Arc), σ = [some (.ref b), some (.ref S), some (.ref L), some (.ref p), some (.int (farOf ls)), o5, o6, o7, o8, o9] ∧ FB H H3 ∧ Bag H3 b c ∧ LinksAt H3 p ms ∧ Loosd ks ls ms bs i) ?_ ?_ ?_⟩
  · exact ⟨none, none, none, none, none, ls, as, rfl, Pres.same s2, hB.same s2, ⟨ys, k2 _ _ upd_same, lvs_mono rL (same_tp s2)⟩, J0⟩
  · rintro i σ H3 hi ⟨o5, o6, o7, o8, o9, ms, bs, rfl, k3, b3, l3, J⟩
    have hS3 := hS.fb k3
    have lm := J.len
    refine ⟨_, rfl, _, rfl, ?_⟩
    intro O dx hO hdx hnx
    have sO : Same H3 (upd (upd H3 dx (.own O)) O (.ins (cWeb K) dx [])) := (same_new hdx).trans (same_new (by rw [upd_ne hnx.symm]; exact hO))
    refine ⟨O, dx, S, p, false, ks, ms, bs, rfl, upd_same, .inl (hS3.same sO).l, .inl (l3.same sO), hs, J.wf, J.ar, by omega, conn_of hs J.ar J.td, fun _ => J.td, fun F H4 p4 hF4 w4 => ⟨rfl, ?_⟩⟩
    have s4 := make_same hO hdx p4
    have fO : H O = none := k3.fr O hO
    have fF : H F = none := k3.fr F (sO.free hF4)
    have k4 := k3.trans (Pres.same (p := fun _ o => NDK o) s4)
    have b4 := b3.same s4
    have l4 := l3.same s4
    obtain ⟨dx4, fs4, eW4, lk4⟩ := w4.meth "bad_ring" (by decide)
    refine ⟨_, rfl, O, _, _, rfl, eW4, lk4, O, F, ks, ms, bs, .new, rfl, w4, fun H5 k5 w5 => ?_, fun H5 Br r k5 w5 hB5 hr5 => ?_⟩
    · -- a world
      refine ⟨_, rfl, rfl, _, rfl, ite2 (fun _ => ?_) (fun z => absurd rfl z)⟩
      have b5 := w4.bag k5 b4
      have l5 := w4.links k5 l4
      have hS5 := w4.spots k5 (hS3.same s4)
      refine ⟨_, rfl, _, rfl, _, rfl, _, rfl, _, rfl, _, rfl, S, p, ks, ms, bs, rfl, hS5, by omega, l5, by omega, J.ar, fun D5 T5 H6 s6 ta tab => ?_⟩
      obtain ⟨q, hq⟩ := w5.pot
      refine ⟨b, c, O, F, S, p, D5, ks, ms, bs, .sound, T5, rfl, ⟨b5.same s6, w5.same s6, hS5.same s6, l5.same s6, ta⟩, tab, pot_noring hs.nd J.ar hq, fun H7 k7 J7 => ?_⟩
      exact kk H7 (fwb_fb ((fw_fb k4 k5 fO fF).trans (Pres.same s6)) k7 fO fF) J7.bag
    · -- a ring
      refine ⟨_, rfl, rfl, _, rfl, ite2 (fun z => by cases z) (fun _ => ?_)⟩
      have b5 := w4.bag k5 b4
      have l5 := w4.links k5 l4
      have k5' := fw_fb k4 k5 fO fF
      refine ⟨_, rfl, _, rfl, p, Br, ms, r, rfl, hB5, l5, hr5, by omega, fun l hl => ⟨hs.sp _ (J.wf.a l hl), hs.sp _ (J.wf.b l hl)⟩, fun H6 s6 => ⟨true, rfl, ?_⟩⟩
      obtain ⟨zs, eB, rB⟩ := id hB5
      have lr := pr_len rB
      have hrl := hr5.len
      have b6 := b5.same s6
      have l6 := l5.same s6
      have zne : 1 ≤ zs.length := by
        rw [lr]
        exact List.length_pos_iff.mpr hr5.ne
      obtain ⟨ms6, e6, r6⟩ := id l6
      refine ⟨_, rfl, .inl ⟨rfl, _, SqL.of e6⟩, _, rfl, _, rfl, b, c, _, rfl, b6, .inl ⟨Br, zs, rfl, .inr (SqT.of (s6 _ _ eB)), zne, by omega, fun j v H7 hv k7 b7 => ?_⟩⟩
      obtain ⟨l, hlr, lv⟩ := pr_get rB hv
      have ml := List.mem_of_getElem? hlr
      obtain ⟨m, hm1, hm2⟩ := first_at (hr5.m l ml)
      have e7 := fb_free k7 e6 True.intro
      have r7 := lvs_mono r6 (fb_tp k7)
      have lv7 := lv.mono (TP.trans (same_tp s6) (fb_tp k7))
      refine ⟨p, v, lD l, ms.map lD, m, lD l, rfl, rfl, lvs_dp (SqL.of e7) r7, lv7.dp, lvs_sh r7, lv7.sh, by rw [List.getElem?_map, hm1]; rfl, by rw [lD_eqv, decide_eq_true rfl], fun n z' hn hz => ?_, ?_⟩
      · rw [List.getElem?_map] at hz
        cases e : ms[n]? with
        | none => rw [e] at hz; cases hz
        | some x =>
          rw [e] at hz
          cases hz
          rw [lD_eqv, decide_eq_false (hm2 n x hn e)]
      obtain ⟨v8, hv8, lv8⟩ := pr_get2 r7 hm1
      obtain ⟨q, xa, xb, xz, rfl, eq, hxa, hxb, hxz⟩ := id lv8
      refine ⟨_, rfl, _, rfl, p, _, _, _, rfl, rfl, SqL.of e7, atI_nat hv8, ?_⟩
      refine ⟨_, rfl, q, _, _, _, rfl, rfl, SqT.of eq, atI_nat (j := 0) rfl, _, rfl, q, _, _, _, rfl, rfl, SqT.of eq, atI_nat (j := 1) rfl, _, rfl, _, rfl, q, _, _, _, rfl, rfl, SqT.of eq, atI_nat (j := 3) rfl, (show 4 ≤ sizeLine by decide), fun t ht => ?_⟩
      have s8 := same_new (o := .tup [xa, xb, .int (farOf ls), xz]) ht
      have e8 := s8 _ _ e7
      have hm6 : m < ms6.length := by
        rw [pr_len r7]
        exact (List.getElem?_eq_some_iff.mp hm1).1
      refine ⟨_, rfl, _, rfl, p, ms6, (m : Int), m, rfl, rfl, e8, ixn rfl hm6, ?_⟩
      obtain ⟨bs', J'⟩ := J.set hr5 ml hm1
      have tp : TP (upd H7 t (.tup [xa, xb, .int (farOf ls), xz])) (upd (upd H7 t (.tup [xa, xb, .int (farOf ls), xz])) p (.lst (ms6.set m (.ref t)))) := put_tp e8 fun _ z => by cases z
      have tp2 := TP.trans (same_tp s8) tp
      refine ⟨_, _, _, _, _, _, bs', rfl, ((((k5'.trans (Pres.same s6)).trans k7).trans (Pres.same s8))).then_put hp, (b7.same s8).putL e8 cp, ⟨_, upd_same, pr_set (R := LV _) (y := ⟨l.a, l.b, farOf ls, l.y⟩) ⟨t, xa, xb, xz, rfl, tp _ _ upd_same, hxa.mono tp2, hxb.mono tp2, hxz.mono tp2⟩ m (lvs_mono r7 tp2)⟩, J'⟩
  · rintro σ H3 ⟨o5, o6, o7, o8, o9, ms, bs, rfl, k3, b3, l3, J⟩
    exfalso
    have := J.cnt
    omega
end
end Ell
set_option maxHeartbeats 4000000
namespace Ell
open PySem PySem.Spec PyProof.Rows L2
/-! ### a web grown -/
/-- x not in t, a tuple of data -/
def rNotInT (K : PySem.W.Frag) : R2 := fun x y H Q => ∃ (zd : PyData) (ts : List PyData), Dp K H x zd ∧ Dp K H y (.tuple ts) ∧ SeqAt.shaped zd = true ∧ SeqAt.shaped (.tuple ts) = true ∧ Q (.bl (!ts.any fun z => PyData.eqv z zd)) H
theorem op_notInT {X : Cx} (hu : X.A.units + 65 < cLine) : OpR X (compareOp .NotIn) (rNotInT X.K) := by
  intro pins s σ H x y v u Q I rx ry ⟨zd, ts, hz, ht, s1, s2, q⟩
  obtain ⟨_, g1⟩ := Dp.reads I zd x v hz rx
  obtain ⟨_, g2⟩ := Dp.reads I (.tuple ts) y u ht ry
  exact SeqAt.notIn_tuple_reads g2 g1 (SeqAt.canLay_of_shaped s2) (SeqAt.canLay_of_shaped s1) (room_in_shaped s1 hu) ⟨.bl _, H, I, rfl, q⟩
theorem notInTK {X : Cx} (K : PySem.W.Frag) (hu : X.A.units + 65 < cLine) (hK : X.K = K := by rfl) : OpR X (compareOp .NotIn) (rNotInT K) := by
  subst hK
  exact op_notInT hu
theorem Tab.has {as : List Arc} {N s v : Nat} {T : Tb} {p : Nat → Int} (h : Tab as N T) (hN : ∀ e ∈ as, e.1 < N ∧ e.2.1 < N) (hp : Pot as p) (hs : s < N) {r : List Arc} (w : Walk as r s v) : ∃ z, T s v = some z ∧ z ≤ wsum r := by
  obtain ⟨q, wq, nq, lq⟩ := hp.simple w
  match q, wq, nq, lq with
  | [], wq, _, lq =>
    have e1 : s = v := wq.w
    subst e1
    obtain ⟨z, hz, lz⟩ := h.dg s hs 0 rfl
    have : wsum [] = 0 := rfl
    exact ⟨z, hz, by omega⟩
  | e :: t, wq, nq, lq =>
    obtain ⟨z, hz, lz⟩ := h.cmp (e :: t) s v (List.cons_ne_nil _ _) wq (List.nodup_cons.mp nq).2 (fun u hu => wq.lt hN u (List.mem_cons_of_mem _ hu)) _ rfl
    exact ⟨z, hz, by omega⟩
/-- the table's row is a row of least bounds -/
theorem Tab.mkDist {as : List Arc} {N s : Nat} {T : Tb} {p : Nat → Int} (h : Tab as N T) (hN : ∀ e ∈ as, e.1 < N ∧ e.2.1 < N) (hp : Pot as p) (hc : Conn as N) (hs : s < N) : ∃ d, Dist as N s d ∧ ∀ v, v < N → T s v = some (d v) := by
  have val : ∀ v, v < N → T s v = some ((T s v).getD 0) := fun v hv => by
    obtain ⟨r, w⟩ := hc s v hs hv
    obtain ⟨z, hz, _⟩ := h.has hN hp hs w
    rw [hz]
    rfl
  refine ⟨fun v => (T s v).getD 0, ⟨fun e he => ?_, ?_, fun v hv => ?_⟩, val⟩
  · obtain ⟨r, w, ew⟩ := h.snd _ _ _ (val e.1 (hN e he).1)
    obtain ⟨z, hz, lz⟩ := h.has hN hp hs (w.app (Walk.one he))
    show (T s e.2.1).getD 0 ≤ (T s e.1).getD 0 + e.2.2
    rw [hz]
    rw [wsum_app] at lz
    have : wsum [e] = e.2.2 := by simp [wsum]
    show z ≤ _
    omega
  · obtain ⟨z, hz, lz⟩ := h.has hN hp hs (Walk.nil (as := as) (a := s))
    have := h.sound hp hz
    show (T s s).getD 0 = 0
    rw [hz]
    have : wsum [] = 0 := rfl
    show z = 0
    omega
  · obtain ⟨r, w, ew⟩ := h.snd _ _ _ (val v hv)
    exact ⟨r, w, ew⟩
theorem pot_edge {as : List Arc} {N s a : Nat} {d : Nat → Int} {e : Arc} (h : Dist as N s d) (e1 : e.1 = a) (e2 : e.2.1 = s) (e3 : e.2.2 = 0 - d a) : Pot (as ++ [e]) d := fun x hx => by
  rcases List.mem_append.mp hx with q | q
  · exact h.pot x q
  · cases List.mem_singleton.mp q
    have := h.s0
    rw [e1, e2, e3]
    omega
/-- the least bound along the new arc is its own -/
theorem edge_bound {as : List Arc} {N s a : Nat} {d d' : Nat → Int} {e : Arc} (h : Dist as N s d) (hs : s < N) (e1 : e.1 = a) (e2 : e.2.1 = s) (e3 : e.2.2 = 0 - d a) (h' : Dist (as ++ [e]) N a d') : d' s = 0 - d a := by
  have p1 := h'.pot e (List.mem_append_right _ (List.mem_singleton.mpr rfl))
  rw [e1, e2, e3, h'.s0] at p1
  obtain ⟨r, w, ew⟩ := h'.walk s hs
  have p2 := (pot_edge h e1 e2 e3).walk w
  have := h.s0
  omega
theorem edge_no {as : List Arc} {N s a : Nat} {d p : Nat → Int} {e : Arc} (h : Dist as N s d) (ha : a < N) (e1 : e.1 = a) (e2 : e.2.1 = s) (e3 : e.2.2 < 0 - d a) (hp : Pot (as ++ [e]) p) : False := by
  obtain ⟨r, w, ew⟩ := h.walk a ha
  have w' : Walk (as ++ [e]) r s a := ⟨fun x hx => List.mem_append_left _ (w.m x hx), w.w⟩
  have p1 := hp.walk w'
  have p2 := hp e (List.mem_append_right _ (List.mem_singleton.mpr rfl))
  rw [e1, e2] at p2
  omega
/-- without the new link there is no ring -/
theorem ring_new {ls r : List Lk} {x : Lk} (nr : NoRing ls) (hr : RingOk (ls ++ [x]) r) : x ∈ r := by
  refine Classical.byContradiction fun hx => nr r ⟨hr.ne, fun l hl => ?_, hr.c, hr.nd, hr.neg⟩
  rcases List.mem_append.mp (hr.m l hl) with q | q
  · exact q
  · cases List.mem_singleton.mp q
    exact absurd hl hx
/-- a new web's own frame keeps what stood before it -/
theorem same_fw {W F : Addr} {H H1 H2 : Hp} (s : Same H H1) (k : FWb W F H1 H2) (hW : H W = none) (hF : H F = none) : Same H H2 := fun c o e => k.k c o (s c o e) ⟨ne_of_none e hW, ne_of_none e hF⟩
def spGrownL (K : PySem.W.Frag) : Sp := fun vs H Q _ => ∃ (b c W F S L R : Addr) (ks : List (List Key)) (ls : List Lk) (as : List Arc) (Tb : Tb), vs = [.ref b, .ref W, .ref S, .ref L, .ref R] ∧ HJ K H b c W F S L R ks ls as .sound Tb ∧ Tab as ks.length Tb ∧ 2 ≤ ks.length ∧ ls.length ≤ 59 ∧ ls ≠ [] ∧
  ∀ H', Bag H' b c → WebAt K H' W F ks ls as .sound → Q (.bl true) H'
theorem rI_to {cc : Int → Int → Prop} {g : Int → Int → V} {i j : Int} {v : V} {H : Hp} {Q : VK} (h : cc i j) (e : g i j = v) (q : Q v H) : rI cc g (.int i) (.int j) H Q := ⟨i, j, rfl, rfl, h, by rw [e]; exact q⟩
theorem next_place {N ia : Nat} {r : Int} (h1 : ia < N) (h2 : 0 ≤ r) (h3 : r < (N : Int) - 1) : ∃ ib : Nat, ((ia : Int) + 1 + r) % (N : Int) = (ib : Int) ∧ ib < N ∧ ib ≠ ia := by
  by_cases h : (ia : Int) + 1 + r < (N : Int)
  · exact ⟨((ia : Int) + 1 + r).toNat, by rw [Int.emod_eq_of_lt (by omega) h]; omega, by omega, by omega⟩
  · refine ⟨((ia : Int) + 1 + r - (N : Int)).toNat, ?_, by omega, by omega⟩
    have e : (ia : Int) + 1 + r = ((ia : Int) + 1 + r - (N : Int)) + (N : Int) := by omega
    rw [e, Int.add_emod_right, Int.emod_eq_of_lt (by omega) (by omega)]
    omega
theorem wf_one {ks : List (List Key)} {l : Lk} (ha : l.a ∈ ks) (hb : l.b ∈ ks) (hn : l.a ≠ l.b) (hy : l.y ≠ []) : WF ks [l] :=
  ⟨fun m h => (by cases List.mem_singleton.mp h; exact ha), fun m h => (by cases List.mem_singleton.mp h; exact hb), fun m h => (by cases List.mem_singleton.mp h; exact hn), fun m h => (by cases List.mem_singleton.mp h; exact hy)⟩
section
variable {P : Program} {w : World} {K : PySem.W.Frag} {mg : Str → Option Value} {base : Heap}
theorem ok_grown_l (T : Tx K mg) (c_l_pick : Cal P w K mg base CX0 1 "_law_pick" ["_law_bag", "_law_many"] [] spPick) (c_Web_more : CalM P w K mg base CX0 6 (cWeb K) "more" ["self", "links"] [] (spMore K)) (c_l_why : Cal P w K mg base CX0 4 "_law_why" ["_law_bag"] [] spWhy) (c_Web_bad_ring : CalM P w K mg base CX0 3 (cWeb K) "bad_ring" ["self"] [] (spBadRing K)) (c_Web_bound : CalM P w K mg base (L2N.CX P w) 5 (cWeb K) "bound" ["self", "a", "b"] [] (spBound K)) (c_l_choice : Cal P w K mg base CX0 2 "_law_choice" ["_law_bag", "_law_things"] [] (spChoice K)) (c_l_ring_holds : Cal P w K mg base CX0 4 "_law_ring_holds" ["_law_links", "_law_told"] [] (spRingHolds K)) : Cal P w K mg base CX0 8 "_law_grown_well" ["_law_bag", "_law_web", "_law_spots", "_law_links", "_law_rows"] [] (spGrownL K) := by
  obtain ⟨fd, F⟩ := T.f_l_grown_well
  refine ⟨_, fd, [], F.ok sc_l_grown_well (fun vs H Q E h => ?_) (fun cdv A outer s H vs Q E hr h => ?_), T.g_l_grown_well, F.kp, F.bindsN fun _ _ _ _ _ _ us hl => match us, hl with | [_, _, _, _, _], _ => rfl, .nil⟩
  · obtain ⟨b, c, W, F, S, L, R, ks, ls, as, Tb, rfl, _⟩ := h
    rfl
  obtain ⟨b, c, W, F, S, L, R, ks, ls, as, Tb, rfl, J, tab, hk2, hl, hne, kk⟩ := h
  have hu65 := hu65_of hr
  refine ⟨_, PSs.nox ((pss_cons (ps_set (i := 5) sc_l_grown_well.nd rfl (Or.inl rfl) (pcall c_l_pick hr (pa_cons (pv 0) (pa_cons (pe_callB (call_lenK K) (by rfl) T.b_len PySem.boot_len (pa_cons (pv 2) pa_nil)) pa_nil))))
        (pss_cons (ps_set (i := 6) sc_l_grown_well.nd rfl (Or.inl rfl) (pe_op op_mod (pe_callTy call_int1 (by rfl) T.b_int (by decide +kernel) (pa_cons (pe_op op_add (pe_op op_add (pv 5) pe_int) (pcall c_l_pick hr (pa_cons (pv 0) (pa_cons (pe_op op_sub (pe_callB (call_lenK K) (by rfl) T.b_len PySem.boot_len (pa_cons (pv 2) pa_nil)) pe_int) pa_nil)))) pa_nil)) (pe_callB (call_lenK K) (by rfl) T.b_len PySem.boot_len (pa_cons (pv 2) pa_nil))))
        (pss_cons (ps_set (i := 7) sc_l_grown_well.nd rfl (Or.inl rfl) (pe_op op_sub pe_int (pe_ix (ix_listK K) (pe_ix (ix_listK K) (pv 4) (pv 6) (fun _ _ => rfl)) (pv 5) (fun _ _ => rfl))))
        (pss_cons (ps_set (i := 8) sc_l_grown_well.nd rfl (Or.inl rfl) (pmeth c_Web_more hr (pv 1) (pa_cons (pe_lst (pa_cons (pe_tup (pa_cons (pe_ix (ix_listK K) (pv 2) (pv 5) (fun _ _ => rfl)) (pa_cons (pe_ix (ix_listK K) (pv 2) (pv 6) (fun _ _ => rfl)) (pa_cons (pv 7) (pa_cons (pcall c_l_why hr (pa_cons (pv 0) pa_nil)) pa_nil))))) pa_nil)) pa_nil)))
        (pss_cons (ps_if (PW.pt (pw_or (pt_cmpR op_notN (pmeth0 c_Web_bad_ring hr (pv 8)) pe_non (nomark _)) (pw_or1 (pt_cmpR op_ne (pmethE c_Web_bound hr passN0 (pv 8) (pa_cons (pe_ix (ix_listK K) (pv 2) (pv 5) (fun _ _ => rfl)) (pa_cons (pe_ix (ix_listK K) (pv 2) (pv 6) (fun _ _ => rfl)) pa_nil))) (pv 7) (nomark _))))) (pss_one (ps_ret pe_bl)) pss_nil)
        (pss_cons (ps_set (i := 9) sc_l_grown_well.nd rfl (Or.inl rfl) (pe_tup (pa_cons (pe_ix (ix_listK K) (pv 2) (pv 5) (fun _ _ => rfl)) (pa_cons (pe_ix (ix_listK K) (pv 2) (pv 6) (fun _ _ => rfl)) (pa_cons (pe_op op_sub (pe_op op_sub (pv 7) pe_int) (pcall c_l_choice hr (pa_cons (pv 0) (pa_cons (pe_lst (pa_cons pe_int (pa_cons pe_int (pa_cons pe_int pa_nil)))) pa_nil)))) (pa_cons (pcall c_l_why hr (pa_cons (pv 0) pa_nil)) pa_nil))))))
        (pss_cons (ps_set (i := 10) sc_l_grown_well.nd rfl (Or.inl rfl) (pmeth0 c_Web_bad_ring hr (pmeth c_Web_more hr (pv 1) (pa_cons (pe_tup (pa_cons (pv 9) pa_nil)) pa_nil))))
        (pss_cons (ps_if (PW.pt (pw_or (pt_not (pt_val (pcall c_l_ring_holds hr (pa_cons (pe_op op_cat (pv 3) (pe_lst (pa_cons (pv 9) pa_nil))) (pa_cons (pv 10) pa_nil))))) (pw_or1 (pt_cmpR (notInTK K hu65) (pv 9) (pv 10) rfl)))) (pss_one (ps_ret pe_bl)) pss_nil)
        (pss_one (ps_ret (pe_cmpR op_isN (pmeth0 c_Web_bad_ring hr (pv 1)) pe_non (nomark _))))))))))))), ?_⟩
  obtain ⟨pot, hpot⟩ := J.web.pot
  have hs := J.web.sp
  have nd := hs.nd
  have isp := hs.sp
  have ar := J.web.ar
  have bnd := J.web.bnd
  have con := J.web.con
  have hn := hs.n
  have nr : NoRing ls := pot_noring nd ar hpot
  obtain ⟨⟨xs, eS, rS⟩, _, g0, _⟩ := id J.sp
  have lx := pr_len rS
  refine ⟨_, rfl, _, rfl, _, xs.length, rfl, .inl ⟨_, SqL.of eS, rfl⟩, b, c, _, rfl, J.bag, by omega, by omega, fun r H1 r0 r1 k1 b1 => ?_⟩
  have J1 := J.fb k1 b1
  have eS1 := fb_free k1 eS True.intro
  obtain ⟨ia, rfl, hia⟩ := pos_nat r0 r1
  refine ⟨_, rfl, _, _, rfl, rfl, _, rfl, _, rfl, _, xs.length, rfl, .inl ⟨_, SqL.of eS1, rfl⟩, _, _, rfl, rfl, b, c, _, rfl, J1.bag, by omega, by omega, fun r H2 r0 r1 k2 b2 => ⟨_, _, rfl, rfl, .inl ⟨_, rfl, ?_⟩⟩⟩
  have J2 := J1.fb k2 b2
  have eS2 := fb_free k2 eS1 True.intro
  have hia : ia < xs.length := by omega
  obtain ⟨ib, eb, hib, hab⟩ := next_place hia r0 r1
  refine ⟨_, rfl, _, xs.length, rfl, .inl ⟨_, SqL.of eS2, rfl⟩, rI_to (v := .int (ib : Nat)) (show (0 : Int) < (xs.length : Nat) by omega) (congrArg V.int eb) ?_⟩
  obtain ⟨d, di, hd⟩ := tab.mkDist bnd hpot con (s := ib) (by omega)
  obtain ⟨ka, hka, tka2⟩ := pr_get (tks_mono rS (fb_tp (k1.trans k2))) (List.getElem?_eq_getElem hia)
  obtain ⟨kb, hkb, tkb2⟩ := pr_get (tks_mono rS (fb_tp (k1.trans k2))) (List.getElem?_eq_getElem hib)
  have ma := List.mem_of_getElem? hka
  have mb := List.mem_of_getElem? hkb
  have kne : ka ≠ kb := nd_ne nd hka hkb fun z => hab z.symm
  -- the reach
  obtain ⟨rs, lrs, tt⟩ := id J2.ta
  have hrb : rs[ib]? = some rs[ib] := List.getElem?_eq_getElem (by omega)
  have hv : Tb ib ia = some (d ia) := hd ia (by omega)
  refine ⟨_, rfl, _, rfl, R, _, _, _, rfl, rfl, SqL.of tt.e, atI_nat (by rw [List.getElem?_map, hrb]; rfl), _, rfl, _, _, _, .int (d ia), rfl, rfl, SqL.of (tt.row ib _ hrb), (by rw [fl_at rfl (by omega), hv]; rfl), _, _, rfl, rfl, ?_⟩
  -- the edge
  obtain ⟨dx2, fs2, eW2, lk2⟩ := J2.web.meth "more" (by decide)
  refine ⟨_, rfl, W, _, _, rfl, eW2, lk2, _, rfl, _, rfl, S, _, _, _, rfl, rfl, SqL.of eS2, atI_nat (List.getElem?_eq_getElem hia), _, rfl, _, rfl, S, _, _, _, rfl, rfl, SqL.of eS2, atI_nat (List.getElem?_eq_getElem hib), _, rfl, _, rfl, b, c, rfl, J2.bag, fun v y H3 k3 b3 ty ny => ⟨(show 4 ≤ sizeLine by decide), fun t ht => ⟨(show 1 ≤ sizeLine by decide), fun q hq => ?_⟩⟩⟩
  have J3 := J2.fb k3 b3
  have eS3 := fb_free k3 eS2 True.intro
  have s4 := (same_new (o := .tup [xs[ia], xs[ib], .int (0 - d ia), v]) ht).trans (same_new (o := .lst [.ref t]) hq)
  have J4 := J3.same s4
  have eS4 := s4 _ _ eS3
  have tp4 := TP.trans (fb_tp k3) (same_tp s4)
  have et4 : (upd (upd H3 t (.tup [xs[ia], xs[ib], .int (0 - d ia), v])) q (.lst [.ref t])) t = some (.tup [xs[ia], xs[ib], .int (0 - d ia), v]) := by rw [upd_ne (ne_of_none upd_same hq), upd_same]
  have eq4 : (upd (upd H3 t (.tup [xs[ia], xs[ib], .int (0 - d ia), v])) q (.lst [.ref t])) q = some (.lst [.ref t]) := upd_same
  have ty4 := ty.mono (same_tp s4)
  generalize hH4 : upd (upd H3 t (.tup [xs[ia], xs[ib], .int (0 - d ia), v])) q (.lst [.ref t]) = H4 at s4 J4 eS4 tp4 et4 eq4 ty4 ⊢
  have lv4 : LV H4 (.ref t) ⟨ka, kb, 0 - d ia, y⟩ := ⟨t, xs[ia], xs[ib], v, rfl, et4, tka2.mono tp4, tkb2.mono tp4, ty4⟩
  refine ⟨W, F, q, ks, ls, [⟨ka, kb, 0 - d ia, y⟩], as, [(ia, ib, 0 - d ia)], .sound, rfl, J4.web, .inl ⟨[.ref t], eq4, .cons lv4 .nil⟩, wf_one ma mb kne ny, .cons ⟨hka, hkb, rfl⟩ .nil, (show ls.length + 1 ≤ 60 by omega), List.cons_ne_nil _ _, hne, fun H5 W5 F5 s5 hW5 hF5 w5 => ?_⟩
  have pe := pot_edge (e := (ia, ib, 0 - d ia)) di rfl rfl rfl
  have nr5 := pot_noring nd w5.ar pe
  obtain ⟨dx5, fs5, eW5, lk5⟩ := w5.meth "bad_ring" (by decide)
  refine ⟨_, rfl, W5, _, _, rfl, eW5, lk5, W5, F5, ks, _, _, .new, rfl, w5, fun H6 k6 w6 => ⟨rfl, _, rfl, ite2 (fun z => by cases z) (fun _ => ?_)⟩, fun H6 Br r k6 w6 hB hr => absurd hr (nr5 r)⟩
  have s6 := same_fw s5 k6 hW5 hF5
  obtain ⟨dx6, fs6, eW6, lk6⟩ := w6.meth "bound" (by decide)
  have eS6 := s6 _ _ eS4
  have tp6 := TP.trans tp4 (same_tp s6)
  refine ⟨_, rfl, W5, _, _, rfl, eW6, lk6, _, rfl, _, rfl, S, _, _, _, rfl, rfl, SqL.of eS6, atI_nat (List.getElem?_eq_getElem hia), _, rfl, _, rfl, S, _, _, _, rfl, rfl, SqL.of eS6, atI_nat (List.getElem?_eq_getElem hib), ?_⟩
  refine ⟨W5, F5, ks, _, _, .sound, _, _, ka, kb, rfl, w6, tka2.mono tp6, tkb2.mono tp6, isp ka ma, isp kb mb, fun i j H7 d7 hi hj k7 w7 di7 => ?_, two0 nr5 ma mb⟩
  cases nd_ix nd hi hka
  cases nd_ix nd hj hkb
  have eb7 := edge_bound (e := (ia, ib, 0 - d ia)) di (by omega) rfl rfl rfl di7
  rw [eb7]
  have s7 := same_fw s6 k7 hW5 hF5
  have J7 := J4.same s7
  have eS7 := s7 _ _ eS4
  refine ⟨_, rfl, rfl, _, rfl, ite2 (fun z => ?_) (fun _ => ?_)⟩
  · have z' : (!decide (V.int (0 - d ia) = V.int (0 - d ia))) = true := z
    rw [decide_eq_true rfl] at z'
    cases z'
  -- one below
  refine ⟨_, rfl, _, rfl, S, _, _, _, rfl, rfl, SqL.of eS7, atI_nat (List.getElem?_eq_getElem hia), _, rfl, _, rfl, S, _, _, _, rfl, rfl, SqL.of eS7, atI_nat (List.getElem?_eq_getElem hib), _, rfl, _, _, rfl, rfl, _, rfl, (show 3 ≤ sizeLine by decide), fun pc hpc => ?_⟩
  have s8 := same_new (o := .lst [.int 0, .int 0, .int 5]) hpc
  have J8 := J7.same s8
  refine ⟨b, c, _, rfl, J8.bag, .inl ⟨pc, _, rfl, .inl (SqL.of upd_same), (show 1 ≤ 3 by decide), (show 3 ≤ 1000 by decide), fun iv v2 H9 hv2 k9 b9 => ?_⟩⟩
  obtain ⟨z, rfl, z0⟩ : ∃ z : Int, v2 = .int z ∧ 0 ≤ z := by
    match iv, hv2 with
    | 0, hv2 => cases hv2; exact ⟨0, rfl, by decide⟩
    | 1, hv2 => cases hv2; exact ⟨0, rfl, by decide⟩
    | 2, hv2 => cases hv2; exact ⟨5, rfl, by decide⟩
    | _ + 3, hv2 => simp at hv2
  have J9 := J8.fb k9 b9
  refine ⟨_, _, rfl, rfl, _, rfl, b, c, rfl, J9.bag, fun v' y2 H10 k10 b10 ty2 ny2 => ⟨(show 4 ≤ sizeLine by decide), fun t2 ht2 => ?_⟩⟩
  have J10 := J9.fb k10 b10
  have s11 := same_new (o := .tup [xs[ia], xs[ib], .int (0 - d ia - 1 - z), v']) ht2
  have J11 := J10.same s11
  have tp11 : TP H2 (upd H10 t2 (.tup [xs[ia], xs[ib], .int (0 - d ia - 1 - z), v'])) := TP.trans tp4 (TP.trans (same_tp (s7.trans s8)) (TP.trans (fb_tp (k9.trans k10)) (same_tp s11)))
  have lv11 : LV (upd H10 t2 (.tup [xs[ia], xs[ib], .int (0 - d ia - 1 - z), v'])) (.ref t2) ⟨ka, kb, 0 - d ia - 1 - z, y2⟩ := ⟨t2, xs[ia], xs[ib], v', rfl, upd_same, tka2.mono tp11, tkb2.mono tp11, ty2.mono (same_tp s11)⟩
  generalize hH11 : upd H10 t2 (.tup [xs[ia], xs[ib], .int (0 - d ia - 1 - z), v']) = H11 at s11 J11 tp11 lv11 ⊢
  obtain ⟨dx11, fs11, eW11, lk11⟩ := J11.web.meth "more" (by decide)
  refine ⟨_, rfl, W, _, _, rfl, eW11, lk11, _, rfl, (show 1 ≤ sizeLine by decide), fun q2 hq2 => ?_⟩
  have s12 := same_new (o := .tup [.ref t2]) hq2
  have J12 := J11.same s12
  have lv12 := lv11.mono (same_tp s12)
  refine ⟨W, F, q2, ks, ls, [⟨ka, kb, 0 - d ia - 1 - z, y2⟩], as, [(ia, ib, 0 - d ia - 1 - z)], .sound, rfl, J12.web, .inr ⟨[.ref t2], upd_same, .cons lv12 .nil⟩, wf_one ma mb kne ny2, .cons ⟨hka, hkb, rfl⟩ .nil, (show ls.length + 1 ≤ 60 by omega), List.cons_ne_nil _ _, hne, fun H13 W13 F13 s13 hW13 hF13 w13 => ?_⟩
  obtain ⟨dx13, fs13, eW13, lk13⟩ := w13.meth "bad_ring" (by decide)
  refine ⟨W13, _, _, rfl, eW13, lk13, W13, F13, ks, _, _, .new, rfl, w13, fun H14 k14 w14 => ?_, fun H14 Br r k14 w14 hB hr14 => ?_⟩
  · obtain ⟨p', hp'⟩ := w14.pot
    exact (edge_no (e := (ia, ib, 0 - d ia - 1 - z)) di (by omega) rfl rfl (show 0 - d ia - 1 - z < 0 - d ia by omega) hp').elim
  have s14 := same_fw s13 k14 hW13 hF13
  have J14 := J12.same s14
  have lv14 := lv12.mono (same_tp s14)
  have mr := ring_new nr hr14
  obtain ⟨ys, eL, rL⟩ := id J14.li
  have ly := pr_len rL
  refine ⟨_, rfl, _, rfl, (show 1 ≤ sizeLine by decide), fun q3 hq3 => ?_⟩
  have s15 := same_new (o := .lst [.ref t2]) hq3
  refine ⟨L, q3, ys, _, rfl, rfl, s15 _ _ eL, upd_same, sl1000 (show ys.length + 1 ≤ 1000 by omega), fun q4 hq4 => ?_⟩
  have s16 := s15.trans (same_new (o := .lst (ys ++ [.ref t2])) hq4)
  refine ⟨_, rfl, q4, Br, _, r, rfl, hB.mono (same_tp s16), ⟨_, upd_same, pr_app (lvs_mono rL (same_tp s16)) (.cons (lv14.mono (same_tp s16)) .nil)⟩, hr14, (by rw [List.length_append]; show ls.length + 1 ≤ 1000; omega), fun l hl => ?_, fun H17 s17 => ⟨true, rfl, ?_⟩⟩
  · rcases List.mem_append.mp hl with h | h
    · exact ⟨isp _ (J.web.wf.a l h), isp _ (J.web.wf.b l h)⟩
    · cases List.mem_singleton.mp h
      exact ⟨isp _ ma, isp _ mb⟩
  have s147 := s16.trans s17
  have lv17 := lv14.mono (same_tp s147)
  obtain ⟨zs, eB, rB⟩ := hB.mono (same_tp s147)
  refine ⟨_, rfl, _, rfl, lD ⟨ka, kb, 0 - d ia - 1 - z, y2⟩, r.map lD, lv17.dp, lvs_dpT (SqT.of eB) rB, lv17.sh, lvs_shT rB, ?_⟩
  rw [in_lD.mpr mr]
  refine ⟨_, rfl, ite2 (fun z => by cases z) (fun _ => ?_)⟩
  have J17 := J14.same s147
  obtain ⟨dx17, fs17, eW17, lk17⟩ := J17.web.meth "bad_ring" (by decide)
  exact ⟨_, rfl, W, _, _, rfl, eW17, lk17, W, F, ks, ls, as, .sound, rfl, J17.web, fun H18 k18 w18 => ⟨rfl, kk H18 (J17.web.bag k18 J17.bag) w18⟩, fun H18 Br r k18 w18 _ hr => absurd hr (nr r)⟩
end
end Ell
set_option maxHeartbeats 4000000
namespace Ell
open PySem PySem.Spec PyProof.Rows L2
/-! ### a net bent -/
structure BI (H H2 : Hp) (b c q : Addr) (ks : List (List Key)) (ms : List Lk) (n : Nat) : Prop where
  fr : H q = none
  k : FB H H2
  bag : Bag H2 b c
  li : LinksAt H2 q ms
  len : ms.length ≤ n
  wf : WF ks ms
  td : Tied ks ms
theorem BI.fb {H H2 H3 : Hp} {b c q : Addr} {ks : List (List Key)} {ms : List Lk} {n : Nat} (h : BI H H2 b c q ks ms n) (k : FB H2 H3) (hb : Bag H3 b c) : BI H H3 b c q ks ms n := ⟨h.fr, h.k.trans k, hb, h.li.fb k, h.len, h.wf, h.td⟩
theorem BI.same {H H2 H3 : Hp} {b c q : Addr} {ks : List (List Key)} {ms : List Lk} {n : Nat} (h : BI H H2 b c q ks ms n) (k : Same H2 H3) : BI H H3 b c q ks ms n := ⟨h.fr, h.k.trans (Pres.same k), h.bag.same k, h.li.same k, h.len, h.wf, h.td⟩
theorem BI.up {H H2 : Hp} {b c q : Addr} {ks : List (List Key)} {ms : List Lk} {n m : Nat} (h : BI H H2 b c q ks ms n) (hn : n ≤ m) : BI H H2 b c q ks ms m := ⟨h.fr, h.k, h.bag, h.li, Nat.le_trans h.len hn, h.wf, h.td⟩
/-- the list is written: its place was free at first -/
theorem BI.put {H H2 : Hp} {b c q : Addr} {ks : List (List Key)} {ms ms' : List Lk} {n n' : Nat} {xs xs' : List V} (h : BI H H2 b c q ks ms n) (hc : c ≠ q) (e : H2 q = some (.lst xs)) (r : LVs H2 xs' ms') (hn : ms'.length ≤ n') (wf : WF ks ms') (td : Tied ks ms') : BI H (upd H2 q (.lst xs')) b c q ks ms' n' :=
  ⟨h.fr, h.k.then_put h.fr, h.bag.putL e hc, ⟨xs', upd_same, lvs_mono r (put_tp e fun _ z => by cases z)⟩, hn, wf, td⟩
/-- as it was, but for the bounds -/
def LkB (x m : Lk) : Prop := x.a = m.a ∧ x.b = m.b ∧ x.y = m.y
theorem WF.like {ks : List (List Key)} {ls ms : List Lk} (h : WF ks ls) (p : Paired LkB ms ls) : WF ks ms :=
  ⟨fun x hx => by
    obtain ⟨m, hm, e1, e2, e3⟩ := pr_mem p hx
    rw [e1]
    exact h.a m hm, fun x hx => by
    obtain ⟨m, hm, e1, e2, e3⟩ := pr_mem p hx
    rw [e2]
    exact h.b m hm, fun x hx => by
    obtain ⟨m, hm, e1, e2, e3⟩ := pr_mem p hx
    rw [e1, e2]
    exact h.ne m hm, fun x hx => by
    obtain ⟨m, hm, e1, e2, e3⟩ := pr_mem p hx
    rw [e3]
    exact h.y m hm⟩
theorem Tied.like {ks : List (List Key)} {ls ms : List Lk} (h : Tied ks ls) (p : Paired LkB ms ls) : Tied ks ms := h.mono fun l hl => by
  obtain ⟨x, hx, e1, e2, _⟩ := pr_mem2 p hl
  exact ⟨x, hx, e1, e2⟩
theorem nd_fl {N : Nat} : (fl N fun j => V.int (j : Nat)).Nodup := by
  unfold fl
  rw [List.nodup_iff_pairwise_ne, List.pairwise_map]
  exact (List.nodup_iff_pairwise_ne.mp List.nodup_range).imp fun h z => h (by
    injection z with z
    omega)
/-- the item before: the last one ahead of the first -/
theorem before_at {ys : List V} {i : Nat} (h2 : 2 ≤ ys.length) (hi : i < ys.length) : ∃ j, j < ys.length ∧ j ≠ i ∧ atI ys (0 + (i : Int) - 1) = ys[j]? := by
  by_cases h0 : i = 0
  · subst h0
    refine ⟨ys.length - 1, by omega, by omega, ?_⟩
    have e : (0 : Int) + ((0 : Nat) : Int) - 1 = -1 := by omega
    rw [e]
    unfold atI ixN
    rw [if_neg (by omega), if_pos (by omega)]
    have e2 : ((-1 : Int) + (ys.length : Int)).toNat = ys.length - 1 := by omega
    first
      | rw [e2]; rfl
      | simp [e2]
  · refine ⟨i - 1, by omega, by omega, ?_⟩
    have hx : i - 1 < ys.length := by omega
    rw [at_of (j := i - 1) (by omega) (List.getElem?_eq_getElem hx), List.getElem?_eq_getElem hx]
theorem five_ints {a b c d e : Int} {iv : Nat} {v : V} (h : ([.int a, .int b, .int c, .int d, .int e] : List V)[iv]? = some v) : ∃ z : Int, v = .int z := by
  match iv, h with
  | 0, h => cases h; exact ⟨_, rfl⟩
  | 1, h => cases h; exact ⟨_, rfl⟩
  | 2, h => cases h; exact ⟨_, rfl⟩
  | 3, h => cases h; exact ⟨_, rfl⟩
  | 4, h => cases h; exact ⟨_, rfl⟩
  | _ + 5, h => simp at h
theorem cut_to {xs : List V} {m : Nat} (h : m ≤ xs.length) {r : Int} (e : r = (m : Int)) : cutV xs none (some r) = xs.take m := by
  subst e
  unfold cutV
  rw [HT.sIx_none, HT.sIx_nat, Nat.min_eq_left h, List.drop_zero, Nat.sub_zero]
def spBent : Sp := fun vs H Q _ => ∃ (b c S Lv R : Addr) (ks : List (List Key)) (ls : List Lk), vs = [.ref b, .ref S, .ref Lv, .ref R] ∧ Bag H b c ∧ SpotsAt H S ks ∧ Sps ks ∧ IntsAt H Lv ks.length ∧ LinksAt H R ls ∧ ls.length ≤ 40 ∧ WF ks ls ∧ Tied ks ls ∧
  ∀ (R' : Addr) (ms : List Lk) (H' : Hp), FB H H' → Bag H' b c → LinksAt H' R' ms → ms.length ≤ 51 → WF ks ms → Tied ks ms → Q (.ref R') H'
section
variable {P : Program} {w : World} {K : PySem.W.Frag} {mg : Str → Option Value} {base : Heap}
theorem ok_bent (T : Tx K mg) (c_l_pick : Cal P w K mg base CX0 1 "_law_pick" ["_law_bag", "_law_many"] [] spPick) (c_l_choice : Cal P w K mg base CX0 2 "_law_choice" ["_law_bag", "_law_things"] [] (spChoice K)) (c_l_shuffled : Cal P w K mg base CX0 2 "_law_shuffled" ["_law_bag", "_law_things"] [] (spShuf K)) (c_l_why : Cal P w K mg base CX0 4 "_law_why" ["_law_bag"] [] spWhy) : Cal P w K mg base CX0 5 "_law_bent" ["_law_bag", "_law_spots", "_law_levels", "_law_links"] [] spBent := by
  obtain ⟨fd, F⟩ := T.f_l_bent
  refine ⟨_, fd, [], F.ok sc_l_bent (fun vs H Q E h => ?_) (fun cdv A outer s H vs Q E hr h => ?_), T.g_l_bent, F.kp, F.bindsN fun _ _ _ _ _ _ us hl => match us, hl with | [_, _, _, _], _ => rfl, .nil⟩
  · obtain ⟨b, c, S, Lv, R, ks, ls, rfl, _⟩ := h
    rfl
  obtain ⟨b, c, S, Lv, R, ks, ls, rfl, hB, hS, hs, hI, hL, hl, wf, td, kk⟩ := h
  have hu64 := hu64_of hr
  refine ⟨_, PSs.nox ((pss_cons (ps_set (i := 4) sc_l_bent.nd rfl (Or.inl rfl) (pcall c_l_pick hr (pa_cons (pv 0) (pa_cons pe_int pa_nil))))
        (pss_cons (ps_set (i := 5) sc_l_bent.nd rfl (Or.inl rfl) (pe_callTy (listofK K) (by rfl) T.b_list (by decide +kernel) (pa_cons (pv 3) pa_nil)))
        (Evl.pss_cut (ps_if (PW.pt (pw_and (pt_cmpR op_eq (pv 4) pe_int (nomark _)) (pw_and1 (pt_cmpR (neDK K hu64) (pv 5) (pe_lst pa_nil) (nomark _))))) (pss_one (ps_for PassesOwn.never rfl (pi_range1 (by rfl) T.b_range (pa_cons (pe_op op_add pe_int (pcall c_l_pick hr (pa_cons (pv 0) (pa_cons pe_int pa_nil)))) pa_nil)) (pg_name (i := 6) sc_l_bent.nd rfl (Or.inl rfl))
            (pss_cons (ps_set (i := 7) sc_l_bent.nd rfl (Or.inl rfl) (pcall c_l_pick hr (pa_cons (pv 0) (pa_cons (pe_callB (call_lenK K) (by rfl) T.b_len PySem.boot_len (pa_cons (pv 5) pa_nil)) pa_nil))))
            (pss_cons (ps_set (i := 8) sc_l_bent.nd rfl (Or.inl rfl) (pe_ix (ix_listK K) (pv 5) (pv 7) (fun _ _ => rfl)))
            (pss_one (ps_asg (pe_tup (pa_cons (pe_ix (ix_tupK K) (pv 8) pe_int (fun _ _ => rfl)) (pa_cons (pe_ix (ix_tupK K) (pv 8) pe_int (fun _ _ => rfl)) (pa_cons (pe_op op_sub (pe_op op_sub (pe_ix (ix_tupK K) (pv 8) pe_int (fun _ _ => rfl)) pe_int) (pcall c_l_choice hr (pa_cons (pv 0) (pa_cons (pe_lst (pa_cons pe_int (pa_cons pe_int (pa_cons pe_int (pa_cons pe_int (pa_cons pe_int pa_nil)))))) pa_nil)))) (pa_cons (pe_ix (ix_tupK K) (pv 8) pe_int (fun _ _ => rfl)) pa_nil))))) (pg_sub (pv 5) (pv 7) set_list))))))) pss_nil)
        (Evl.pss_cut (ps_if (PW.pt (pw_and (pt_cmpR op_eq (pv 4) pe_int (nomark _)) (pw_and1 (pt_cmpR op_gt (pe_callB (call_lenK K) (by rfl) T.b_len PySem.boot_len (pa_cons (pv 1) pa_nil)) pe_int (nomark _))))) (pss_cons (ps_set (i := 9) sc_l_bent.nd rfl (Or.inl rfl) (pe_slice (sl_listK K) (pcall c_l_shuffled hr (pa_cons (pv 0) (pa_cons (pe_lc (own := [("_law_k", 11)]) (g := gName 11) (tt := tYes) rfl sc_l_bent.nd (pi_range1 (by rfl) T.b_range (pa_cons (pe_callB (call_lenK K) (by rfl) T.b_len PySem.boot_len (pa_cons (pv 1) pa_nil)) pa_nil)) (blkOk_by (N := N_l_bent) (sc := defScope s_l_bent) (by decide +kernel)) (fun _ _ _ _ _ => (pg_name (i := 11) sc_l_bent.nd rfl (Or.inl rfl))) (fun _ _ _ _ _ => pts_nil) (fun _ _ _ _ _ => (pv 11))) pa_nil))) po_none (po_some (pe_op op_add pe_int (pcall c_l_pick hr (pa_cons (pv 0) (pa_cons (pe_op op_sub (pe_callB (call_lenK K) (by rfl) T.b_len PySem.boot_len (pa_cons (pv 1) pa_nil)) pe_int) pa_nil)))))))
          (pss_cons (ps_set (i := 10) sc_l_bent.nd rfl (Or.inl rfl) (pcall c_l_choice hr (pa_cons (pv 0) (pa_cons (pe_lst (pa_cons pe_int (pa_cons (pe_un un_neg pe_int) (pa_cons (pe_un un_neg pe_int) (pa_cons (pe_un un_neg pe_int) (pa_cons (pe_un un_neg pe_int) pa_nil)))))) pa_nil))))
          (pss_one (ps_for PassesOwn.never rfl (pi_range1 (by rfl) T.b_range (pa_cons (pe_callB (call_lenK K) (by rfl) T.b_len PySem.boot_len (pa_cons (pv 9) pa_nil)) pa_nil)) (pg_name (i := 11) sc_l_bent.nd rfl (Or.inl rfl))
            (pss_cons (ps_set (i := 12) sc_l_bent.nd rfl (Or.inl rfl) (pe_ix (ix_listK K) (pv 9) (pe_op op_sub (pv 11) pe_int) (fun _ _ => rfl)))
            (pss_cons (ps_set (i := 13) sc_l_bent.nd rfl (Or.inl rfl) (pe_ix (ix_listK K) (pv 9) (pv 11) (fun _ _ => rfl)))
            (Evl.pss_cut (ps_set (i := 14) sc_l_bent.nd rfl (Or.inl rfl) (pe_ifExp (pt_cmpR op_gt (pv 11) pe_int (nomark _)) pe_int (pv 10)))
            (pss_one (ps_expr (bmK K PySem.F.plainAttrs_list PySem.F.slot_list_append PySem.F.type_list_append mt_append (pv 5) (pa_cons (pe_tup (pa_cons (pe_ix (ix_listK K) (pv 1) (pv 12) (fun _ _ => rfl)) (pa_cons (pe_ix (ix_listK K) (pv 1) (pv 13) (fun _ _ => rfl)) (pa_cons (pe_op op_add (pe_op op_sub (pe_ix (ix_listK K) (pv 2) (pv 13) (fun _ _ => rfl)) (pe_ix (ix_listK K) (pv 2) (pv 12) (fun _ _ => rfl))) (pv 14)) (pa_cons (pcall c_l_why hr (pa_cons (pv 0) pa_nil)) pa_nil))))) pa_nil))))))))))) pss_nil)
        (Evl.pss_cut (ps_if (pt_cmpR op_eq (pv 4) pe_int (nomark _)) (pss_one (ps_setLc (i := 5) (own := [("_law_link", 8)]) (g := gName 8) (tt := tYes) rfl sc_l_bent.nd rfl rfl (sw_true rfl rfl rfl (by decide +kernel)) (pi_listK K (pv 5)) (blkOk_by (N := N_l_bent) (sc := defScope s_l_bent) (by decide +kernel)) (fun _ _ _ _ _ => (pg_name (i := 8) sc_l_bent.nd rfl (Or.inl rfl))) (fun _ _ _ _ _ => pts_nil) (fun _ _ _ _ _ => (pe_tup (pa_cons (pe_ix (ix_tupK K) (pv 8) pe_int (fun _ _ => rfl)) (pa_cons (pe_ix (ix_tupK K) (pv 8) pe_int (fun _ _ => rfl)) (pa_cons (pe_op op_sub (pcall c_l_pick hr (pa_cons (pv 0) (pa_cons pe_int pa_nil))) pe_int) (pa_cons (pe_ix (ix_tupK K) (pv 8) pe_int (fun _ _ => rfl)) pa_nil)))))))) pss_nil)
        (pss_one (ps_ret (pcall c_l_shuffled hr (pa_cons (pv 0) (pa_cons (pv 5) pa_nil))))))))))), ?_⟩
  have nd := hs.nd
  have hn := hs.n
  have hpos := hs.pos
  refine ⟨_, rfl, b, c, _, rfl, hB, by decide, by decide, fun way H1 w0 w1 k1 b1 => ?_⟩
  obtain ⟨ys, eL, rL⟩ := hL.fb k1
  have ly := pr_len rL
  refine ⟨_, rfl, R, ys, rfl, .inl (SqL.of eL), fun q hq => ?_⟩
  have s1 := same_new (o := .lst ys) hq
  have cq : c ≠ q := ne_of_none b1.cells.choose_spec hq
  have B0 : BI H (upd H1 q (.lst ys)) b c q ks ls 40 := ⟨k1.fr q hq, k1.trans (Pres.same s1), b1.same s1, ⟨ys, upd_same, lvs_mono rL (same_tp s1)⟩, hl, wf, td⟩
  generalize hH2 : upd H1 q (.lst ys) = H2 at B0 ⊢
  clear hH2 s1 hq ly eL rL k1 b1 ys H1
  -- bounds made lesser
  refine ⟨fun σ' H3 => ∃ (o6 o7 o8 : Option V) (ms : List Lk), σ' = [some (.ref b), some (.ref S), some (.ref Lv), some (.ref R), some (.int way), some (.ref q), o6, o7, o8, none, none, none, none, none, none] ∧ BI H H3 b c q ks ms 40, ?_, ?_⟩
  · refine ⟨_, rfl, rfl, _, rfl, ite2 (fun _ => ?_) (fun _ => ⟨_, _, _, ls, rfl, B0⟩)⟩
    obtain ⟨ys, e2, r2⟩ := id B0.li
    refine ⟨_, rfl, (show 0 ≤ sizeLine by decide), fun p hp => ?_⟩
    have s3 := same_new (o := .lst []) hp
    have B3 := B0.same s3
    refine ⟨_, _, lvs_dp (SqL.of (s3 _ _ e2)) (lvs_mono r2 (same_tp s3)), .lst (SqL.of upd_same) .nil, lvs_sh r2, by decide +kernel, _, rfl, ite2 (fun hne => ?_) (fun _ => ⟨_, _, _, ls, rfl, B3⟩)⟩
    have hne : ls ≠ [] := fun z => by
      subst z
      cases hne
    refine ⟨_, rfl, b, c, _, rfl, B3.bag, by decide, by decide, fun r H4 r0 r1 k4 b4 => ⟨_, _, rfl, rfl, _, rfl, by omega, by omega, for_range (fun i σ H5 => ∃ (o6 o7 o8 : Option V) (ms : List Lk), σ = [some (.ref b), some (.ref S), some (.ref Lv), some (.ref R), some (.int way), some (.ref q), o6, o7, o8, none, none, none, none, none, none] ∧ BI H H5 b c q ks ms 40 ∧ ms ≠ []) ⟨_, _, _, ls, rfl, B3.fb k4 b4, hne⟩ ?_ (fun σ H5 ⟨_, _, _, ms, e, B, _⟩ => ⟨_, _, _, ms, e, B⟩)⟩⟩
    rintro i σ H5 hi ⟨o6, o7, o8, ms, rfl, B5, ne⟩
    obtain ⟨zs, e5, r5⟩ := id B5.li
    have lz := pr_len r5
    have l40 := B5.len
    have z1 : 1 ≤ zs.length := by
      rw [lz]
      exact List.length_pos_iff.mpr ne
    refine ⟨_, rfl, _, rfl, _, zs.length, rfl, .inl ⟨_, SqL.of e5, rfl⟩, b, c, _, rfl, B5.bag, by omega, by omega, fun r H6 r0 r1 k6 b6 => ?_⟩
    obtain ⟨ip, rfl, hip⟩ := pos_nat r0 r1
    have hip : ip < zs.length := by omega
    have B6 := B5.fb k6 b6
    have e6 := fb_free k6 e5 True.intro
    obtain ⟨l, hl6, lv⟩ := pr_get (lvs_mono r5 (fb_tp k6)) (List.getElem?_eq_getElem hip)
    obtain ⟨p6, xa, xb, xz, ep6, eq6, hxa, hxb, hxz⟩ := id lv
    refine ⟨_, rfl, _, rfl, q, _, _, _, rfl, rfl, SqL.of e6, atI_nat (List.getElem?_eq_getElem hip), ?_⟩
    rw [ep6]
    refine ⟨_, rfl, p6, _, _, _, rfl, rfl, SqT.of eq6, atI_nat (j := 0) rfl, _, rfl, p6, _, _, _, rfl, rfl, SqT.of eq6, atI_nat (j := 1) rfl, _, rfl, p6, _, _, _, rfl, rfl, SqT.of eq6, atI_nat (j := 2) rfl, _, _, rfl, rfl, _, rfl, (show 5 ≤ sizeLine by decide), fun pc hpc => ?_⟩
    have s7 := same_new (o := .lst [.int 0, .int 0, .int 2, .int 7, .int 60]) hpc
    have B7 := B6.same s7
    refine ⟨b, c, _, rfl, B7.bag, .inl ⟨pc, _, rfl, .inl (SqL.of upd_same), (show 1 ≤ 5 by decide), (show 5 ≤ 1000 by decide), fun iv v2 H8 hv2 k8 b8 => ?_⟩⟩
    obtain ⟨z, rfl⟩ := five_ints hv2
    have B8 := B7.fb k8 b8
    have tp8 := TP.trans (same_tp s7) (fb_tp k8)
    refine ⟨_, _, rfl, rfl, _, rfl, p6, _, _, _, rfl, rfl, SqT.of (tp8 _ _ eq6), atI_nat (j := 3) rfl, (show 4 ≤ sizeLine by decide), fun t ht => ?_⟩
    have s9 := same_new (o := .tup [xa, xb, .int (l.w - 1 - z), xz]) ht
    have B9 := B8.same s9
    have e9 := s9 _ _ (fb_free k8 (s7 _ _ e6) True.intro)
    have tp9 := TP.trans tp8 (same_tp s9)
    refine ⟨_, rfl, _, rfl, q, zs, (ip : Int), ip, rfl, rfl, e9, ixn rfl hip, ?_⟩
    exact ⟨_, _, _, ms.set ip ⟨l.a, l.b, l.w - 1 - z, l.y⟩, rfl, B9.put cq e9 (pr_set (R := LV _) (y := ⟨l.a, l.b, l.w - 1 - z, l.y⟩) ⟨t, xa, xb, xz, rfl, upd_same, hxa.mono tp9, hxb.mono tp9, hxz.mono tp9⟩ ip (lvs_mono r5 (TP.trans (fb_tp k6) tp9))) (by rw [List.length_set]; exact l40) (B5.wf.set hl6 _) (B5.td.set hl6 _), fun z => ne (by
      have := congrArg List.length z
      rw [List.length_set] at this
      exact List.length_eq_zero_iff.mp this)⟩
  clear B0 H2 wf td hl
  rintro σ' H3 ⟨o6, o7, o8, ms, rfl, B3⟩
  -- a ring put in
  refine ⟨fun σ' H4 => ∃ (o6 o7 o8 o9 o10 o11 o12 o13 o14 : Option V) (ms : List Lk), σ' = [some (.ref b), some (.ref S), some (.ref Lv), some (.ref R), some (.int way), some (.ref q), o6, o7, o8, o9, o10, o11, o12, o13, o14] ∧ BI H H4 b c q ks ms 51, ?_, ?_⟩
  · refine ⟨_, rfl, rfl, _, rfl, ite2 (fun _ => ?_) (fun _ => ⟨_, _, _, _, _, _, _, _, _, ms, rfl, B3.up (by decide)⟩)⟩
    have hS3 := hS.fb B3.k
    obtain ⟨⟨xs, eS, rS⟩, _, g0, isp⟩ := id hS3
    have lx := pr_len rS
    refine ⟨_, rfl, _, xs.length, rfl, .inl ⟨_, SqL.of eS, rfl⟩, _, _, rfl, rfl, _, rfl, ite2 (fun hgt => ?_) (fun _ => ⟨_, _, _, _, _, _, _, _, _, ms, rfl, B3.up (by decide)⟩)⟩
    have hgt : (1 : Int) < (xs.length : Nat) := of_decide_eq_true hgt
    refine ⟨_, rfl, _, rfl, _, xs.length, rfl, .inl ⟨_, SqL.of eS, rfl⟩, _, rfl, by omega, by omega, fun D hD => lc_range (fun i H5 => H5 D = some (.lst (fl i fun j => .int (j : Nat))) ∧ Same H3 H5) ⟨upd_same, same_new hD⟩ ?_ ?_⟩
    · rintro i H5 hi ⟨e5, s5⟩
      refine ⟨rfl, _, rfl, _, e5, small1000 (by rw [fl_len]; omega), ?_, fun cc o e => ?_⟩
      · rw [upd_same, fl_succ, Int.zero_add]
      · rw [upd_ne (ne_of_none e hD)]
        exact s5 _ _ e
    rintro H5 ⟨e5, s5⟩
    have l5 : (fl xs.length fun j => V.int (j : Nat)).length = xs.length := fl_len
    have e5' : H5 D = some (.lst (fl xs.length fun j => .int (j : Nat))) := by
      have en : ((xs.length : Int)).toNat = xs.length := by omega
      first
        | exact e5
        | (rw [en] at e5; exact e5)
    have B5 := B3.same s5
    have eS5 := s5 _ _ eS
    refine ⟨b, c, D, _, rfl, B5.bag, SqL.of e5', by omega, fun q2 zs H6 k6 b6 _ e6 perm => ?_⟩
    have B6 := B5.fb k6 b6
    have eS6 := fb_free k6 eS5 True.intro
    have lz : zs.length = xs.length := perm.length_eq.symm.trans l5
    refine ⟨_, rfl, _, rfl, _, xs.length, rfl, .inl ⟨_, SqL.of eS6, rfl⟩, _, _, rfl, rfl, b, c, _, rfl, B6.bag, by omega, by omega, fun r H7 r0 r1 k7 b7 => ⟨_, _, rfl, rfl, _, rfl, q2, zs, rfl, SqL.of (fb_free k7 e6 True.intro), fun Q2 hQ2 => ?_⟩⟩
    have B7 := B6.fb k7 b7
    obtain ⟨m, em⟩ : ∃ m : Nat, (2 : Int) + r = (m : Int) := ⟨((2 : Int) + r).toNat, by omega⟩
    rw [cut_to (m := m) (by omega) em]
    have lf : (zs.take m).length = m := by
      rw [List.length_take]
      omega
    have few : ∀ (i : Nat) v, (zs.take m)[i]? = some v → ∃ j : Nat, v = .int (j : Nat) ∧ j < xs.length := fun i v hv => by
      have mv : v ∈ fl xs.length fun j => V.int (j : Nat) := perm.mem_iff.mpr (List.mem_of_mem_take (List.mem_of_getElem? hv))
      obtain ⟨j, hj, e⟩ := List.mem_map.mp mv
      exact ⟨j, e.symm, List.mem_range.mp hj⟩
    have ndf : (zs.take m).Nodup := (perm.nodup nd_fl).sublist (List.take_sublist m zs)
    have lf2 : 2 ≤ (zs.take m).length := by omega
    have lfn : (zs.take m).length ≤ xs.length := by omega
    generalize hys : zs.take m = ys at lf few ndf lf2 lfn ⊢
    have s8 := same_new (o := .lst ys) hQ2
    have B8 := B7.same s8
    have eQ8 : (upd H7 Q2 (.lst ys)) Q2 = some (.lst ys) := upd_same
    generalize hH8 : upd H7 Q2 (.lst ys) = H8 at s8 B8 eQ8 ⊢
    obtain ⟨q8s, eq8, rq8⟩ := id B8.li
    have nQq : Q2 ≠ q := by
      obtain ⟨q7s, eq7, _⟩ := B7.li
      exact (ne_of_none eq7 hQ2).symm
    -- the rest
    refine ⟨_, rfl, _, rfl, _, rfl, _, rfl, _, rfl, (show 5 ≤ sizeLine by decide), fun pc hpc => ?_⟩
    have s9 := same_new (o := .lst [.int 0, .int (-1), .int (-1), .int (-2), .int (-40)]) hpc
    have B9 := B8.same s9
    refine ⟨b, c, _, rfl, B9.bag, .inl ⟨pc, _, rfl, .inl (SqL.of upd_same), (show 1 ≤ 5 by decide), (show 5 ≤ 1000 by decide), fun iv v2 H10 hv2 k10 b10 => ?_⟩⟩
    obtain ⟨rest, rfl⟩ := five_ints hv2
    have B10 := B9.fb k10 b10
    have eQ10 := fb_free k10 (s9 _ _ eQ8) True.intro
    refine ⟨_, rfl, _, ys.length, rfl, .inl ⟨_, SqL.of eQ10, rfl⟩, _, rfl, by omega, by omega, for_range (fun i σ H11 => ∃ (o11 o12 o13 o14 : Option V) (ms : List Lk), σ = [some (.ref b), some (.ref S), some (.ref Lv), some (.ref R), some (.int way), some (.ref q), o6, o7, o8, some (.ref Q2), some (.int rest), o11, o12, o13, o14] ∧ BI H H11 b c q ks ms (40 + i) ∧ H11 Q2 = some (.lst ys)) ⟨_, _, _, _, ms, rfl, B10, eQ10⟩ ?_ ?_⟩
    · rintro i σ H11 hi ⟨o11, o12, o13, o14, ns, rfl, B11, eQ11⟩
      have hi : i < ys.length := by omega
      obtain ⟨j, hj, hji, hat⟩ := before_at lf2 hi
      obtain ⟨ja, eja, hja⟩ := few j ys[j] (List.getElem?_eq_getElem hj)
      obtain ⟨jb, ejb, hjb⟩ := few i ys[i] (List.getElem?_eq_getElem hi)
      have nab : ja ≠ jb := fun z => hji (nd_ix ndf (List.getElem?_eq_getElem hj) (by rw [List.getElem?_eq_getElem hi, eja, ejb, z]))
      refine ⟨_, rfl, _, rfl, _, _, rfl, rfl, Q2, ys, _, .int (ja : Nat), rfl, rfl, SqL.of eQ11, by rw [hat, List.getElem?_eq_getElem hj, eja], ?_⟩
      refine ⟨_, rfl, _, rfl, Q2, ys, _, .int (jb : Nat), rfl, rfl, SqL.of eQ11, by rw [at_of (j := i) (by omega) (List.getElem?_eq_getElem hi), ejb], ?_⟩
      refine ⟨fun σ' H12 => H12 = H11 ∧ ∃ z : Int, σ' = [some (.ref b), some (.ref S), some (.ref Lv), some (.ref R), some (.int way), some (.ref q), o6, o7, o8, some (.ref Q2), some (.int rest), some (.int (0 + (i : Int))), some (.int (ja : Nat)), some (.int (jb : Nat)), some (.int z)], ?_, ?_⟩
      · exact ⟨_, rfl, _, _, rfl, rfl, _, rfl, ite2 (fun _ => ⟨rfl, _, rfl⟩) (fun _ => ⟨_, rfl, rfl, _, rfl⟩)⟩
      rintro σ' H12 ⟨rfl, z, rfl⟩
      obtain ⟨ns0, e12, r12⟩ := id B11.li
      have ln := pr_len r12
      have ln2 := B11.len
      obtain ⟨ws, eS12, rS12⟩ := (hS.fb B11.k).l
      have lw := pr_len rS12
      have hI12 := hI.fb B11.k
      have hwa : ja < ws.length := by omega
      have hwb : jb < ws.length := by omega
      obtain ⟨ka, hka, tka⟩ := pr_get rS12 (List.getElem?_eq_getElem hwa)
      obtain ⟨kb, hkb, tkb⟩ := pr_get rS12 (List.getElem?_eq_getElem hwb)
      obtain ⟨lv, za, f1, z1⟩ := hI12.get (i := ja) (by omega)
      obtain ⟨lv', zb, f2, z2⟩ := hI12.get (i := jb) (by omega)
      rw [f1] at f2
      cases f2
      refine ⟨_, rfl, .inl ⟨rfl, _, SqL.of e12⟩, _, rfl, _, rfl, S, ws, _, _, rfl, rfl, SqL.of eS12, atI_nat (List.getElem?_eq_getElem hwa), _, rfl, _, rfl, S, ws, _, _, rfl, rfl, SqL.of eS12, atI_nat (List.getElem?_eq_getElem hwb), ?_⟩
      refine ⟨_, rfl, _, rfl, Lv, lv, _, .int zb, rfl, rfl, SqL.of f1, atI_nat z2, _, rfl, _, rfl, Lv, lv, _, .int za, rfl, rfl, SqL.of f1, atI_nat z1, _, _, rfl, rfl, _, rfl, _, _, rfl, rfl, ?_⟩
      refine ⟨_, rfl, b, c, rfl, B11.bag, fun v y H13 k13 b13 ty ny => ⟨(show 4 ≤ sizeLine by decide), fun t ht => ?_⟩⟩
      have s14 := same_new (o := .tup [ws[ja], ws[jb], .int (zb - za + z), v]) ht
      have B14 := (B11.fb k13 b13).same s14
      have e14 := s14 _ _ (fb_free k13 e12 True.intro)
      have tp := TP.trans (fb_tp k13) (same_tp s14)
      refine ⟨q, ns0, .ref t, rfl, rfl, e14, small1000 (by omega), _, _, _, _, ns ++ [⟨ka, kb, zb - za + z, y⟩], rfl, B14.put cq e14 (pr_snoc (lvs_mono r12 tp) ⟨t, ws[ja], ws[jb], v, rfl, upd_same, tka.mono tp, tkb.mono tp, ty.mono (same_tp s14)⟩) (by rw [List.length_append]; show ns.length + 1 ≤ 40 + (i + 1); omega) (B11.wf.snoc (List.mem_of_getElem? hka) (List.mem_of_getElem? hkb) (nd_ne nd hka hkb nab) ny) (B11.td.app _), ?_⟩
      rw [upd_ne nQq]
      exact s14 _ _ (fb_free k13 eQ11 True.intro)
    · rintro σ H11 ⟨o11, o12, o13, o14, ns, rfl, B11, _⟩
      exact ⟨_, _, _, _, _, _, _, _, _, ns, rfl, B11.up (by omega)⟩
  clear B3 H3 ms
  rintro σ' H4 ⟨_, _, _, o9, o10, o11, o12, o13, o14, ms, rfl, B4⟩
  -- bounds drawn
  refine ⟨fun σ' H5 => ∃ (o6 o7 o8 o9 o10 o11 o12 o13 o14 : Option V) (q' : Addr) (ms : List Lk), σ' = [some (.ref b), some (.ref S), some (.ref Lv), some (.ref R), some (.int way), some (.ref q'), o6, o7, o8, o9, o10, o11, o12, o13, o14] ∧ BI H H5 b c q' ks ms 51, ?_, ?_⟩
  · refine ⟨_, rfl, rfl, _, rfl, ite2 (fun _ => ?_) (fun _ => ⟨_, _, _, _, _, _, _, _, _, q, ms, rfl, B4⟩)⟩
    obtain ⟨zs, e4, r4⟩ := id B4.li
    have lz := pr_len r4
    have l51 := B4.len
    refine ⟨_, rfl, q, rfl, ⟨_, SqL.of e4⟩, fun D hD => lc_list (K := K) (a := q) (xs := zs) (fun i H5 => ∃ (acc : List V) (ns : List Lk), H5 D = some (.lst acc) ∧ acc.length = i ∧ LVs H5 acc ns ∧ Paired LkB ns (ms.take i) ∧ FB H4 H5 ∧ Bag H5 b c) ⟨[], [], upd_same, rfl, .nil, .nil, Pres.new hD, B4.bag.same (same_new hD)⟩ (fun i H5 _ ⟨_, _, _, _, _, _, k, _⟩ => SqL.of (fb_free k e4 True.intro)) ?_ ?_⟩
    · rintro i x H5 hx ⟨acc, ns, eD, la, ra, pa, k5, b5⟩
      obtain ⟨l, hl', lv⟩ := pr_get (lvs_mono r4 (fb_tp k5)) hx
      have hi := (List.getElem?_eq_some_iff.mp hx).1
      obtain ⟨p, xa, xb, xz, rfl, eq, hxa, hxb, hxz⟩ := id lv
      refine ⟨rfl, _, rfl, p, _, _, _, rfl, rfl, SqT.of eq, atI_nat (j := 0) rfl, _, rfl, p, _, _, _, rfl, rfl, SqT.of eq, atI_nat (j := 1) rfl, _, rfl, b, c, _, rfl, b5, by decide, by decide, fun r H6 r0 r1 k6 b6 => ⟨_, _, rfl, rfl, _, rfl, p, _, _, _, rfl, rfl, SqT.of (fb_tp k6 _ _ eq), atI_nat (j := 3) rfl, (show 4 ≤ sizeLine by decide), fun t ht => ?_⟩⟩
      have s7 := same_new (o := .tup [xa, xb, .int (r - 3), xz]) ht
      have eD7 := s7 _ _ (fb_free k6 eD True.intro)
      have tp := TP.trans (fb_tp k6) (same_tp s7)
      have tp2 : TP (upd H6 t (.tup [xa, xb, .int (r - 3), xz])) (upd (upd H6 t (.tup [xa, xb, .int (r - 3), xz])) D (.lst (acc ++ [.ref t]))) := put_tp eD7 fun _ z => by cases z
      have tp3 := TP.trans tp tp2
      have cD : c ≠ D := ne_of_none B4.bag.cells.choose_spec hD
      refine ⟨acc, eD7, small1000 (by omega), acc ++ [.ref t], ns ++ [⟨l.a, l.b, r - 3, l.y⟩], upd_same, by rw [List.length_append, la]; rfl, pr_snoc (lvs_mono ra tp3) ⟨t, xa, xb, xz, rfl, tp2 _ _ upd_same, hxa.mono tp3, hxb.mono tp3, hxz.mono tp3⟩, ?_, ((k5.trans k6).trans (Pres.same s7)).then_put hD, (b6.same s7).putL eD7 cD⟩
      rw [take_snoc hl']
      exact pr_snoc pa ⟨rfl, rfl, rfl⟩
    · rintro H5 ⟨acc, ns, eD, la, ra, pa, k5, b5⟩
      rw [lz, List.take_length] at pa
      have ln : ns.length = ms.length := pr_len pa
      exact ⟨_, _, _, _, _, _, _, _, _, D, ns, rfl, B4.k.fr D hD, B4.k.trans k5, b5, ⟨acc, eD, ra⟩, by omega, B4.wf.like pa, B4.td.like pa⟩
  rintro σ' H5 ⟨_, _, _, _, _, _, _, _, _, q', ns, rfl, B5⟩
  obtain ⟨zs, e5, r5⟩ := id B5.li
  have lz := pr_len r5
  have l51 := B5.len
  refine ⟨_, rfl, _, rfl, b, c, q', zs, rfl, B5.bag, SqL.of e5, by omega, fun Q' ws H6 k6 b6 _ e6 perm => ?_⟩
  obtain ⟨us, pu, ru⟩ := pr_perm perm r5
  exact kk Q' us H6 (B5.k.trans k6) b6 ⟨ws, e6, lvs_mono ru (fb_tp k6)⟩ (by rw [← pu.length_eq]; exact l51) (B5.wf.perm pu) (B5.td.perm pu)
end
end Ell
set_option maxHeartbeats 4000000
namespace Ell
open PySem PySem.Spec PyProof.Rows L2
/-! ### the law -/
def spLaw (K : PySem.W.Frag) : Sp := fun vs H Q _ => ∃ (a : Addr) (ns : List Int), vs = [.ref a] ∧ SqL K H a (ns.map V.int) ∧ ns.length ≤ 63 ∧ ∀ H', Q (.bl true) H'
section
variable {P : Program} {w : World} {K : PySem.W.Frag} {mg : Str → Option Value} {base : Heap}
theorem ok_law {fd : FuncData} (T : Tx K mg) (F : FunD K "law" "law" (defArgs s_law) (defBody s_law) (defScope s_law) [] [] (He.ga K "law") fd) (c_l_bag_of : Cal P w K mg base CX0 1 "_law_bag_of" ["_law_script"] [] (spBag K)) (c_l_pick : Cal P w K mg base CX0 1 "_law_pick" ["_law_bag", "_law_many"] [] spPick) (c_l_one_in : Cal P w K mg base CX0 2 "_law_one_in" ["_law_bag", "_law_many"] [] spOneIn) (c_l_net : Cal P w K mg base CX0 5 "_law_net" ["_law_bag", "_law_many", "_law_groups"] [] spNet) (c_l_bent : Cal P w K mg base CX0 5 "_law_bent" ["_law_bag", "_law_spots", "_law_levels", "_law_links"] [] spBent) (c_Web_init_1 : CalC P w K mg base CX0 4 "Web" (cWeb K) ["self", "spots", "links", "sure"] [.bl false] (spWebInit K)) (c_l_closed : Cal P w K mg base CX0 3 "_law_closed" ["_law_spots", "_law_links"] [] spClosed) (c_l_sound : Cal P w K mg base CX0 1 "_law_sound" ["_law_rows"] [] spSoundL) (c_l_has_worlds : Cal P w K mg base CX0 8 "_law_has_worlds" ["_law_bag", "_law_web", "_law_spots", "_law_links", "_law_rows"] [] (spHasWorlds K)) (c_l_grown_well : Cal P w K mg base CX0 8 "_law_grown_well" ["_law_bag", "_law_web", "_law_spots", "_law_links", "_law_rows"] [] (spGrownL K)) (c_Web_bad_ring : CalM P w K mg base CX0 3 (cWeb K) "bad_ring" ["self"] [] (spBadRing K)) (c_l_ring_holds : Cal P w K mg base CX0 4 "_law_ring_holds" ["_law_links", "_law_told"] [] (spRingHolds K)) (c_l_all_clash : Cal P w K mg base CX0 10 "_law_all_clash" ["_law_bag", "_law_web", "_law_spots", "_law_links"] [] (spAllClash K)) (c_l_loosened_well : Cal P w K mg base CX0 9 "_law_loosened_well" ["_law_bag", "_law_spots", "_law_links"] [] (spLoosened K)) : FnOk P w K mg base CX0 11 (He.ga K "law") fd ["_law_script"] (spLaw K) := by
  refine F.ok sc_law (fun vs H Q E h => ?_) (fun cdv A outer s H vs Q E hr h => ?_)
  · obtain ⟨a, ns, rfl, _⟩ := h
    rfl
  obtain ⟨a, ns, rfl, hA, hlen, kk⟩ := h
  refine ⟨_, PSs.nox ((pss_cons (ps_set (i := 1) sc_law.nd rfl (Or.inl rfl) (pcall c_l_bag_of hr (pa_cons (pv 0) pa_nil)))
        (pss_cons (ps_set (i := 2) sc_law.nd rfl (Or.inl rfl) (pcall c_l_pick hr (pa_cons (pv 1) (pa_cons pe_int pa_nil))))
        (Evl.pss_cut (ps_if (pt_val (pcall c_l_one_in hr (pa_cons (pv 1) (pa_cons pe_int pa_nil)))) (pss_one (ps_set (i := 2) sc_law.nd rfl (Or.inl rfl) (pe_op op_add pe_int (pcall c_l_pick hr (pa_cons (pv 1) (pa_cons pe_int pa_nil)))))) pss_nil)
        (pss_cons (ps_asg (pcall c_l_net hr (pa_cons (pv 1) (pa_cons (pv 2) (pa_cons pe_int pa_nil)))) (pg_tupK (n := 3) K rfl (pgs_cons (pg_name (i := 3) sc_law.nd rfl (Or.inl rfl)) (pgs_cons (pg_name (i := 4) sc_law.nd rfl (Or.inl rfl)) (pgs_cons (pg_name (i := 5) sc_law.nd rfl (Or.inl rfl)) pgs_nil)))))
        (pss_cons (ps_set (i := 5) sc_law.nd rfl (Or.inl rfl) (pcall c_l_bent hr (pa_cons (pv 1) (pa_cons (pv 3) (pa_cons (pv 4) (pa_cons (pv 5) pa_nil))))))
        (pss_cons (ps_set (i := 6) sc_law.nd rfl (Or.inl rfl) (pmake c_Web_init_1 hr (pa_cons (pv 3) (pa_cons (pv 5) pa_nil))))
        (pss_cons (ps_set (i := 7) sc_law.nd rfl (Or.inl rfl) (pcall c_l_closed hr (pa_cons (pv 3) (pa_cons (pv 5) pa_nil))))
        (pss_cons (ps_if (pt_val (pcall c_l_sound hr (pa_cons (pv 7) pa_nil))) (pss_cons (ps_if (pt_not (pt_val (pcall c_l_has_worlds hr (pa_cons (pv 1) (pa_cons (pv 6) (pa_cons (pv 3) (pa_cons (pv 5) (pa_cons (pv 7) pa_nil)))))))) (pss_one (ps_ret pe_bl)) pss_nil)
          (pss_cons (ps_if (PW.pt (pw_and (pt_cmpR op_gt (pv 2) pe_int (nomark _)) (pw_and1 (pt_not (pt_val (pcall c_l_grown_well hr (pa_cons (pv 1) (pa_cons (pv 6) (pa_cons (pv 3) (pa_cons (pv 5) (pa_cons (pv 7) pa_nil))))))))))) (pss_one (ps_ret pe_bl)) pss_nil)
          (pss_one (ps_ret (pe_cmpR op_isN (pmeth0 c_Web_bad_ring hr (pv 6)) pe_non (nomark _)))))) pss_nil)
        (pss_cons (ps_if (PW.pt (pw_or (pt_not (pt_val (pcall c_l_ring_holds hr (pa_cons (pv 5) (pa_cons (pmeth0 c_Web_bad_ring hr (pv 6)) pa_nil))))) (pw_or1 (pt_not (pt_val (pcall c_l_all_clash hr (pa_cons (pv 1) (pa_cons (pv 6) (pa_cons (pv 3) (pa_cons (pv 5) pa_nil)))))))))) (pss_one (ps_ret pe_bl)) pss_nil)
        (pss_one (ps_ret (pe_and (pcall c_l_loosened_well hr (pa_cons (pv 1) (pa_cons (pv 3) (pa_cons (pv 5) pa_nil)))) (pe_one (pcall c_l_ring_holds hr (pa_cons (pv 5) (pa_cons (pmeth0 c_Web_bad_ring hr (pv 6)) pa_nil))))))))))))))))), ?_⟩
  refine ⟨_, rfl, a, ns, rfl, hA, hlen, fun b c H1 s1 b1 => ?_⟩
  refine ⟨_, rfl, b, c, _, rfl, b1, by decide, by decide, fun r H2 r0 r1 k2 b2 => ?_⟩
  refine ⟨fun σ' H3 => ∃ z : Int, σ' = [some (.ref a), some (.ref b), some (.int z), none, none, none, none, none] ∧ 0 ≤ z ∧ z ≤ 10 ∧ Bag H3 b c, ?_, ?_⟩
  · refine ⟨_, rfl, b, c, _, rfl, b2, by decide, by decide, fun d H3 k3 b3 => ⟨d, rfl, ite2 (fun _ => ?_) (fun _ => ⟨_, rfl, r0, by omega, b3⟩)⟩⟩
    exact ⟨_, rfl, b, c, _, rfl, b3, by decide, by decide, fun r2 H4 r20 r21 k4 b4 => ⟨_, _, rfl, rfl, _, rfl, by omega, by omega, b4⟩⟩
  rintro σ' H3 ⟨z, rfl, z0, z1, b3⟩
  obtain ⟨n, rfl⟩ : ∃ n : Nat, z = (n : Int) := ⟨z.toNat, by omega⟩
  refine ⟨_, rfl, _, rfl, b, c, n, rfl, b3, by omega, fun p S Lv R ks ls H4 k4 b4 ep hS lk hI hL ll wf td => ?_⟩
  have hs : Sps ks := ⟨hS.nd, hS.g, hS.sp, by omega⟩
  refine ⟨p, _, rfl, SqT.of ep, rfl, _, _, rfl, _, _, rfl, _, _, rfl, rfl, ?_⟩
  refine ⟨_, rfl, _, rfl, _, rfl, _, rfl, b, c, S, Lv, R, ks, ls, rfl, b4, hS, hs, (by rw [lk]; exact hI), hL, ll, wf, td, ?_⟩
  clear wf td hL ll ls
  intro L ls H5 k5 b5 hL5 ll wf td
  have hS5 := hS.fb k5
  obtain ⟨as, ar⟩ := arcs_of wf
  have con := conn_of hs ar td
  -- the web
  refine ⟨_, rfl, _, rfl, ?_⟩
  intro W dx hO hdx hnx
  have sO : Same H5 (upd (upd H5 dx (.own W)) W (.ins (cWeb K) dx [])) := (same_new hdx).trans (same_new (by rw [upd_ne hnx.symm]; exact hO))
  refine ⟨W, dx, S, L, false, ks, ls, as, rfl, upd_same, .inl (hS5.same sO).l, .inl (hL5.same sO), hs, wf, ar, by omega, con, fun _ => td, fun F H6 p6 hF6 w6 => ⟨rfl, ?_⟩⟩
  have s6 := make_same hO hdx p6
  have hS6 := hS5.same s6
  have hL6 := hL5.same s6
  have hn := hs.n
  -- the table
  refine ⟨_, rfl, _, rfl, S, L, ks, ls, as, rfl, hS6, by omega, hL6, by omega, ar, fun D Tb H7 s7 ta tab => ?_⟩
  have J7 : HJ K H7 b c W F S L D ks ls as .new Tb := ⟨(b5.same s6).same s7, w6.same s7, hS6.same s7, hL6.same s7, ta⟩
  have bnd := J7.web.bnd
  refine ⟨_, rfl, D, ks.length, Tb, rfl, J7.ta, by omega, fun k hk => ?_, fun H8 sd s8 hsd => ⟨sd, rfl, ite2 (fun hb => ?_) (fun hb => ?_)⟩⟩
  · obtain ⟨z, hz, _⟩ := tab.dg k hk 0 rfl
    exact ⟨z, hz⟩
  · -- worlds
    have nr := no_ring hs.nd ar bnd tab (hsd.mp hb)
    have J8 := J7.same s8
    have fin : ∀ (σ : L2.St) (H : Hp), σ[6]? = some (some (.ref W)) → WebAt K H W F ks ls as .sound → tRet (tOp (fun x y H Q => y = .non ∧ Q (.bl (decide (x = .non))) H) (tMeth (cWeb K) "bad_ring" (spBadRing K) [] E0 (tVar 6) tNil) (tC .non)) { nx := fun _ H' => Q .non H', rt := Q } σ H := fun σ H e w => by
      obtain ⟨dx1, fs1, eW1, lk1⟩ := w.meth "bad_ring" (by decide)
      exact ⟨_, e, W, _, _, rfl, eW1, lk1, W, F, ks, ls, as, .sound, rfl, w, fun H' k' w' => ⟨rfl, kk _⟩, fun H' Br r k' w' _ hr => absurd hr (nr r)⟩
    refine ⟨_, rfl, _, rfl, _, rfl, _, rfl, _, rfl, b, c, W, F, S, L, D, ks, ls, as, .new, Tb, rfl, J8, tab, nr, fun H9 k9 J9 => ⟨true, rfl, ?_⟩⟩
    refine ⟨_, rfl, _, _, rfl, rfl, _, rfl, ite2 (fun hm => ?_) (fun _ => fin _ _ (by rfl) J9.web)⟩
    have hm : (0 : Int) < (n : Int) := of_decide_eq_true hm
    have ne : ls ≠ [] := fun z => by
      subst z
      obtain ⟨⟨j, l, _, h2, _⟩, _⟩ := td 1 (by omega) (by omega)
      cases h2
    exact ⟨_, rfl, _, rfl, _, rfl, _, rfl, _, rfl, b, c, W, F, S, L, D, ks, ls, as, Tb, rfl, J9, tab, by omega, by omega, ne, fun H10 b10 w10 => ⟨true, rfl, fin _ _ (by rfl) w10⟩⟩
  · -- a clash
    have np : NoPot as := by
      refine Classical.byContradiction fun h => hb ?_
      rw [hsd]
      intro k z hk e
      refine Classical.byContradiction fun hz => h (no_pot tab e (by omega))
    have ne : ls ≠ [] := fun z => by
      subst z
      cases ar
      exact np (fun _ => 0) fun e h => by cases h
    have J8 := J7.same s8
    obtain ⟨dx1, fs1, eW1, lk1⟩ := J8.web.meth "bad_ring" (by decide)
    have isp : ∀ l ∈ ls, IsSp l.a ∧ IsSp l.b := fun l hl => ⟨hs.sp _ (wf.a l hl), hs.sp _ (wf.b l hl)⟩
    refine ⟨_, rfl, _, rfl, W, _, _, rfl, eW1, lk1, W, F, ks, ls, as, .new, rfl, J8.web, fun H9 k9 w9 => ?_, fun H9 Br r k9 w9 hB9 hr9 => ?_⟩
    · obtain ⟨q, hq⟩ := w9.pot
      exact absurd hq (np q)
    have J9 := J8.fwb k9 w9
    refine ⟨L, Br, ls, r, rfl, hB9, J9.li, hr9, by omega, isp, fun H10 s10 => ⟨true, rfl, ?_⟩⟩
    have J10 := J9.same s10
    refine ⟨_, rfl, _, rfl, _, rfl, _, rfl, b, c, W, F, S, L, ks, ls, as, .broken, rfl, J10.bag, J10.web, J10.sp, J10.li, np, ne, fun H11 b11 w11 S11 L11 => ⟨true, rfl, ?_⟩⟩
    refine ⟨_, rfl, _, rfl, _, rfl, b, c, S, L, ks, ls, as, rfl, b11, S11, hs, L11, by omega, wf, td, ar, fun H12 k12 b12 => ⟨true, rfl, ?_⟩⟩
    have w12 := w11.fb k12
    obtain ⟨dx2, fs2, eW2, lk2⟩ := w12.meth "bad_ring" (by decide)
    refine ⟨_, rfl, _, rfl, W, _, _, rfl, eW2, lk2, W, F, ks, ls, as, .broken, rfl, w12, fun H13 k13 w13 => ?_, fun H13 Br' r' k13 w13 hB13 hr13 => ?_⟩
    · obtain ⟨q, hq⟩ := w13.pot
      exact absurd hq (np q)
    exact ⟨L, Br', ls, r', rfl, hB13, w12.links k13 (L11.fb k12), hr13, by omega, isp, fun H14 _ => kk _⟩
end
end Ell
set_option maxHeartbeats 4000000
namespace Ell
open PySem PySem.Spec PyProof.Rows L2
/-! ### all promises -/
section
variable {P : Program} {w : World} {K : PySem.W.Frag} {mg : Str → Option Value} {base : Heap}
theorem all_ok {fd : FuncData} (T : Tx K mg) (TE : Exs P K mg) (IX : Ix K) (IY : Iy K) (F : FunD K "law" "law" (defArgs s_law) (defBody s_law) (defScope s_law) [] [] (He.ga K "law") fd) : FnOk P w K mg base CX0 11 (He.ga K "law") fd ["_law_script"] (spLaw K) := by
  have c_l_pick := ok_pick (P := P) (w := w) (K := K) (mg := mg) (base := base) (T := T)
  have c_l_bag_of := ok_bag_of (P := P) (w := w) (K := K) (mg := mg) (base := base) (T := T)
  have c_l_choice := ok_choice (P := P) (w := w) (K := K) (mg := mg) (base := base) (T := T) (c_l_pick := c_l_pick)
  have c_l_one_in := ok_one_in (P := P) (w := w) (K := K) (mg := mg) (base := base) (T := T) (c_l_pick := c_l_pick)
  have c_l_shuffled := ok_shuffled (P := P) (w := w) (K := K) (mg := mg) (base := base) (T := T) (c_l_pick := c_l_pick)
  have c_l_gcd := ok_gcd (P := P) (w := w) (K := K) (mg := mg) (base := base) (T := T)
  have c_l_ratio := ok_ratio_l (P := P) (w := w) (K := K) (mg := mg) (base := base) (T := T) (c_l_gcd := c_l_gcd)
  have c_l_integer := ok_integer (P := P) (w := w) (K := K) (mg := mg) (base := base) (T := T)
  have c_l_is_ratio := ok_is_ratio_l (P := P) (w := w) (K := K) (mg := mg) (base := base) (T := T) (c_l_gcd := c_l_gcd) (c_l_integer := c_l_integer)
  have c_l_ground := ok_ground (P := P) (w := w) (K := K) (mg := mg) (base := base) (T := T)
  have c_l_whole := ok_whole (P := P) (w := w) (K := K) (mg := mg) (base := base) (T := T) (c_l_pick := c_l_pick)
  have c_l_slack := ok_slack (P := P) (w := w) (K := K) (mg := mg) (base := base) (T := T) (c_l_pick := c_l_pick)
  have c_l_word_drawn := ok_word (P := P) (w := w) (K := K) (mg := mg) (base := base) (T := T) (c_l_pick := c_l_pick) (c_l_choice := c_l_choice)
  have c_l_why := ok_why (P := P) (w := w) (K := K) (mg := mg) (base := base) (T := T) (c_l_pick := c_l_pick) (c_l_word_drawn := c_l_word_drawn)
  have c_l_some_spots := ok_some_spots (P := P) (w := w) (K := K) (mg := mg) (base := base) (T := T) (c_l_pick := c_l_pick) (c_l_ground := c_l_ground) (c_l_word_drawn := c_l_word_drawn) (c_l_whole := c_l_whole)
  have c_l_stranger := ok_stranger (P := P) (w := w) (K := K) (mg := mg) (base := base) (T := T) (c_l_choice := c_l_choice) (c_l_whole := c_l_whole)
  have c_l_net := ok_net (P := P) (w := w) (K := K) (mg := mg) (base := base) (T := T) (c_l_pick := c_l_pick) (c_l_choice := c_l_choice) (c_l_one_in := c_l_one_in) (c_l_shuffled := c_l_shuffled) (c_l_slack := c_l_slack) (c_l_why := c_l_why) (c_l_some_spots := c_l_some_spots)
  have c_l_numbered := ok_numbered (P := P) (w := w) (K := K) (mg := mg) (base := base) (T := T)
  have c_l_arcs := ok_arcs (P := P) (w := w) (K := K) (mg := mg) (base := base) (T := T) (c_l_numbered := c_l_numbered)
  have c_l_closed := ok_closed (P := P) (w := w) (K := K) (mg := mg) (base := base) (T := T) (c_l_arcs := c_l_arcs)
  have c_levels_or_ring := ok_levels (P := P) (w := w) (K := K) (mg := mg) (base := base) (T := T)
  have c_is_integer := ok_is_integer (P := P) (w := w) (K := K) (mg := mg) (base := base) (T := T)
  have c_is_integer_2 := ok_is_integer2 (P := P) (w := w) (K := K) (mg := mg) (base := base) (T := T)
  have c_is_spot := ok_is_spot (P := P) (w := w) (K := K) (mg := mg) (base := base) (T := T) (c_is_integer := c_is_integer)
  have c_ratio := ok_ratio (P := P) (w := w) (K := K) (mg := mg) (base := base) (T := T)
  have c_minus := ok_minus (P := P) (w := w) (K := K) (mg := mg) (base := base) (T := T) (c_ratio := c_ratio)
  have c_compare := ok_compare (P := P) (w := w) (K := K) (mg := mg) (base := base) (T := T)
  have c_is_ratio := ok_is_ratio (P := P) (w := w) (K := K) (mg := mg) (base := base) (T := T) (c_is_integer := c_is_integer) (c_is_integer_2 := c_is_integer_2)
  have c_places_of := ok_places_of (P := P) (w := w) (K := K) (mg := mg) (base := base) (T := T) (c_is_spot := c_is_spot)
  have c_tied_to_ground := ok_tied (P := P) (w := w) (K := K) (mg := mg) (base := base) (T := T)
  have c_check_loose := ok_loose (P := P) (w := w) (K := K) (mg := mg) (base := base) (T := T) (c_tied_to_ground := c_tied_to_ground)
  have c_check_links := ok_check_links (P := P) (w := w) (K := K) (mg := mg) (base := base) (T := T) (c_is_spot := c_is_spot) (c_is_integer := c_is_integer)
  have c_Web_init := ok_web_init (P := P) (w := w) (K := K) (mg := mg) (base := base) (T := T) (c_places_of := c_places_of) (c_check_links := c_check_links) (c_check_loose := c_check_loose)
  have c_Web_init_1 := ok_web_init1 (P := P) (w := w) (K := K) (mg := mg) (base := base) (T := T) (c_places_of := c_places_of) (c_check_links := c_check_links) (c_check_loose := c_check_loose)
  have c_Web_prepare := ok_prep (P := P) (w := w) (K := K) (mg := mg) (base := base) (T := T) (c_levels_or_ring := c_levels_or_ring)
  have c_nearest := ok_nearest (P := P) (w := w) (K := K) (mg := mg) (base := base) (T := T)
  have c_Web_place_of := ok_place (P := P) (w := w) (K := K) (mg := mg) (base := base) (T := T) (TE := TE) (c_is_spot := c_is_spot)
  have c_Web_sound := ok_sound (P := P) (w := w) (K := K) (mg := mg) (base := base) (T := T) (TE := TE) (c_Web_prepare := c_Web_prepare)
  have c_Web_bad_ring := ok_bad_ring (P := P) (w := w) (K := K) (mg := mg) (base := base) (T := T) (c_Web_prepare := c_Web_prepare)
  have c_Web_from_spot := ok_from_from (P := P) (w := w) (K := K) (mg := mg) (base := base) (T := T) (c_Web_sound := c_Web_sound) (c_nearest := c_nearest)
  have c_Web_to_spot := ok_from_to (P := P) (w := w) (K := K) (mg := mg) (base := base) (T := T) (c_Web_sound := c_Web_sound) (c_nearest := c_nearest)
  have c_table_of_pairs := ok_table (P := P) (w := w) (K := K) (mg := mg) (base := base) (T := T) (c_is_spot := c_is_spot) (c_is_ratio := c_is_ratio)
  have c_World_init := ok_world_init (P := P) (w := w) (K := K) (mg := mg) (base := base) (T := T) (c_table_of_pairs := c_table_of_pairs)
  have c_World_getitem := ok_wget (P := P) (w := w) (K := K) (mg := mg) (base := base) (T := T) (c_is_spot := c_is_spot)
  have c_World_contains := ok_win (P := P) (w := w) (K := K) (mg := mg) (base := base) (T := T) (c_is_spot := c_is_spot)
  have c_Web_bound := ok_bound (P := P) (w := w) (K := K) (mg := mg) (base := base) (T := T) (c_Web_place_of := c_Web_place_of) (c_Web_from_spot := c_Web_from_spot)
  have c_Web_steps_to := ok_steps (P := P) (w := w) (K := K) (mg := mg) (base := base) (T := T) (c_Web_from_spot := c_Web_from_spot)
  have c_Web_chain := ok_chain (P := P) (w := w) (K := K) (mg := mg) (base := base) (T := T) (c_Web_place_of := c_Web_place_of) (c_Web_steps_to := c_Web_steps_to)
  have c_Web_grown := ok_grown (P := P) (w := w) (K := K) (mg := mg) (base := base) (T := T) (c_Web_from_spot := c_Web_from_spot) (c_World_init := c_World_init)
  have c_Web_reaching := ok_reach (P := P) (w := w) (K := K) (mg := mg) (base := base) (T := T) (c_Web_place_of := c_Web_place_of) (c_Web_grown := c_Web_grown)
  have c_Web_highest := ok_high (P := P) (w := w) (K := K) (mg := mg) (base := base) (T := T) (c_Web_grown := c_Web_grown)
  have c_Web_lowest := ok_low (P := P) (w := w) (K := K) (mg := mg) (base := base) (T := T) (c_Web_to_spot := c_Web_to_spot) (c_World_init := c_World_init)
  have c_follows := ok_follows (P := P) (w := w) (K := K) (mg := mg) (base := base) (T := T) (c_Web_bound := c_Web_bound)
  have c_slim := ok_slim (P := P) (w := w) (K := K) (mg := mg) (base := base) (T := T) (c_Web_sound := c_Web_sound)
  have c_Web_more := ok_more (P := P) (w := w) (K := K) (mg := mg) (base := base) (T := T) (c_check_links := c_check_links) (c_Web_init := c_Web_init)
  have c_World_len := ok_wlen (P := P) (w := w) (K := K) (mg := mg) (base := base) (T := T)
  have c_World_gap := ok_gap (P := P) (w := w) (K := K) (mg := mg) (base := base) (T := T) (c_World_getitem := c_World_getitem) (c_minus := c_minus)
  have c_World_keeps := ok_keeps (P := P) (w := w) (K := K) (mg := mg) (base := base) (T := T) (c_World_gap := c_World_gap) (c_compare := c_compare)
  have c_Web_allows := ok_allows (P := P) (w := w) (K := K) (mg := mg) (base := base) (T := T) (c_World_contains := c_World_contains) (c_World_keeps := c_World_keeps)
  have c_World_iter := ok_witer (P := P) (w := w) (K := K) (mg := mg) (base := base) (T := T)
  have c_l_values_of := ok_values (P := P) (w := w) (K := K) (mg := mg) (base := base) (T := T) (IX := IX) (c_World_getitem := c_World_getitem) (c_World_len := c_World_len) (c_World_iter := c_World_iter) (c_l_is_ratio := c_l_is_ratio)
  have c_l_keeps := ok_keeps_l (P := P) (w := w) (K := K) (mg := mg) (base := base) (T := T)
  have c_l_allowed := ok_allowed (P := P) (w := w) (K := K) (mg := mg) (base := base) (T := T) (c_l_ground := c_l_ground) (c_l_keeps := c_l_keeps)
  have c_l_spot_like := ok_spot_like (P := P) (w := w) (K := K) (mg := mg) (base := base) (T := T) (c_l_integer := c_l_integer)
  have c_l_link_like := ok_link_like (P := P) (w := w) (K := K) (mg := mg) (base := base) (T := T) (c_l_spot_like := c_l_spot_like) (c_l_integer := c_l_integer)
  have c_l_right_ring := ok_right_ring (P := P) (w := w) (K := K) (mg := mg) (base := base) (T := T)
  have c_l_ring_holds := ok_ring_holds (P := P) (w := w) (K := K) (mg := mg) (base := base) (T := T) (c_l_link_like := c_l_link_like) (c_l_right_ring := c_l_right_ring)
  have c_l_sound := ok_l_sound (P := P) (w := w) (K := K) (mg := mg) (base := base) (T := T)
  have h_l_integer := okH_integer (P := P) (w := w) (K := K) (mg := mg) (base := base) (T := T)
  have h_l_spot_like := okH_spot_like (P := P) (w := w) (K := K) (mg := mg) (base := base) (T := T) (c_l_integer := h_l_integer)
  have h_l_link_like := okH_link_like (P := P) (w := w) (K := K) (mg := mg) (base := base) (T := T) (c_l_spot_like := h_l_spot_like) (c_l_integer := h_l_integer)
  have h_l_right_ring := okH_right_ring (P := P) (w := w) (K := K) (mg := mg) (base := base) (T := T)
  have h_l_ring_holds := okH_ring_holds (P := P) (w := w) (K := K) (mg := mg) (base := base) (T := T) (c_l_link_like := h_l_link_like) (c_l_right_ring := h_l_right_ring)
  have c_l_asked := ok_asked (P := P) (w := w) (K := K) (mg := mg) (base := base) (T := T) (c_Web_bound := c_Web_bound) (c_Web_chain := c_Web_chain) (c_Web_reaching := c_Web_reaching) (c_follows := c_follows) (c_Web_highest := c_Web_highest) (c_Web_lowest := c_Web_lowest) (c_slim := c_slim)
  have c_l_clashes_well := ok_clashes (P := P) (w := w) (K := K) (mg := mg) (base := base) (T := T) (TE := TE) (IX := IX) (IY := IY) (c_l_asked := c_l_asked) (c_l_ring_holds := h_l_ring_holds)
  have c_l_lacks_well := ok_lacks (P := P) (w := w) (K := K) (mg := mg) (base := base) (T := T) (TE := TE) (IX := IX) (IY := IY) (c_l_asked := c_l_asked)
  have gl := ok_links_from (P := P) (w := w) (K := K) (mg := mg) (base := base) (T := T) (c_Web_place_of := c_Web_place_of)
  have c_l_all_clash := ok_all_clash (P := P) (w := w) (K := K) (mg := mg) (base := base) (T := T) (c_l_pick := c_l_pick) (c_l_clashes_well := c_l_clashes_well) (c_l_stranger := c_l_stranger) (c_l_choice := c_l_choice) (c_l_lacks_well := c_l_lacks_well) (c_l_ratio := c_l_ratio) (c_World_init := c_World_init) (c_Web_allows := c_Web_allows) (gl := gl)
  have c_l_has_worlds := ok_has_worlds (P := P) (w := w) (K := K) (mg := mg) (base := base) (T := T) (c_Web_bad_ring := c_Web_bad_ring) (c_l_pick := c_l_pick) (c_Web_highest := c_Web_highest) (c_Web_lowest := c_Web_lowest) (c_Web_reaching := c_Web_reaching) (c_l_values_of := c_l_values_of) (c_l_allowed := c_l_allowed) (c_Web_bound := c_Web_bound) (c_l_integer := c_l_integer)
  have c_l_loosened_well := ok_loosened (P := P) (w := w) (K := K) (mg := mg) (base := base) (T := T) (c_Web_init_1 := c_Web_init_1) (c_Web_bad_ring := c_Web_bad_ring) (c_l_has_worlds := c_l_has_worlds) (c_l_closed := c_l_closed) (c_l_ring_holds := c_l_ring_holds) (c_l_choice := c_l_choice)
  have c_l_grown_well := ok_grown_l (P := P) (w := w) (K := K) (mg := mg) (base := base) (T := T) (c_l_pick := c_l_pick) (c_Web_more := c_Web_more) (c_l_why := c_l_why) (c_Web_bad_ring := c_Web_bad_ring) (c_Web_bound := c_Web_bound) (c_l_choice := c_l_choice) (c_l_ring_holds := c_l_ring_holds)
  have c_l_bent := ok_bent (P := P) (w := w) (K := K) (mg := mg) (base := base) (T := T) (c_l_pick := c_l_pick) (c_l_choice := c_l_choice) (c_l_shuffled := c_l_shuffled) (c_l_why := c_l_why)
  exact ok_law (P := P) (w := w) (K := K) (mg := mg) (base := base) (T := T) (F := F) (c_l_bag_of := c_l_bag_of) (c_l_pick := c_l_pick) (c_l_one_in := c_l_one_in) (c_l_net := c_l_net) (c_l_bent := c_l_bent) (c_Web_init_1 := c_Web_init_1) (c_l_closed := c_l_closed) (c_l_sound := c_l_sound) (c_l_has_worlds := c_l_has_worlds) (c_l_grown_well := c_l_grown_well) (c_Web_bad_ring := c_Web_bad_ring) (c_l_ring_holds := c_l_ring_holds) (c_l_all_clash := c_l_all_clash) (c_l_loosened_well := c_l_loosened_well)
end
end Ell
set_option maxHeartbeats 4000000
namespace Ell
open PySem PySem.Spec PyProof.Rows L2
/-! ### what the top has left, as facts -/
theorem clsB_ok {K : Fg} {C : Addr} (z : clsB K C = true) : ∃ nm q N bs bm sn sub ab col dd k0 k1 k2 k3 k5, K.lookup C = some (excClassObj nm q C N bs bm true sn sub ab col dd k0 k1 k2 k3 k5 "ValueError.__new__") ∧ PySem.HandSPX.refsVE bm = true := by
  unfold clsB at z
  cases q : K.lookup C with
  | none =>
    rw [q] at z
    cases z
  | some u =>
    obtain ⟨uc, ud, dt, sl⟩ := u
    rw [q] at z
    cases uc with
    | type ty =>
      cases dt with
      | cls cd =>
        obtain ⟨nm, bs, mro, N, qn, hd, sn, sub, ab, col, del⟩ := cd
        obtain ⟨sl⟩ := sl
        simp only at z
        split at z
        · rename_i D bm k0 k1 k2 k3 nw k5
          obtain ⟨z1, z⟩ := He.ba z
          obtain ⟨z2, z⟩ := He.ba z
          obtain ⟨z3, z⟩ := He.ba z
          obtain ⟨z4, z⟩ := He.ba z
          obtain ⟨z5, z6⟩ := He.ba z
          cases of_decide_eq_true z1
          cases of_decide_eq_true z2
          cases of_decide_eq_true z3
          simp only [Bool.not_eq_true'] at z4
          subst z4
          subst z5
          exact ⟨nm, qn, N, bs, bm, sn, sub, ab, col, ud, k0, k1, k2, k3, k5, rfl, z6⟩
        · cases z
      | _ => cases z
    | _ => cases dt <;> cases z
theorem fileB_ok {P : Program} {K : Fg} {cda : Addr} (z : fileB P K cda = true) : ∃ (ccl : Value) (cdd : Option Addr) (us : Array Value) (ccs : Array (Option Value)) (file : Str) (tf : Tok), K.lookup cda = some ⟨ccl, cdd, .fields us, ccs⟩ ∧ us[2]? = some (.str file tf) ∧ ((P.main.file : Str) == file) = true := by
  unfold fileB at z
  cases q : K.lookup cda with
  | none =>
    rw [q] at z
    cases z
  | some u =>
    obtain ⟨uc, ud, dt, sl⟩ := u
    rw [q] at z
    cases dt with
    | fields us =>
      simp only at z
      cases e : us[2]? with
      | none =>
        rw [e] at z
        cases z
      | some v =>
        rw [e] at z
        cases v with
        | str file tf => exact ⟨uc, ud, us, sl, file, tf, rfl, e, z⟩
        | _ => cases z
    | _ => cases z
theorem cellB_ok {K : Fg} {cc C : Addr} (z : cellB K cc C = true) : ∃ (cl : Value) (cld : Option Addr) (csl : Array (Option Value)), K.lookup cc = some ⟨cl, cld, .cell (some (.ref C)), csl⟩ := by
  unfold cellB at z
  cases q : K.lookup cc with
  | none =>
    rw [q] at z
    cases z
  | some u =>
    obtain ⟨uc, ud, dt, sl⟩ := u
    rw [q] at z
    cases dt with
    | cell w =>
      cases w with
      | none => cases z
      | some v =>
        cases v with
        | ref D =>
          cases of_decide_eq_true z
          exact ⟨uc, ud, sl, rfl⟩
        | _ => cases z
    | _ => cases z
theorem iniB_ok {P : Program} {K : Fg} {e : ExD} (z : iniB P K e = true) (v : exV K e = e.val) : ∃ (oc : Value) (od : Option Addr) (doc pm : Value) (an : Option Addr) (cda : Addr) (ct : Value) (osl : Array (Option Value)) (cc : Addr),
    K.lookup (e.I K) = some ⟨oc, od, .func (PySem.W.ksFn "__init__" e.qual (defArgs e.st) (defBody e.st) (defScope e.st) .none .none doc pm an (.ref cda) ct cc), osl⟩ ∧ PySem.W.codeIn K (.ref cda) e.qual = true ∧
    (∃ (ccl : Value) (cdd : Option Addr) (us : Array Value) (ccs : Array (Option Value)) (file : Str) (tf : Tok), K.lookup cda = some ⟨ccl, cdd, .fields us, ccs⟩ ∧ us[2]? = some (.str file tf) ∧ ((P.main.file : Str) == file) = true) ∧
    ∃ (cl : Value) (cld : Option Addr) (csl : Array (Option Value)), K.lookup cc = some ⟨cl, cld, .cell (some (.ref (e.C K))), csl⟩ := by
  unfold iniB at z
  unfold exV ExD.val at v
  cases q : K.lookup (e.I K) with
  | none =>
    rw [q] at z
    cases z
  | some u =>
    obtain ⟨uc, ud, dt, sl⟩ := u
    rw [q] at z v
    cases dt with
    | func u =>
      obtain ⟨n1, n2, n3, n4, n5, n6, n7, n8, n9, n10, n11, n12, n13, n14, n15⟩ := u
      simp only [Option.some.injEq, Prod.mk.injEq] at v
      obtain ⟨v1, v2, v3, v4, v5, v6, v7, v8⟩ := v
      subst v1 v2 v3 v4 v5 v6 v8
      simp only at z
      split at z
      · rename_i cda kk cc
        obtain ⟨z1, z⟩ := He.ba z
        obtain ⟨z2, z3⟩ := He.ba z
        simp only [List.map_cons, List.map_nil, List.cons.injEq, and_true] at v7
        subst v7
        exact ⟨uc, ud, n10, n11, n12, cda, n14, sl, cc, rfl, z1, fileB_ok z2, cellB_ok z3⟩
      · cases z
    | _ => cases z
theorem exB_ok {P : Program} {K : Fg} {mg : Str → Option Value} {e : ExD} (z : exB P K e = true) (v : exV K e = e.val) (g : mg e.x = some (.ref (e.C K))) (su : mg "super" = none) : ExTxt P K mg e.st e.x e.f e.qual (e.C K) (e.I K) := by
  obtain ⟨z1, z⟩ := He.ba z
  obtain ⟨z2, z⟩ := He.ba z
  obtain ⟨z3, z⟩ := He.ba z
  obtain ⟨z4, z⟩ := He.ba z
  obtain ⟨z5, z⟩ := He.ba z
  obtain ⟨z6, z⟩ := He.ba z
  obtain ⟨z7, z⟩ := He.ba z
  obtain ⟨z8, z⟩ := He.ba z
  obtain ⟨z9, z⟩ := He.ba z
  obtain ⟨z10, z⟩ := He.ba z
  obtain ⟨z11, z⟩ := He.ba z
  obtain ⟨z12, z⟩ := He.ba z
  obtain ⟨z13, z⟩ := He.ba z
  obtain ⟨z14, z⟩ := He.ba z
  obtain ⟨z15, z⟩ := He.ba z
  obtain ⟨z16, z17⟩ := He.ba z
  exact ⟨g, clsB_ok z1, He.eqO_ok z2, He.eqO_ok z3, He.eqO_ok z4, He.eqO_ok z5, He.eqO_ok z6, of_decide_eq_true z7, z8, of_decide_eq_true z9, of_decide_eq_true z10, z11, He.eqO_ok z12, su, He.eqO_ok z13, of_decide_eq_true z14, of_decide_eq_true z15, iniB_ok z16 v, by
    cases q : (P.main.scope.names.lookup ("super" : Str)).isSome with
    | false => rfl
    | true =>
      rw [q] at z17
      cases z17⟩
theorem ixB_ok {K : Fg} (z : ixB K = true) : Ix K := by
  obtain ⟨z1, z⟩ := He.ba z
  obtain ⟨z2, z⟩ := He.ba z
  obtain ⟨z3, z⟩ := He.ba z
  obtain ⟨z4, z5⟩ := He.ba z
  exact ⟨He.eqO_ok z1, He.eqO_ok z2, of_decide_eq_true z3, of_decide_eq_true z4, of_decide_eq_true z5⟩
theorem iyB_ok {K : Fg} (z : iyB K = true) : Iy K := by
  obtain ⟨z1, z⟩ := He.ba z
  obtain ⟨z2, z⟩ := He.ba z
  obtain ⟨z3, z⟩ := He.ba z
  obtain ⟨z4, z⟩ := He.ba z
  obtain ⟨z5, z⟩ := He.ba z
  obtain ⟨z6, z⟩ := He.ba z
  obtain ⟨z7, z⟩ := He.ba z
  obtain ⟨z8, z⟩ := He.ba z
  obtain ⟨z9, z⟩ := He.ba z
  obtain ⟨z10, z⟩ := He.ba z
  obtain ⟨z11, z12⟩ := He.ba z
  exact ⟨of_decide_eq_true z1, of_decide_eq_true z2, He.eqO_ok z3, He.eqO_ok z4, of_decide_eq_true z5, of_decide_eq_true z6, of_decide_eq_true z7, of_decide_eq_true z8, of_decide_eq_true z9, of_decide_eq_true z10, of_decide_eq_true z11, of_decide_eq_true z12⟩
structure SaysM (K : Fg) : Prop where
  d : He.SaysD fa fn K
  m : moreB PL K = true
  v1 : exV K eCl = eCl.val
  v2 : exV K eNs = eNs.val
theorem says_of {K : Fg} (h : obsK K = valM) : SaysM K := by
  obtain ⟨h1, h2⟩ := Prod.mk.inj (show (He.obsD fa fn K, moreB PL K, [exV K eCl, exV K eNs]) = (He.valD fn, true, [eCl.val, eNs.val]) from h)
  obtain ⟨h3, h4⟩ := Prod.mk.inj h2
  injection h4 with h5 h6
  injection h6 with h6 _
  exact ⟨h1, h3, h5, h6⟩
theorem tx_of {K : Fg} {h : Heap} {mg : Str → Option Value} (X : K.In h) (G : h.Ns mainGlobals mg) (s : SaysM K) : Tx K mg :=
  have c := And.intro s.d True.intro
  have zb := (He.ba s.m).1
  {
    b_abs := He.free_ok X G (c.1.fact 0 (f := .free "abs") rfl)
    b_bool := He.free_ok X G (c.1.fact 1 (f := .free "bool") rfl)
    b_enumerate := He.free_ok X G (c.1.fact 2 (f := .free "enumerate") rfl)
    b_int := He.free_ok X G (c.1.fact 3 (f := .free "int") rfl)
    b_isinstance := He.free_ok X G (c.1.fact 4 (f := .free "isinstance") rfl)
    b_iter := He.free_ok X G (c.1.fact 5 (f := .free "iter") rfl)
    b_len := He.free_ok X G (c.1.fact 6 (f := .free "len") rfl)
    b_list := He.free_ok X G (c.1.fact 7 (f := .free "list") rfl)
    b_min := He.free_ok X G (c.1.fact 8 (f := .free "min") rfl)
    b_range := He.free_ok X G (c.1.fact 9 (f := .free "range") rfl)
    b_str := He.free_ok X G (c.1.fact 10 (f := .free "str") rfl)
    b_sum := He.free_ok X G (c.1.fact 11 (f := .free "sum") rfl)
    b_tuple := He.free_ok X G (c.1.fact 12 (f := .free "tuple") rfl)
    b_ValueError := He.free_ok X G (c.1.fact 13 (f := .free "ValueError") rfl)
    b_super := He.free_ok X G (c.1.fact 14 (f := .free "super") rfl)
    b_max := He.free_ok X G (c.1.fact 15 (f := .free "max") rfl)
    g_GROUND := He.glo_ok X G (c.1.fact 16 (f := .glo "GROUND") rfl)
    g_ZERO := He.glo_ok X G (c.1.fact 17 (f := .glo "ZERO") rfl)
    g_Web := He.glo_ok X G (c.1.fact 18 (f := .glo "Web") rfl)
    g_World := He.glo_ok X G (c.1.fact 19 (f := .glo "World") rfl)
    g_EllError := He.glo_ok X G (c.1.fact 20 (f := .glo "EllError") rfl)
    f_is_integer := c.1.def_ 0 (d := dG "is_integer" s_is_integer [.non, .non]) rfl
    g_is_integer := He.glo_ok X G (c.1.fact 23 (f := .glo "is_integer") rfl)
    f_ratio := c.1.def_ 1 (d := dG "ratio" s_ratio [.int 1]) rfl
    g_ratio := He.glo_ok X G (c.1.fact 24 (f := .glo "ratio") rfl)
    f_is_ratio := c.1.def_ 2 (d := dG "is_ratio" s_is_ratio []) rfl
    g_is_ratio := He.glo_ok X G (c.1.fact 25 (f := .glo "is_ratio") rfl)
    f_minus := c.1.def_ 3 (d := dG "minus" s_minus []) rfl
    g_minus := He.glo_ok X G (c.1.fact 26 (f := .glo "minus") rfl)
    f_compare := c.1.def_ 4 (d := dG "compare" s_compare []) rfl
    g_compare := He.glo_ok X G (c.1.fact 27 (f := .glo "compare") rfl)
    f_is_spot := c.1.def_ 5 (d := dG "is_spot" s_is_spot []) rfl
    g_is_spot := He.glo_ok X G (c.1.fact 28 (f := .glo "is_spot") rfl)
    f_table_of_pairs := c.1.def_ 6 (d := dG "table_of_pairs" s_table_of_pairs []) rfl
    g_table_of_pairs := He.glo_ok X G (c.1.fact 29 (f := .glo "table_of_pairs") rfl)
    f_World_init := c.1.def_ 7 (d := dM "World" "__init__" "World.__init__" s_World_init []) rfl
    k_World := He.mkr_ok (c.1.fact 30 (f := .mkr "World") rfl)
    f_World_getitem := c.1.def_ 8 (d := dM "World" "__getitem__" "World.__getitem__" s_World_getitem []) rfl
    m_World_getitem := He.meth_ok (c.1.fact 31 (f := .meth "World" "__getitem__") rfl)
    f_World_iter := c.1.def_ 9 (d := dM "World" "__iter__" "World.__iter__" s_World_iter []) rfl
    m_World_iter := He.meth_ok (c.1.fact 32 (f := .meth "World" "__iter__") rfl)
    f_World_len := c.1.def_ 10 (d := dM "World" "__len__" "World.__len__" s_World_len []) rfl
    m_World_len := He.meth_ok (c.1.fact 33 (f := .meth "World" "__len__") rfl)
    f_World_contains := c.1.def_ 11 (d := dM "World" "__contains__" "World.__contains__" s_World_contains []) rfl
    m_World_contains := He.meth_ok (c.1.fact 34 (f := .meth "World" "__contains__") rfl)
    f_World_gap := c.1.def_ 12 (d := dM "World" "gap" "World.gap" s_World_gap []) rfl
    m_World_gap := He.meth_ok (c.1.fact 35 (f := .meth "World" "gap") rfl)
    f_World_keeps := c.1.def_ 13 (d := dM "World" "keeps" "World.keeps" s_World_keeps []) rfl
    m_World_keeps := He.meth_ok (c.1.fact 36 (f := .meth "World" "keeps") rfl)
    f_places_of := c.1.def_ 14 (d := dG "places_of" s_places_of []) rfl
    g_places_of := He.glo_ok X G (c.1.fact 37 (f := .glo "places_of") rfl)
    f_check_links := c.1.def_ 15 (d := dG "check_links" s_check_links []) rfl
    g_check_links := He.glo_ok X G (c.1.fact 38 (f := .glo "check_links") rfl)
    f_tied_to_ground := c.1.def_ 16 (d := dG "tied_to_ground" s_tied_to_ground []) rfl
    g_tied_to_ground := He.glo_ok X G (c.1.fact 39 (f := .glo "tied_to_ground") rfl)
    f_check_loose := c.1.def_ 17 (d := dG "check_loose" s_check_loose []) rfl
    g_check_loose := He.glo_ok X G (c.1.fact 40 (f := .glo "check_loose") rfl)
    f_levels_or_ring := c.1.def_ 18 (d := dG "levels_or_ring" s_levels_or_ring []) rfl
    g_levels_or_ring := He.glo_ok X G (c.1.fact 41 (f := .glo "levels_or_ring") rfl)
    f_nearest := c.1.def_ 19 (d := dG "nearest" s_nearest []) rfl
    g_nearest := He.glo_ok X G (c.1.fact 42 (f := .glo "nearest") rfl)
    f_Web_init := c.1.def_ 20 (d := dM "Web" "__init__" "Web.__init__" s_Web_init [.bl false]) rfl
    k_Web := He.mkr_ok (c.1.fact 43 (f := .mkr "Web") rfl)
    f_Web_place_of := c.1.def_ 21 (d := dM "Web" "place_of" "Web.place_of" s_Web_place_of []) rfl
    m_Web_place_of := He.meth_ok (c.1.fact 44 (f := .meth "Web" "place_of") rfl)
    f_Web_prepare := c.1.def_ 22 (d := dM "Web" "prepare" "Web.prepare" s_Web_prepare []) rfl
    m_Web_prepare := He.meth_ok (c.1.fact 45 (f := .meth "Web" "prepare") rfl)
    f_Web_sound := c.1.def_ 23 (d := dM "Web" "sound" "Web.sound" s_Web_sound []) rfl
    m_Web_sound := He.meth_ok (c.1.fact 46 (f := .meth "Web" "sound") rfl)
    f_Web_from_spot := c.1.def_ 24 (d := dM "Web" "from_spot" "Web.from_spot" s_Web_from_spot []) rfl
    m_Web_from_spot := He.meth_ok (c.1.fact 47 (f := .meth "Web" "from_spot") rfl)
    f_Web_to_spot := c.1.def_ 25 (d := dM "Web" "to_spot" "Web.to_spot" s_Web_to_spot []) rfl
    m_Web_to_spot := He.meth_ok (c.1.fact 48 (f := .meth "Web" "to_spot") rfl)
    f_Web_bound := c.1.def_ 26 (d := dM "Web" "bound" "Web.bound" s_Web_bound []) rfl
    m_Web_bound := He.meth_ok (c.1.fact 49 (f := .meth "Web" "bound") rfl)
    f_Web_steps_to := c.1.def_ 27 (d := dM "Web" "steps_to" "Web.steps_to" s_Web_steps_to []) rfl
    m_Web_steps_to := He.meth_ok (c.1.fact 50 (f := .meth "Web" "steps_to") rfl)
    f_Web_chain := c.1.def_ 28 (d := dM "Web" "chain" "Web.chain" s_Web_chain []) rfl
    m_Web_chain := He.meth_ok (c.1.fact 51 (f := .meth "Web" "chain") rfl)
    f_Web_grown := c.1.def_ 29 (d := dM "Web" "grown" "Web.grown" s_Web_grown []) rfl
    m_Web_grown := He.meth_ok (c.1.fact 52 (f := .meth "Web" "grown") rfl)
    f_Web_reaching := c.1.def_ 30 (d := dM "Web" "reaching" "Web.reaching" s_Web_reaching []) rfl
    m_Web_reaching := He.meth_ok (c.1.fact 53 (f := .meth "Web" "reaching") rfl)
    f_Web_bad_ring := c.1.def_ 31 (d := dM "Web" "bad_ring" "Web.bad_ring" s_Web_bad_ring []) rfl
    m_Web_bad_ring := He.meth_ok (c.1.fact 54 (f := .meth "Web" "bad_ring") rfl)
    f_Web_highest := c.1.def_ 32 (d := dM "Web" "highest" "Web.highest" s_Web_highest []) rfl
    m_Web_highest := He.meth_ok (c.1.fact 55 (f := .meth "Web" "highest") rfl)
    f_Web_lowest := c.1.def_ 33 (d := dM "Web" "lowest" "Web.lowest" s_Web_lowest []) rfl
    m_Web_lowest := He.meth_ok (c.1.fact 56 (f := .meth "Web" "lowest") rfl)
    f_Web_allows := c.1.def_ 34 (d := dM "Web" "allows" "Web.allows" s_Web_allows []) rfl
    m_Web_allows := He.meth_ok (c.1.fact 57 (f := .meth "Web" "allows") rfl)
    f_Web_more := c.1.def_ 35 (d := dM "Web" "more" "Web.more" s_Web_more []) rfl
    m_Web_more := He.meth_ok (c.1.fact 58 (f := .meth "Web" "more") rfl)
    f_Web_links_from := c.1.def_ 36 (d := dM "Web" "links_from" "Web.links_from" s_Web_links_from []) rfl
    m_Web_links_from := He.meth_ok (c.1.fact 59 (f := .meth "Web" "links_from") rfl)
    f_follows := c.1.def_ 37 (d := dG "follows" s_follows []) rfl
    g_follows := He.glo_ok X G (c.1.fact 60 (f := .glo "follows") rfl)
    f_least_chain := c.1.def_ 38 (d := dG "least_chain" s_least_chain []) rfl
    g_least_chain := He.glo_ok X G (c.1.fact 61 (f := .glo "least_chain") rfl)
    f_slim := c.1.def_ 39 (d := dG "slim" s_slim []) rfl
    g_slim := He.glo_ok X G (c.1.fact 62 (f := .glo "slim") rfl)
    f_l_bag_of := c.1.def_ 40 (d := dG "_law_bag_of" s_l_bag_of []) rfl
    g_l_bag_of := He.glo_ok X G (c.1.fact 63 (f := .glo "_law_bag_of") rfl)
    f_l_pick := c.1.def_ 41 (d := dG "_law_pick" s_l_pick []) rfl
    g_l_pick := He.glo_ok X G (c.1.fact 64 (f := .glo "_law_pick") rfl)
    f_l_choice := c.1.def_ 42 (d := dG "_law_choice" s_l_choice []) rfl
    g_l_choice := He.glo_ok X G (c.1.fact 65 (f := .glo "_law_choice") rfl)
    f_l_one_in := c.1.def_ 43 (d := dG "_law_one_in" s_l_one_in []) rfl
    g_l_one_in := He.glo_ok X G (c.1.fact 66 (f := .glo "_law_one_in") rfl)
    f_l_shuffled := c.1.def_ 44 (d := dG "_law_shuffled" s_l_shuffled []) rfl
    g_l_shuffled := He.glo_ok X G (c.1.fact 67 (f := .glo "_law_shuffled") rfl)
    f_l_integer := c.1.def_ 45 (d := dG "_law_integer" s_l_integer []) rfl
    g_l_integer := He.glo_ok X G (c.1.fact 68 (f := .glo "_law_integer") rfl)
    f_l_gcd := c.1.def_ 46 (d := dG "_law_gcd" s_l_gcd []) rfl
    g_l_gcd := He.glo_ok X G (c.1.fact 69 (f := .glo "_law_gcd") rfl)
    f_l_ratio := c.1.def_ 47 (d := dG "_law_ratio" s_l_ratio []) rfl
    g_l_ratio := He.glo_ok X G (c.1.fact 70 (f := .glo "_law_ratio") rfl)
    f_l_is_ratio := c.1.def_ 48 (d := dG "_law_is_ratio" s_l_is_ratio []) rfl
    g_l_is_ratio := He.glo_ok X G (c.1.fact 71 (f := .glo "_law_is_ratio") rfl)
    f_l_ground := c.1.def_ 49 (d := dG "_law_ground" s_l_ground []) rfl
    g_l_ground := He.glo_ok X G (c.1.fact 72 (f := .glo "_law_ground") rfl)
    f_l_numbered := c.1.def_ 50 (d := dG "_law_numbered" s_l_numbered []) rfl
    g_l_numbered := He.glo_ok X G (c.1.fact 73 (f := .glo "_law_numbered") rfl)
    f_l_arcs := c.1.def_ 51 (d := dG "_law_arcs" s_l_arcs []) rfl
    g_l_arcs := He.glo_ok X G (c.1.fact 74 (f := .glo "_law_arcs") rfl)
    f_l_values_of := c.1.def_ 52 (d := dG "_law_values_of" s_l_values_of []) rfl
    g_l_values_of := He.glo_ok X G (c.1.fact 75 (f := .glo "_law_values_of") rfl)
    f_l_keeps := c.1.def_ 53 (d := dG "_law_keeps" s_l_keeps []) rfl
    g_l_keeps := He.glo_ok X G (c.1.fact 76 (f := .glo "_law_keeps") rfl)
    f_l_allowed := c.1.def_ 54 (d := dG "_law_allowed" s_l_allowed []) rfl
    g_l_allowed := He.glo_ok X G (c.1.fact 77 (f := .glo "_law_allowed") rfl)
    f_l_right_ring := c.1.def_ 55 (d := dG "_law_right_ring" s_l_right_ring []) rfl
    g_l_right_ring := He.glo_ok X G (c.1.fact 78 (f := .glo "_law_right_ring") rfl)
    f_l_word_drawn := c.1.def_ 56 (d := dG "_law_word_drawn" s_l_word_drawn []) rfl
    g_l_word_drawn := He.glo_ok X G (c.1.fact 79 (f := .glo "_law_word_drawn") rfl)
    f_l_whole := c.1.def_ 57 (d := dG "_law_whole" s_l_whole []) rfl
    g_l_whole := He.glo_ok X G (c.1.fact 80 (f := .glo "_law_whole") rfl)
    f_l_some_spots := c.1.def_ 58 (d := dG "_law_some_spots" s_l_some_spots []) rfl
    g_l_some_spots := He.glo_ok X G (c.1.fact 81 (f := .glo "_law_some_spots") rfl)
    f_l_stranger := c.1.def_ 59 (d := dG "_law_stranger" s_l_stranger []) rfl
    g_l_stranger := He.glo_ok X G (c.1.fact 82 (f := .glo "_law_stranger") rfl)
    f_l_why := c.1.def_ 60 (d := dG "_law_why" s_l_why []) rfl
    g_l_why := He.glo_ok X G (c.1.fact 83 (f := .glo "_law_why") rfl)
    f_l_slack := c.1.def_ 61 (d := dG "_law_slack" s_l_slack []) rfl
    g_l_slack := He.glo_ok X G (c.1.fact 84 (f := .glo "_law_slack") rfl)
    f_l_net := c.1.def_ 62 (d := dG "_law_net" s_l_net []) rfl
    g_l_net := He.glo_ok X G (c.1.fact 85 (f := .glo "_law_net") rfl)
    f_l_closed := c.1.def_ 63 (d := dG "_law_closed" s_l_closed []) rfl
    g_l_closed := He.glo_ok X G (c.1.fact 86 (f := .glo "_law_closed") rfl)
    f_l_spot_like := c.1.def_ 64 (d := dG "_law_spot_like" s_l_spot_like []) rfl
    g_l_spot_like := He.glo_ok X G (c.1.fact 87 (f := .glo "_law_spot_like") rfl)
    f_l_link_like := c.1.def_ 65 (d := dG "_law_link_like" s_l_link_like []) rfl
    g_l_link_like := He.glo_ok X G (c.1.fact 88 (f := .glo "_law_link_like") rfl)
    f_l_ring_holds := c.1.def_ 66 (d := dG "_law_ring_holds" s_l_ring_holds []) rfl
    g_l_ring_holds := He.glo_ok X G (c.1.fact 89 (f := .glo "_law_ring_holds") rfl)
    f_l_bent := c.1.def_ 67 (d := dG "_law_bent" s_l_bent []) rfl
    g_l_bent := He.glo_ok X G (c.1.fact 90 (f := .glo "_law_bent") rfl)
    f_l_sound := c.1.def_ 68 (d := dG "_law_sound" s_l_sound []) rfl
    g_l_sound := He.glo_ok X G (c.1.fact 91 (f := .glo "_law_sound") rfl)
    f_l_asked := c.1.def_ 69 (d := dG "_law_asked" s_l_asked []) rfl
    g_l_asked := He.glo_ok X G (c.1.fact 92 (f := .glo "_law_asked") rfl)
    f_l_clashes_well := c.1.def_ 70 (d := dG "_law_clashes_well" s_l_clashes_well []) rfl
    g_l_clashes_well := He.glo_ok X G (c.1.fact 93 (f := .glo "_law_clashes_well") rfl)
    f_l_lacks_well := c.1.def_ 71 (d := dG "_law_lacks_well" s_l_lacks_well []) rfl
    g_l_lacks_well := He.glo_ok X G (c.1.fact 94 (f := .glo "_law_lacks_well") rfl)
    f_l_all_clash := c.1.def_ 72 (d := dG "_law_all_clash" s_l_all_clash []) rfl
    g_l_all_clash := He.glo_ok X G (c.1.fact 95 (f := .glo "_law_all_clash") rfl)
    f_l_has_worlds := c.1.def_ 73 (d := dG "_law_has_worlds" s_l_has_worlds []) rfl
    g_l_has_worlds := He.glo_ok X G (c.1.fact 96 (f := .glo "_law_has_worlds") rfl)
    f_l_loosened_well := c.1.def_ 74 (d := dG "_law_loosened_well" s_l_loosened_well []) rfl
    g_l_loosened_well := He.glo_ok X G (c.1.fact 97 (f := .glo "_law_loosened_well") rfl)
    f_l_grown_well := c.1.def_ 75 (d := dG "_law_grown_well" s_l_grown_well []) rfl
    g_l_grown_well := He.glo_ok X G (c.1.fact 98 (f := .glo "_law_grown_well") rfl)
    f_law := c.1.def_ 76 (d := dG "law" s_law []) rfl
    g_law := He.glo_ok X G (c.1.fact 99 (f := .glo "law") rfl)
    c_Web := He.cls_ok (c.1.fact 100 (f := .cls "Web") rfl)
    c_World := He.cls_ok (c.1.fact 101 (f := .cls "World") rfl)
    n_spots := He.noat_ok (c.1.fact 102 (f := .noat "Web" "spots") rfl)
    n_at := He.noat_ok (c.1.fact 103 (f := .noat "Web" "at") rfl)
    n_links := He.noat_ok (c.1.fact 104 (f := .noat "Web" "links") rfl)
    n_levels := He.noat_ok (c.1.fact 105 (f := .noat "Web" "levels") rfl)
    n_broken := He.noat_ok (c.1.fact 106 (f := .noat "Web" "broken") rfl)
    n_onward := He.noat_ok (c.1.fact 107 (f := .noat "Web" "onward") rfl)
    n_backward := He.noat_ok (c.1.fact 108 (f := .noat "Web" "backward") rfl)
    n_found := He.noat_ok (c.1.fact 109 (f := .noat "Web" "found") rfl)
    n_table := He.noat_ok (c.1.fact 110 (f := .noat "World" "table") rfl)
    g_heappop := PySem.W.mg_of X G (He.eqO_ok (He.ba zb).1)
    g_heappush := PySem.W.mg_of X G (He.eqO_ok (He.ba (He.ba zb).2).1)
    g_gcd := PySem.W.mg_of X G (He.eqO_ok (He.ba (He.ba (He.ba zb).2).2).1)
    v_GROUND := fun H => He.tupB_ok (He.ba (He.ba (He.ba (He.ba zb).2).2).2).1 H
    v_ZERO := fun H => He.tupB_ok (He.ba (He.ba (He.ba (He.ba zb).2).2).2).2 H }
theorem exs_of {K : Fg} {h : Heap} {mg : Str → Option Value} (X : K.In h) (G : h.Ns mainGlobals mg) (s : SaysM K) (T : Tx K mg) : Exs PL K mg :=
  have z := (He.ba (He.ba (He.ba s.m).2).2).2
  ⟨exB_ok (e := eCl) (He.ba z).1 s.v1 (He.glo_ok X G (s.d.fact 21 (f := .glo "Clash") rfl)) T.b_super, exB_ok (e := eNs) (He.ba z).2 s.v2 (He.glo_ok X G (s.d.fact 22 (f := .glo "NoSpot") rfl)) T.b_super⟩
theorem ix_of {K : Fg} (s : SaysM K) : Ix K := ixB_ok (He.ba (He.ba s.m).2).1
theorem iy_of {K : Fg} (s : SaysM K) : Iy K := iyB_ok (He.ba (He.ba (He.ba s.m).2).2).1
end Ell
set_option maxHeartbeats 4000000
namespace Ell
open PySem PySem.Spec PyProof.Rows L2
/-! ### the end -/
theorem law_at {w : World} {K : Fg} {h : Heap} {mg : Str → Option Value} {fa : Addr} (X : K.In h) (G : h.Ns mainGlobals mg) (hfa : mg ("law" : Str) = some (.ref fa)) (c : obsK K = valM) :
    ∃ fd : FuncData, (∀ (s : Shared) (u : Value), BindsTo s fd ⟨[u], []⟩ [("_law_script", u)]) ∧ ∀ base : Heap, K.In base → base.Ns mainGlobals mg → FnOk PL w K mg base CX0 11 fa fd ["_law_script"] (spLaw K) := by
  have s := says_of c
  have T := tx_of X G s
  have TE := exs_of X G s T
  have IX := ix_of s
  have IY := iy_of s
  obtain ⟨fd, F⟩ := T.f_law
  have e := hfa.symm.trans T.g_law
  cases e
  have b := FunD.bindsA (ps := ["_law_script"]) F fun _ _ _ _ _ _ us hl => match us, hl with | [_], _ => rfl
  exact ⟨fd, fun s v => b s [v] rfl, fun base _ _ => all_ok (P := PL) (w := w) (base := base) T TE IX IY F⟩
end Ell
open PySem PySem.W PySem.Calls PyProof.Rows
theorem PySem.Challenge.cw_ellwarden_k30_whole_rings_holds : PySem.Challenge.rw_ellwarden_k30_whole_rings.Holds := by
  w_on; o_law
  refine HandSHeadRun.head_imp (r := OpenLaw.row PySem.Challenge.rw_ellwarden_k30_whole_rings) (q := view (OpenLaw.row PySem.Challenge.rw_ellwarden_k30_whole_rings).prog [73]) (H := Ell.hk) (ob := Ell.ob) (M := 100000) (loose := Ell.loose) (d := HandSHeadRun.topDef (OpenLaw.row PySem.Challenge.rw_ellwarden_k30_whole_rings).prog 73) (kwd := []) Ell.ob_eq
    Ell.run (by kernel_rfl) (by kernel_rfl) (by kernel_rfl) (by rfl) (by first | assumption | decide +kernel) (by decide +kernel) ⟨rfl, rfl, rfl, rfl, rfl, by decide +kernel⟩ ?hw ?hc
  case hw => w_witness2
  case hc =>
    refine L2.walk_ofE (l := PySem.Challenge.rw_ellwarden_k30_whole_rings) (n := 63) (k := 11) (x := "_law_script") (CX := L2.CX0) rfl (by decide) (by kernel_rfl) ⟨rfl, by decide, by decide⟩ ?F (fun _ _ _ _ z => z)
    intro w mg fa h Y G hmg0
    obtain ⟨K, KX, c⟩ := Y
    have hmg : mg ("law" : PySem.Str) = some (.ref fa) := by
      have e : (HandSHeadRun.topDef (OpenLaw.row PySem.Challenge.rw_ellwarden_k30_whole_rings).prog 73).name = ("law" : PySem.Str) := by kernel_rfl
      rw [← e]
      exact hmg0
    obtain ⟨fd, hb, hF⟩ := Ell.law_at (w := w) KX G hmg c
    exact ⟨K, fd, Ell.spLaw K, KX, hb, fun H a ns hl _ hS => ⟨a, ns, rfl, hS, hl, fun _ => rfl⟩, hF⟩
