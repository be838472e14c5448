import PyProof.Rows.All
import Wide.All
import OpenK.AllK
import Wide.FinOn
import HandS.HeadHook3
import KE.KStateDown
import Lean
import HandS.Head0
import HandS.Head1
import HandS.Head2
import HandS.ForMost
import HandS.Defaults
import HandS.IsInst
import HandS.Property
import HandS.ClsMeth
import HandS.Star
import HandS.TupAny
import HandS.Zip
import KE.SortData
import HandS.ListItems
import HandS.Conv
import HandS.TryOnly
import HandS.Small
import HandS.More
import OpenK.KOps
import HandS.OwnEq
import KE.GoesEnum
import HandS.Deep
import KE.KDictKeyed
import KE.KeyNested
import HandS.Iter
import HandS.FStr
import HandS.HeadEnd
import PySem.Challenge.RW_lanelots_k36_whole_hung_and_alike
/-! TEXT T1 -/
set_option Elab.async false
set_option linter.all false
set_option maxRecDepth 100000
set_option maxHeartbeats 1000000
namespace K3
open PySem PySem.Spec L2
/-! ### the text by places -/
def top (i : Nat) : Stmt := PySem.Challenge.pw_lanelots_k36_whole_hung_and_alike.main.body.getD i (.Pass ⟨0, 0, 0, 0⟩)
abbrev s_is_integer : Stmt := top 19
abbrev N_is_integer : List Str := ["value"]
theorem sc_is_integer : FnScope N_is_integer ["value"] (defScope s_is_integer) := ⟨rfl, rfl, rfl, by decide +kernel, rfl, by decide +kernel, by decide +kernel⟩
abbrev s_is_count : Stmt := top 20
abbrev N_is_count : List Str := ["value"]
theorem sc_is_count : FnScope N_is_count ["value"] (defScope s_is_count) := ⟨rfl, rfl, rfl, by decide +kernel, rfl, by decide +kernel, by decide +kernel⟩
abbrev s_is_list : Stmt := top 21
abbrev N_is_list : List Str := ["value"]
theorem sc_is_list : FnScope N_is_list ["value"] (defScope s_is_list) := ⟨rfl, rfl, rfl, by decide +kernel, rfl, by decide +kernel, by decide +kernel⟩
abbrev s_is_content : Stmt := top 22
abbrev N_is_content : List Str := ["value", "number"]
theorem sc_is_content : FnScope N_is_content ["value"] (defScope s_is_content) := ⟨rfl, rfl, rfl, by decide +kernel, rfl, by decide +kernel, by decide +kernel⟩
abbrev s_is_lane_basics : Stmt := top 23
abbrev N_is_lane_basics : List Str := ["lanes", "value"]
theorem sc_is_lane_basics : FnScope N_is_lane_basics ["lanes", "value"] (defScope s_is_lane_basics) := ⟨rfl, rfl, rfl, by decide +kernel, rfl, by decide +kernel, by decide +kernel⟩
abbrev s_want_content_of : Stmt := top 25
abbrev N_want_content_of : List Str := ["lanes", "value"]
theorem sc_want_content_of : FnScope N_want_content_of ["lanes", "value"] (defScope s_want_content_of) := ⟨rfl, rfl, rfl, by decide +kernel, rfl, by decide +kernel, by decide +kernel⟩
abbrev s_want_lane : Stmt := top 26
abbrev N_want_lane : List Str := ["lanes", "value"]
theorem sc_want_lane : FnScope N_want_lane ["lanes", "value"] (defScope s_want_lane) := ⟨rfl, rfl, rfl, by decide +kernel, rfl, by decide +kernel, by decide +kernel⟩
abbrev s_is_lane_lots : Stmt := top 31
abbrev N_is_lane_lots : List Str := ["value"]
theorem sc_is_lane_lots : FnScope N_is_lane_lots ["value"] (defScope s_is_lane_lots) := ⟨rfl, rfl, rfl, by decide +kernel, rfl, by decide +kernel, by decide +kernel⟩
abbrev s_is_entry : Stmt := top 33
abbrev N_is_entry : List Str := ["value"]
theorem sc_is_entry : FnScope N_is_entry ["value"] (defScope s_is_entry) := ⟨rfl, rfl, rfl, by decide +kernel, rfl, by decide +kernel, by decide +kernel⟩
abbrev s_is_lot : Stmt := top 34
abbrev N_is_lot : List Str := ["value", "entry", "near", "far"]
theorem sc_is_lot : FnScope N_is_lot ["value"] (defScope s_is_lot) := ⟨rfl, rfl, rfl, by decide +kernel, rfl, by decide +kernel, by decide +kernel⟩
abbrev s_want_lots : Stmt := top 35
abbrev N_want_lots : List Str := ["lots", "position", "lot"]
theorem sc_want_lots : FnScope N_want_lots ["lots"] (defScope s_want_lots) := ⟨rfl, rfl, rfl, by decide +kernel, rfl, by decide +kernel, by decide +kernel⟩
abbrev s_lanes_for : Stmt := top 38
abbrev N_lanes_for : List Str := ["lots", "found", "lot"]
theorem sc_lanes_for : FnScope N_lanes_for ["lots"] (defScope s_lanes_for) := ⟨rfl, rfl, rfl, by decide +kernel, rfl, by decide +kernel, by decide +kernel⟩
abbrev s_extreme : Stmt := top 39
abbrev N_extreme : List Str := ["numbers", "is_least", "found", "number"]
theorem sc_extreme : FnScope N_extreme ["numbers", "is_least"] (defScope s_extreme) := ⟨rfl, rfl, rfl, by decide +kernel, rfl, by decide +kernel, by decide +kernel⟩
abbrev s_is_ahead : Stmt := top 41
abbrev N_is_ahead : List Str := ["lot", "told", "is_co", "lane", "number"]
theorem sc_is_ahead : FnScope N_is_ahead ["lot", "told", "is_co"] (defScope s_is_ahead) := ⟨rfl, rfl, rfl, by decide +kernel, rfl, by decide +kernel, by decide +kernel⟩
abbrev s_first_ahead : Stmt := top 42
abbrev N_first_ahead : List Str := ["lots", "lot", "is_co", "told", "near"]
theorem sc_first_ahead : FnScope N_first_ahead ["lots", "lot", "is_co"] (defScope s_first_ahead) := ⟨rfl, rfl, rfl, by decide +kernel, rfl, by decide +kernel, by decide +kernel⟩
abbrev s_kept_lots : Stmt := top 43
abbrev N_kept_lots : List Str := ["lots", "is_co", "found", "lot", "told", "near", "other", "pair"]
theorem sc_kept_lots : FnScope N_kept_lots ["lots", "is_co"] (defScope s_kept_lots) := ⟨rfl, rfl, rfl, by decide +kernel, rfl, by decide +kernel, by decide +kernel⟩
abbrev s_joined : Stmt := top 44
abbrev N_joined : List Str := ["one", "other", "is_co", "told", "lane", "number"]
theorem sc_joined : FnScope N_joined ["one", "other", "is_co"] (defScope s_joined) := ⟨rfl, rfl, rfl, by decide +kernel, rfl, by decide +kernel, by decide +kernel⟩
abbrev s_all_joined : Stmt := top 45
abbrev N_all_joined : List Str := ["ones", "others", "is_co", "found", "one", "other"]
theorem sc_all_joined : FnScope N_all_joined ["ones", "others", "is_co"] (defScope s_all_joined) := ⟨rfl, rfl, rfl, by decide +kernel, rfl, by decide +kernel, by decide +kernel⟩
abbrev s_limited : Stmt := top 48
abbrev N_limited : List Str := ["lots"]
theorem sc_limited : FnScope N_limited ["lots"] (defScope s_limited) := ⟨rfl, rfl, rfl, by decide +kernel, rfl, by decide +kernel, by decide +kernel⟩
abbrev s_lanes_in : Stmt := top 49
abbrev N_lanes_in : List Str := ["lots", "found", "lot", "lane", "number"]
theorem sc_lanes_in : FnScope N_lanes_in ["lots"] (defScope s_lanes_in) := ⟨rfl, rfl, rfl, by decide +kernel, rfl, by decide +kernel, by decide +kernel⟩
abbrev s_more_by : Stmt := top 51
abbrev N_more_by : List Str := ["lots", "number", "lane", "own", "lot"]
theorem sc_more_by : FnScope N_more_by ["lots", "number"] (defScope s_more_by) := ⟨rfl, rfl, rfl, by decide +kernel, rfl, by decide +kernel, by decide +kernel⟩
abbrev s_numbers_of : Stmt := top 57
abbrev N_numbers_of : List Str := ["lots", "found", "lot", "lane", "number"]
theorem sc_numbers_of : FnScope N_numbers_of ["lots"] (defScope s_numbers_of) := ⟨rfl, rfl, rfl, by decide +kernel, rfl, by decide +kernel, by decide +kernel⟩
abbrev s_corner : Stmt := top 58
abbrev N_corner : List Str := ["lot", "lots", "lanes", "is_co", "far", "found", "lane", "number"]
theorem sc_corner : FnScope N_corner ["lot", "lots", "lanes", "is_co"] (defScope s_corner) := ⟨rfl, rfl, rfl, by decide +kernel, rfl, by decide +kernel, by decide +kernel⟩
abbrev s_fits : Stmt := top 60
abbrev N_fits : List Str := ["lanes", "family"]
theorem sc_fits : FnScope N_fits ["lanes", "family"] (defScope s_fits) := ⟨rfl, rfl, rfl, by decide +kernel, rfl, by decide +kernel, by decide +kernel⟩
abbrev s_same_lots : Stmt := top 61
abbrev N_same_lots : List Str := ["lanes", "lane"]
theorem sc_same_lots : FnScope N_same_lots ["lanes"] (defScope s_same_lots) := ⟨rfl, rfl, rfl, by decide +kernel, rfl, by decide +kernel, by decide +kernel⟩
abbrev s_is_gate : Stmt := top 73
abbrev N_is_gate : List Str := ["lanes", "value"]
theorem sc_is_gate : FnScope N_is_gate ["lanes", "value"] (defScope s_is_gate) := ⟨rfl, rfl, rfl, by decide +kernel, rfl, by decide +kernel, by decide +kernel⟩
abbrev s_want_gates : Stmt := top 74
abbrev N_want_gates : List Str := ["lanes", "gates", "position", "gate"]
theorem sc_want_gates : FnScope N_want_gates ["lanes", "gates"] (defScope s_want_gates) := ⟨rfl, rfl, rfl, by decide +kernel, rfl, by decide +kernel, by decide +kernel⟩
abbrev s_want_few : Stmt := top 75
abbrev N_want_few : List Str := ["many"]
theorem sc_want_few : FnScope N_want_few ["many"] (defScope s_want_few) := ⟨rfl, rfl, rfl, by decide +kernel, rfl, by decide +kernel, by decide +kernel⟩
abbrev s_want_position : Stmt := top 76
abbrev N_want_position : List Str := ["many", "value"]
theorem sc_want_position : FnScope N_want_position ["many", "value"] (defScope s_want_position) := ⟨rfl, rfl, rfl, by decide +kernel, rfl, by decide +kernel, by decide +kernel⟩
abbrev s_do_gate : Stmt := top 77
abbrev N_do_gate : List Str := ["here", "gate", "word", "lane", "last", "lesser", "greater"]
theorem sc_do_gate : FnScope N_do_gate ["here", "gate"] (defScope s_do_gate) := ⟨rfl, rfl, rfl, by decide +kernel, rfl, by decide +kernel, by decide +kernel⟩
abbrev s_told_by : Stmt := top 78
abbrev N_told_by : List Str := ["gates", "content", "here", "gate"]
theorem sc_told_by : FnScope N_told_by ["gates", "content"] (defScope s_told_by) := ⟨rfl, rfl, rfl, by decide +kernel, rfl, by decide +kernel, by decide +kernel⟩
abbrev s_least_of : Stmt := top 82
abbrev N_least_of : List Str := ["ones", "others"]
theorem sc_least_of : FnScope N_least_of ["ones", "others"] (defScope s_least_of) := ⟨rfl, rfl, rfl, by decide +kernel, rfl, by decide +kernel, by decide +kernel⟩
abbrev s_greatest_of : Stmt := top 83
abbrev N_greatest_of : List Str := ["ones", "others"]
theorem sc_greatest_of : FnScope N_greatest_of ["ones", "others"] (defScope s_greatest_of) := ⟨rfl, rfl, rfl, by decide +kernel, rfl, by decide +kernel, by decide +kernel⟩
abbrev s_told_behind : Stmt := top 84
abbrev N_told_behind : List Str := ["told", "gate", "word", "one", "other", "found"]
theorem sc_told_behind : FnScope N_told_behind ["told", "gate"] (defScope s_told_behind) := ⟨rfl, rfl, rfl, by decide +kernel, rfl, by decide +kernel, by decide +kernel⟩
abbrev s_all_told : Stmt := top 85
abbrev N_all_told : List Str := ["net", "position", "found", "gate"]
theorem sc_all_told : FnScope N_all_told ["net", "position"] (defScope s_all_told) := ⟨rfl, rfl, rfl, by decide +kernel, rfl, by decide +kernel, by decide +kernel⟩
abbrev s_want_place : Stmt := top 86
abbrev N_want_place : List Str := ["net", "position"]
theorem sc_want_place : FnScope N_want_place ["net", "position"] (defScope s_want_place) := ⟨rfl, rfl, rfl, by decide +kernel, rfl, by decide +kernel, by decide +kernel⟩
abbrev s_map_behind : Stmt := top 87
abbrev N_map_behind : List Str := ["net", "position", "lots"]
theorem sc_map_behind : FnScope N_map_behind ["net", "position"] (defScope s_map_behind) := ⟨rfl, rfl, rfl, by decide +kernel, rfl, by decide +kernel, by decide +kernel⟩
abbrev s_map_of : Stmt := top 88
abbrev N_map_of : List Str := ["net"]
theorem sc_map_of : FnScope N_map_of ["net"] (defScope s_map_of) := ⟨rfl, rfl, rfl, by decide +kernel, rfl, by decide +kernel, by decide +kernel⟩
abbrev s_lots_of_lane : Stmt := top 89
abbrev N_lots_of_lane : List Str := ["net", "lane"]
theorem sc_lots_of_lane : FnScope N_lots_of_lane ["net", "lane"] (defScope s_lots_of_lane) := ⟨rfl, rfl, rfl, by decide +kernel, rfl, by decide +kernel, by decide +kernel⟩
abbrev s_lanes_hung : Stmt := top 90
abbrev N_lanes_hung : List Str := ["net", "lane"]
theorem sc_lanes_hung : FnScope N_lanes_hung ["net", "lane"] (defScope s_lanes_hung) := ⟨rfl, rfl, rfl, by decide +kernel, rfl, by decide +kernel, by decide +kernel⟩
abbrev s_shown : Stmt := top 91
abbrev N_shown : List Str := ["net", "lane", "other", "lots", "lot", "first", "second"]
theorem sc_shown : FnScope N_shown ["net", "lane", "other"] (defScope s_shown) := ⟨rfl, rfl, rfl, by decide +kernel, rfl, by decide +kernel, by decide +kernel⟩
abbrev s_rise_of : Stmt := top 92
abbrev N_rise_of : List Str := ["near", "far"]
theorem sc_rise_of : FnScope N_rise_of ["near", "far"] (defScope s_rise_of) := ⟨rfl, rfl, rfl, by decide +kernel, rfl, by decide +kernel, by decide +kernel⟩
abbrev s_rise : Stmt := top 93
abbrev N_rise : List Str := ["net", "position", "lane", "later", "near", "far", "at"]
theorem sc_rise : FnScope N_rise ["net", "position", "lane"] (defScope s_rise) := ⟨rfl, rfl, rfl, by decide +kernel, rfl, by decide +kernel, by decide +kernel⟩
abbrev s_want_net_beside : Stmt := top 94
abbrev N_want_net_beside : List Str := ["net", "other"]
theorem sc_want_net_beside : FnScope N_want_net_beside ["net", "other"] (defScope s_want_net_beside) := ⟨rfl, rfl, rfl, by decide +kernel, rfl, by decide +kernel, by decide +kernel⟩
abbrev s_are_alike : Stmt := top 95
abbrev N_are_alike : List Str := ["net", "other"]
theorem sc_are_alike : FnScope N_are_alike ["net", "other"] (defScope s_are_alike) := ⟨rfl, rfl, rfl, by decide +kernel, rfl, by decide +kernel, by decide +kernel⟩
abbrev s_corner_apart : Stmt := top 96
abbrev N_corner_apart : List Str := ["ones", "others", "lanes", "lot"]
theorem sc_corner_apart : FnScope N_corner_apart ["ones", "others", "lanes"] (defScope s_corner_apart) := ⟨rfl, rfl, rfl, by decide +kernel, rfl, by decide +kernel, by decide +kernel⟩
abbrev s_unlike : Stmt := top 97
abbrev N_unlike : List Str := ["net", "other", "near", "far", "lane", "found"]
theorem sc_unlike : FnScope N_unlike ["net", "other"] (defScope s_unlike) := ⟨rfl, rfl, rfl, by decide +kernel, rfl, by decide +kernel, by decide +kernel⟩
abbrev s_may_change : Stmt := top 98
abbrev N_may_change : List Str := ["net", "position"]
theorem sc_may_change : FnScope N_may_change ["net", "position"] (defScope s_may_change) := ⟨rfl, rfl, rfl, by decide +kernel, rfl, by decide +kernel, by decide +kernel⟩
abbrev s_FamilyZ_initZ : Stmt := inClass (top 54) 0
abbrev N_FamilyZ_initZ : List Str := ["self", "lots"]
theorem sc_FamilyZ_initZ : FnScope N_FamilyZ_initZ ["self", "lots"] (defScope s_FamilyZ_initZ) := ⟨rfl, rfl, rfl, by decide +kernel, rfl, by decide +kernel, by decide +kernel⟩
abbrev s_FamilyZ_eqZ : Stmt := inClass (top 54) 11
abbrev N_FamilyZ_eqZ : List Str := ["self", "other"]
theorem sc_FamilyZ_eqZ : FnScope N_FamilyZ_eqZ ["self", "other"] (defScope s_FamilyZ_eqZ) := ⟨rfl, rfl, rfl, by decide +kernel, rfl, by decide +kernel, by decide +kernel⟩
abbrev s_MapZ_initZ : Stmt := inClass (top 65) 2
abbrev N_MapZ_initZ : List Str := ["self", "families", "position", "family"]
theorem sc_MapZ_initZ : FnScope N_MapZ_initZ ["self", "families"] (defScope s_MapZ_initZ) := ⟨rfl, rfl, rfl, by decide +kernel, rfl, by decide +kernel, by decide +kernel⟩
abbrev s_MapZ_eqZ : Stmt := inClass (top 65) 13
abbrev N_MapZ_eqZ : List Str := ["self", "other"]
theorem sc_MapZ_eqZ : FnScope N_MapZ_eqZ ["self", "other"] (defScope s_MapZ_eqZ) := ⟨rfl, rfl, rfl, by decide +kernel, rfl, by decide +kernel, by decide +kernel⟩
abbrev s_NetZ_initZ : Stmt := inClass (top 80) 2
abbrev N_NetZ_initZ : List Str := ["self", "lanes", "gates"]
theorem sc_NetZ_initZ : FnScope N_NetZ_initZ ["self", "lanes", "gates"] (defScope s_NetZ_initZ) := ⟨rfl, rfl, rfl, by decide +kernel, rfl, by decide +kernel, by decide +kernel⟩
abbrev s_Net_lanes : Stmt := inClass (top 80) 4
abbrev N_Net_lanes : List Str := ["self"]
theorem sc_Net_lanes : FnScope N_Net_lanes ["self"] (defScope s_Net_lanes) := ⟨rfl, rfl, rfl, by decide +kernel, rfl, by decide +kernel, by decide +kernel⟩
abbrev s_Net_gates : Stmt := inClass (top 80) 6
abbrev N_Net_gates : List Str := ["self"]
theorem sc_Net_gates : FnScope N_Net_gates ["self"] (defScope s_Net_gates) := ⟨rfl, rfl, rfl, by decide +kernel, rfl, by decide +kernel, by decide +kernel⟩
abbrev s_NetZ_lenZ : Stmt := inClass (top 80) 7
abbrev N_NetZ_lenZ : List Str := ["self"]
theorem sc_NetZ_lenZ : FnScope N_NetZ_lenZ ["self"] (defScope s_NetZ_lenZ) := ⟨rfl, rfl, rfl, by decide +kernel, rfl, by decide +kernel, by decide +kernel⟩
abbrev s_NetZ_callZ : Stmt := inClass (top 80) 10
abbrev N_NetZ_callZ : List Str := ["self", "content"]
theorem sc_NetZ_callZ : FnScope N_NetZ_callZ ["self", "content"] (defScope s_NetZ_callZ) := ⟨rfl, rfl, rfl, by decide +kernel, rfl, by decide +kernel, by decide +kernel⟩
abbrev s_NetZ_reprZ : Stmt := inClass (top 80) 15
abbrev N_NetZ_reprZ : List Str := ["self"]
theorem sc_NetZ_reprZ : FnScope N_NetZ_reprZ ["self"] (defScope s_NetZ_reprZ) := ⟨rfl, rfl, rfl, by decide +kernel, rfl, by decide +kernel, by decide +kernel⟩
abbrev s_Net_with_gate : Stmt := inClass (top 80) 19
abbrev N_Net_with_gate : List Str := ["self", "position", "gate"]
theorem sc_Net_with_gate : FnScope N_Net_with_gate ["self", "position", "gate"] (defScope s_Net_with_gate) := ⟨rfl, rfl, rfl, by decide +kernel, rfl, by decide +kernel, by decide +kernel⟩
abbrev s_Net_exchanged : Stmt := inClass (top 80) 22
abbrev N_Net_exchanged : List Str := ["self", "position", "gates"]
theorem sc_Net_exchanged : FnScope N_Net_exchanged ["self", "position"] (defScope s_Net_exchanged) := ⟨rfl, rfl, rfl, by decide +kernel, rfl, by decide +kernel, by decide +kernel⟩
abbrev s_L_pot : Stmt := top 100
abbrev N_L_pot : List Str := ["_law_script", "_law_k", "_law_cell"]
theorem sc_L_pot : FnScope N_L_pot ["_law_script", "_law_k"] (defScope s_L_pot) := ⟨rfl, rfl, rfl, by decide +kernel, rfl, by decide +kernel, by decide +kernel⟩
abbrev s_L_draw : Stmt := top 101
abbrev N_L_draw : List Str := ["_law_pot_here", "_law_size", "_law_digit"]
theorem sc_L_draw : FnScope N_L_draw ["_law_pot_here", "_law_size"] (defScope s_L_draw) := ⟨rfl, rfl, rfl, by decide +kernel, rfl, by decide +kernel, by decide +kernel⟩
abbrev s_L_pick : Stmt := top 102
abbrev N_L_pick : List Str := ["_law_pot_here", "_law_some"]
theorem sc_L_pick : FnScope N_L_pick ["_law_pot_here", "_law_some"] (defScope s_L_pick) := ⟨rfl, rfl, rfl, by decide +kernel, rfl, by decide +kernel, by decide +kernel⟩
abbrev s_L_gate : Stmt := top 103
abbrev N_L_gate : List Str := ["_law_pot_here", "_law_lanes_here", "_law_plain", "_law_one", "_law_kind"]
theorem sc_L_gate : FnScope N_L_gate ["_law_pot_here", "_law_lanes_here", "_law_plain"] (defScope s_L_gate) := ⟨rfl, rfl, rfl, by decide +kernel, rfl, by decide +kernel, by decide +kernel⟩
abbrev s_L_gates : Stmt := top 104
abbrev N_L_gates : List Str := ["_law_pot_here", "_law_lanes_here", "_law_most", "_law_plain", "_law_found", "_law_turn", "_law_gate_here"]
theorem sc_L_gates : FnScope N_L_gates ["_law_pot_here", "_law_lanes_here", "_law_most", "_law_plain"] (defScope s_L_gates) := ⟨rfl, rfl, rfl, by decide +kernel, rfl, by decide +kernel, by decide +kernel⟩
abbrev s_L_done : Stmt := top 105
abbrev N_L_done : List Str := ["_law_gate_here", "_law_now", "_law_later", "_law_kind", "_law_one", "_law_other_now"]
theorem sc_L_done : FnScope N_L_done ["_law_gate_here", "_law_now"] (defScope s_L_done) := ⟨rfl, rfl, rfl, by decide +kernel, rfl, by decide +kernel, by decide +kernel⟩
abbrev s_L_run : Stmt := top 106
abbrev N_L_run : List Str := ["_law_gates_here", "_law_content", "_law_now", "_law_gate_here"]
theorem sc_L_run : FnScope N_L_run ["_law_gates_here", "_law_content"] (defScope s_L_run) := ⟨rfl, rfl, rfl, by decide +kernel, rfl, by decide +kernel, by decide +kernel⟩
abbrev s_L_is_under : Stmt := top 107
abbrev N_L_is_under : List Str := ["_law_one", "_law_other_now", "_law_facts", "_law_lane_now", "_law_number"]
theorem sc_L_is_under : FnScope N_L_is_under ["_law_one", "_law_other_now"] (defScope s_L_is_under) := ⟨rfl, rfl, rfl, by decide +kernel, rfl, by decide +kernel, by decide +kernel⟩
abbrev s_L_least : Stmt := top 108
abbrev N_L_least : List Str := ["_law_lots", "_law_some", "_law_lot", "_law_near"]
theorem sc_L_least : FnScope N_L_least ["_law_lots"] (defScope s_L_least) := ⟨rfl, rfl, rfl, by decide +kernel, rfl, by decide +kernel, by decide +kernel⟩
abbrev s_L_join : Stmt := top 109
abbrev N_L_join : List Str := ["_law_one", "_law_other_now", "_law_found", "_law_lane_now", "_law_number"]
theorem sc_L_join : FnScope N_L_join ["_law_one", "_law_other_now"] (defScope s_L_join) := ⟨rfl, rfl, rfl, by decide +kernel, rfl, by decide +kernel, by decide +kernel⟩
abbrev s_L_joins : Stmt := top 110
abbrev N_L_joins : List Str := ["_law_some", "_law_more", "_law_found", "_law_one", "_law_other_now"]
theorem sc_L_joins : FnScope N_L_joins ["_law_some", "_law_more"] (defScope s_L_joins) := ⟨rfl, rfl, rfl, by decide +kernel, rfl, by decide +kernel, by decide +kernel⟩
abbrev s_L_raised : Stmt := top 111
abbrev N_L_raised : List Str := ["_law_lots", "_law_number", "_law_lane_now", "_law_a", "_law_lot"]
theorem sc_L_raised : FnScope N_L_raised ["_law_lots", "_law_number"] (defScope s_L_raised) := ⟨rfl, rfl, rfl, by decide +kernel, rfl, by decide +kernel, by decide +kernel⟩
abbrev s_L_told : Stmt := top 112
abbrev N_L_told : List Str := ["_law_lanes_here", "_law_gates_here", "_law_most", "_law_rows", "_law_kind", "_law_one", "_law_other_now", "_law_later", "_law_lane_now", "_law_row"]
theorem sc_L_told : FnScope N_L_told ["_law_lanes_here", "_law_gates_here", "_law_most"] (defScope s_L_told) := ⟨rfl, rfl, rfl, by decide +kernel, rfl, by decide +kernel, by decide +kernel⟩
abbrev s_L_corner : Stmt := top 113
abbrev N_L_corner : List Str := ["_law_lot", "_law_lots", "_law_lanes_here", "_law_far", "_law_facts", "_law_lane_now", "_law_number", "_law_near"]
theorem sc_L_corner : FnScope N_L_corner ["_law_lot", "_law_lots", "_law_lanes_here"] (defScope s_L_corner) := ⟨rfl, rfl, rfl, by decide +kernel, rfl, by decide +kernel, by decide +kernel⟩
abbrev s_L_lanes : Stmt := top 114
abbrev N_L_lanes : List Str := ["_law_lots", "_law_found", "_law_lot", "_law_lane_now", "_law_number"]
theorem sc_L_lanes : FnScope N_L_lanes ["_law_lots"] (defScope s_L_lanes) := ⟨rfl, rfl, rfl, by decide +kernel, rfl, by decide +kernel, by decide +kernel⟩
abbrev s_L_hung_right : Stmt := top 115
abbrev N_L_hung_right : List Str := ["_law_pot_here", "_law_net_now", "_law_gates_here", "_law_rows", "_law_lanes_here", "_law_lane_now", "_law_due", "_law_told_here", "_law_other_now", "_law_pair", "_law_lot", "_law_first", "_law_second", "_law_spot", "_law_part", "_law_near"]
theorem sc_L_hung_right : FnScope N_L_hung_right ["_law_pot_here", "_law_net_now", "_law_gates_here", "_law_rows"] (defScope s_L_hung_right) := ⟨rfl, rfl, rfl, by decide +kernel, rfl, by decide +kernel, by decide +kernel⟩
abbrev s_L_still_right : Stmt := top 116
abbrev N_L_still_right : List Str := ["_law_pot_here", "_law_net_now", "_law_rows", "_law_spot", "_law_lane_now", "_law_due", "_law_later", "_law_other_now"]
theorem sc_L_still_right : FnScope N_L_still_right ["_law_pot_here", "_law_net_now", "_law_rows", "_law_spot"] (defScope s_L_still_right) := ⟨rfl, rfl, rfl, by decide +kernel, rfl, by decide +kernel, by decide +kernel⟩
abbrev s_L_unlike : Stmt := top 117
abbrev N_L_unlike : List Str := ["_law_rows", "_law_more", "_law_lane_now", "_law_near", "_law_far", "_law_left", "_law_one", "_law_lot"]
theorem sc_L_unlike : FnScope N_L_unlike ["_law_rows", "_law_more"] (defScope s_L_unlike) := ⟨rfl, rfl, rfl, by decide +kernel, rfl, by decide +kernel, by decide +kernel⟩
abbrev s_L_pair_right : Stmt := top 118
abbrev N_L_pair_right : List Str := ["_law_net_now", "_law_other_now", "_law_rows", "_law_more", "_law_due", "_law_told_here", "_law_lane_now", "_law_spot"]
theorem sc_L_pair_right : FnScope N_L_pair_right ["_law_net_now", "_law_other_now", "_law_rows", "_law_more"] (defScope s_L_pair_right) := ⟨rfl, rfl, rfl, by decide +kernel, rfl, by decide +kernel, by decide +kernel⟩
abbrev s_L_thicker : Stmt := top 119
abbrev N_L_thicker : List Str := ["_law_pot_here", "_law_gates_here", "_law_lanes_here", "_law_at", "_law_lane_now", "_law_number", "_law_extra"]
theorem sc_L_thicker : FnScope N_L_thicker ["_law_pot_here", "_law_gates_here", "_law_lanes_here"] (defScope s_L_thicker) := ⟨rfl, rfl, rfl, by decide +kernel, rfl, by decide +kernel, by decide +kernel⟩
abbrev s_L_others : Stmt := top 120
abbrev N_L_others : List Str := ["_law_pot_here", "_law_gates_here", "_law_lanes_here", "_law_found", "_law_at"]
theorem sc_L_others : FnScope N_L_others ["_law_pot_here", "_law_gates_here", "_law_lanes_here"] (defScope s_L_others) := ⟨rfl, rfl, rfl, by decide +kernel, rfl, by decide +kernel, by decide +kernel⟩
abbrev s_L_may_right : Stmt := top 121
abbrev N_L_may_right : List Str := ["_law_net_now", "_law_gates_here", "_law_rows", "_law_place", "_law_later", "_law_due"]
theorem sc_L_may_right : FnScope N_L_may_right ["_law_net_now", "_law_gates_here", "_law_rows"] (defScope s_L_may_right) := ⟨rfl, rfl, rfl, by decide +kernel, rfl, by decide +kernel, by decide +kernel⟩
abbrev s_L_rise_right : Stmt := top 122
abbrev N_L_rise_right : List Str := ["_law_pot_here", "_law_net_now", "_law_gates_here", "_law_rows", "_law_lanes_here", "_law_place", "_law_at", "_law_later", "_law_more", "_law_told_here", "_law_spot", "_law_near", "_law_far", "_law_raised_here", "_law_due", "_law_found", "_law_one", "_law_two", "_law_left", "_law_risen", "_law_shown_now", "_law_part", "_law_lot", "_law_term"]
theorem sc_L_rise_right : FnScope N_L_rise_right ["_law_pot_here", "_law_net_now", "_law_gates_here", "_law_rows"] (defScope s_L_rise_right) := ⟨rfl, rfl, rfl, by decide +kernel, rfl, by decide +kernel, by decide +kernel⟩
abbrev s_L_right : Stmt := top 123
abbrev N_L_right : List Str := ["_law_pot_here", "_law_lanes_here", "_law_gates_here", "_law_rows", "_law_net_now", "_law_kept", "_law_turn", "_law_later", "_law_more"]
theorem sc_L_right : FnScope N_L_right ["_law_pot_here"] (defScope s_L_right) := ⟨rfl, rfl, rfl, by decide +kernel, rfl, by decide +kernel, by decide +kernel⟩
abbrev s_law : Stmt := top 124
abbrev N_law : List Str := ["_law_script", "_law_k"]
theorem sc_law : FnScope N_law ["_law_script"] (defScope s_law) := ⟨rfl, rfl, rfl, by decide +kernel, rfl, by decide +kernel, by decide +kernel⟩
/-! ### the defs as data -/
def d_is_integer : He.DefD := ⟨("is_integer", none), "is_integer", "is_integer", defArgs s_is_integer, defBody s_is_integer, defScope s_is_integer, [], []⟩
def d_is_count : He.DefD := ⟨("is_count", none), "is_count", "is_count", defArgs s_is_count, defBody s_is_count, defScope s_is_count, [], []⟩
def d_is_list : He.DefD := ⟨("is_list", none), "is_list", "is_list", defArgs s_is_list, defBody s_is_list, defScope s_is_list, [], []⟩
def d_is_content : He.DefD := ⟨("is_content", none), "is_content", "is_content", defArgs s_is_content, defBody s_is_content, defScope s_is_content, [], []⟩
def d_is_lane_basics : He.DefD := ⟨("is_lane_basics", none), "is_lane", "is_lane", defArgs s_is_lane_basics, defBody s_is_lane_basics, defScope s_is_lane_basics, [], []⟩
def d_want_content_of : He.DefD := ⟨("want_content_of", none), "want_content_of", "want_content_of", defArgs s_want_content_of, defBody s_want_content_of, defScope s_want_content_of, [], []⟩
def d_want_lane : He.DefD := ⟨("want_lane", none), "want_lane", "want_lane", defArgs s_want_lane, defBody s_want_lane, defScope s_want_lane, [], []⟩
def d_is_lane_lots : He.DefD := ⟨("is_lane_lots", none), "is_lane", "is_lane", defArgs s_is_lane_lots, defBody s_is_lane_lots, defScope s_is_lane_lots, [], []⟩
def d_is_entry : He.DefD := ⟨("is_entry", none), "is_entry", "is_entry", defArgs s_is_entry, defBody s_is_entry, defScope s_is_entry, [], []⟩
def d_is_lot : He.DefD := ⟨("is_lot", none), "is_lot", "is_lot", defArgs s_is_lot, defBody s_is_lot, defScope s_is_lot, [], []⟩
def d_want_lots : He.DefD := ⟨("want_lots", none), "want_lots", "want_lots", defArgs s_want_lots, defBody s_want_lots, defScope s_want_lots, [], []⟩
def d_lanes_for : He.DefD := ⟨("lanes_for", none), "lanes_for", "lanes_for", defArgs s_lanes_for, defBody s_lanes_for, defScope s_lanes_for, [], []⟩
def d_extreme : He.DefD := ⟨("extreme", none), "extreme", "extreme", defArgs s_extreme, defBody s_extreme, defScope s_extreme, [], []⟩
def d_is_ahead : He.DefD := ⟨("is_ahead", none), "is_ahead", "is_ahead", defArgs s_is_ahead, defBody s_is_ahead, defScope s_is_ahead, [], []⟩
def d_first_ahead : He.DefD := ⟨("first_ahead", none), "first_ahead", "first_ahead", defArgs s_first_ahead, defBody s_first_ahead, defScope s_first_ahead, [], []⟩
def d_kept_lots : He.DefD := ⟨("kept_lots", none), "kept_lots", "kept_lots", defArgs s_kept_lots, defBody s_kept_lots, defScope s_kept_lots, [], []⟩
def d_joined : He.DefD := ⟨("joined", none), "joined", "joined", defArgs s_joined, defBody s_joined, defScope s_joined, [], []⟩
def d_all_joined : He.DefD := ⟨("all_joined", none), "all_joined", "all_joined", defArgs s_all_joined, defBody s_all_joined, defScope s_all_joined, [], []⟩
def d_limited : He.DefD := ⟨("limited", none), "limited", "limited", defArgs s_limited, defBody s_limited, defScope s_limited, [], []⟩
def d_lanes_in : He.DefD := ⟨("lanes_in", none), "lanes_in", "lanes_in", defArgs s_lanes_in, defBody s_lanes_in, defScope s_lanes_in, [], []⟩
def d_more_by : He.DefD := ⟨("more_by", none), "more_by", "more_by", defArgs s_more_by, defBody s_more_by, defScope s_more_by, [], []⟩
def d_numbers_of : He.DefD := ⟨("numbers_of", none), "numbers_of", "numbers_of", defArgs s_numbers_of, defBody s_numbers_of, defScope s_numbers_of, [], []⟩
def d_corner : He.DefD := ⟨("corner", none), "corner", "corner", defArgs s_corner, defBody s_corner, defScope s_corner, [], []⟩
def d_fits : He.DefD := ⟨("fits", none), "fits", "fits", defArgs s_fits, defBody s_fits, defScope s_fits, [], []⟩
def d_same_lots : He.DefD := ⟨("same_lots", none), "same_lots", "same_lots", defArgs s_same_lots, defBody s_same_lots, defScope s_same_lots, [], []⟩
def d_is_gate : He.DefD := ⟨("is_gate", none), "is_gate", "is_gate", defArgs s_is_gate, defBody s_is_gate, defScope s_is_gate, [], []⟩
def d_want_gates : He.DefD := ⟨("want_gates", none), "want_gates", "want_gates", defArgs s_want_gates, defBody s_want_gates, defScope s_want_gates, [], []⟩
def d_want_few : He.DefD := ⟨("want_few", none), "want_few", "want_few", defArgs s_want_few, defBody s_want_few, defScope s_want_few, [], []⟩
def d_want_position : He.DefD := ⟨("want_position", none), "want_position", "want_position", defArgs s_want_position, defBody s_want_position, defScope s_want_position, [], []⟩
def d_do_gate : He.DefD := ⟨("do_gate", none), "do_gate", "do_gate", defArgs s_do_gate, defBody s_do_gate, defScope s_do_gate, [], []⟩
def d_told_by : He.DefD := ⟨("told_by", none), "told_by", "told_by", defArgs s_told_by, defBody s_told_by, defScope s_told_by, [], []⟩
def d_least_of : He.DefD := ⟨("least_of", none), "least_of", "least_of", defArgs s_least_of, defBody s_least_of, defScope s_least_of, [], []⟩
def d_greatest_of : He.DefD := ⟨("greatest_of", none), "greatest_of", "greatest_of", defArgs s_greatest_of, defBody s_greatest_of, defScope s_greatest_of, [], []⟩
def d_told_behind : He.DefD := ⟨("told_behind", none), "told_behind", "told_behind", defArgs s_told_behind, defBody s_told_behind, defScope s_told_behind, [], []⟩
def d_all_told : He.DefD := ⟨("all_told", none), "all_told", "all_told", defArgs s_all_told, defBody s_all_told, defScope s_all_told, [], []⟩
def d_want_place : He.DefD := ⟨("want_place", none), "want_place", "want_place", defArgs s_want_place, defBody s_want_place, defScope s_want_place, [], []⟩
def d_map_behind : He.DefD := ⟨("map_behind", none), "map_behind", "map_behind", defArgs s_map_behind, defBody s_map_behind, defScope s_map_behind, [], []⟩
def d_map_of : He.DefD := ⟨("map_of", none), "map_of", "map_of", defArgs s_map_of, defBody s_map_of, defScope s_map_of, [], []⟩
def d_lots_of_lane : He.DefD := ⟨("lots_of_lane", none), "lots_of_lane", "lots_of_lane", defArgs s_lots_of_lane, defBody s_lots_of_lane, defScope s_lots_of_lane, [], []⟩
def d_lanes_hung : He.DefD := ⟨("lanes_hung", none), "lanes_hung", "lanes_hung", defArgs s_lanes_hung, defBody s_lanes_hung, defScope s_lanes_hung, [], []⟩
def d_shown : He.DefD := ⟨("shown", none), "shown", "shown", defArgs s_shown, defBody s_shown, defScope s_shown, [], []⟩
def d_rise_of : He.DefD := ⟨("rise_of", none), "rise_of", "rise_of", defArgs s_rise_of, defBody s_rise_of, defScope s_rise_of, [], []⟩
def d_rise : He.DefD := ⟨("rise", none), "rise", "rise", defArgs s_rise, defBody s_rise, defScope s_rise, [], []⟩
def d_want_net_beside : He.DefD := ⟨("want_net_beside", none), "want_net_beside", "want_net_beside", defArgs s_want_net_beside, defBody s_want_net_beside, defScope s_want_net_beside, [], []⟩
def d_are_alike : He.DefD := ⟨("are_alike", none), "are_alike", "are_alike", defArgs s_are_alike, defBody s_are_alike, defScope s_are_alike, [], []⟩
def d_corner_apart : He.DefD := ⟨("corner_apart", none), "corner_apart", "corner_apart", defArgs s_corner_apart, defBody s_corner_apart, defScope s_corner_apart, [], []⟩
def d_unlike : He.DefD := ⟨("unlike", none), "unlike", "unlike", defArgs s_unlike, defBody s_unlike, defScope s_unlike, [], []⟩
def d_may_change : He.DefD := ⟨("may_change", none), "may_change", "may_change", defArgs s_may_change, defBody s_may_change, defScope s_may_change, [], []⟩
def d_FamilyZ_initZ : He.DefD := ⟨("Family", some "__init__"), "__init__", "Family.__init__", defArgs s_FamilyZ_initZ, defBody s_FamilyZ_initZ, defScope s_FamilyZ_initZ, [], []⟩
def d_FamilyZ_eqZ : He.DefD := ⟨("Family", some "__eq__"), "__eq__", "Family.__eq__", defArgs s_FamilyZ_eqZ, defBody s_FamilyZ_eqZ, defScope s_FamilyZ_eqZ, [], []⟩
def d_MapZ_initZ : He.DefD := ⟨("Map", some "__init__"), "__init__", "Map.__init__", defArgs s_MapZ_initZ, defBody s_MapZ_initZ, defScope s_MapZ_initZ, [], []⟩
def d_MapZ_eqZ : He.DefD := ⟨("Map", some "__eq__"), "__eq__", "Map.__eq__", defArgs s_MapZ_eqZ, defBody s_MapZ_eqZ, defScope s_MapZ_eqZ, [], []⟩
def d_NetZ_initZ : He.DefD := ⟨("Net", some "__init__"), "__init__", "Net.__init__", defArgs s_NetZ_initZ, defBody s_NetZ_initZ, defScope s_NetZ_initZ, [.adr (He.dflAt ("Net", some "__init__") 0)], []⟩
def d_Net_lanes : He.DefD := ⟨("Net", some "lanes"), "lanes", "Net.lanes", defArgs s_Net_lanes, defBody s_Net_lanes, defScope s_Net_lanes, [], []⟩
def d_Net_gates : He.DefD := ⟨("Net", some "gates"), "gates", "Net.gates", defArgs s_Net_gates, defBody s_Net_gates, defScope s_Net_gates, [], []⟩
def d_NetZ_lenZ : He.DefD := ⟨("Net", some "__len__"), "__len__", "Net.__len__", defArgs s_NetZ_lenZ, defBody s_NetZ_lenZ, defScope s_NetZ_lenZ, [], []⟩
def d_NetZ_callZ : He.DefD := ⟨("Net", some "__call__"), "__call__", "Net.__call__", defArgs s_NetZ_callZ, defBody s_NetZ_callZ, defScope s_NetZ_callZ, [], []⟩
def d_NetZ_reprZ : He.DefD := ⟨("Net", some "__repr__"), "__repr__", "Net.__repr__", defArgs s_NetZ_reprZ, defBody s_NetZ_reprZ, defScope s_NetZ_reprZ, [], []⟩
def d_Net_with_gate : He.DefD := ⟨("Net", some "with_gate"), "with_gate", "Net.with_gate", defArgs s_Net_with_gate, defBody s_Net_with_gate, defScope s_Net_with_gate, [], []⟩
def d_Net_exchanged : He.DefD := ⟨("Net", some "exchanged"), "exchanged", "Net.exchanged", defArgs s_Net_exchanged, defBody s_Net_exchanged, defScope s_Net_exchanged, [], []⟩
def d_L_pot : He.DefD := ⟨("_law_pot", none), "_law_pot", "_law_pot", defArgs s_L_pot, defBody s_L_pot, defScope s_L_pot, [], []⟩
def d_L_draw : He.DefD := ⟨("_law_draw", none), "_law_draw", "_law_draw", defArgs s_L_draw, defBody s_L_draw, defScope s_L_draw, [], []⟩
def d_L_pick : He.DefD := ⟨("_law_pick", none), "_law_pick", "_law_pick", defArgs s_L_pick, defBody s_L_pick, defScope s_L_pick, [], []⟩
def d_L_gate : He.DefD := ⟨("_law_gate", none), "_law_gate", "_law_gate", defArgs s_L_gate, defBody s_L_gate, defScope s_L_gate, [], []⟩
def d_L_gates : He.DefD := ⟨("_law_gates", none), "_law_gates", "_law_gates", defArgs s_L_gates, defBody s_L_gates, defScope s_L_gates, [], []⟩
def d_L_done : He.DefD := ⟨("_law_done", none), "_law_done", "_law_done", defArgs s_L_done, defBody s_L_done, defScope s_L_done, [], []⟩
def d_L_run : He.DefD := ⟨("_law_run", none), "_law_run", "_law_run", defArgs s_L_run, defBody s_L_run, defScope s_L_run, [], []⟩
def d_L_is_under : He.DefD := ⟨("_law_is_under", none), "_law_is_under", "_law_is_under", defArgs s_L_is_under, defBody s_L_is_under, defScope s_L_is_under, [], []⟩
def d_L_least : He.DefD := ⟨("_law_least", none), "_law_least", "_law_least", defArgs s_L_least, defBody s_L_least, defScope s_L_least, [], []⟩
def d_L_join : He.DefD := ⟨("_law_join", none), "_law_join", "_law_join", defArgs s_L_join, defBody s_L_join, defScope s_L_join, [], []⟩
def d_L_joins : He.DefD := ⟨("_law_joins", none), "_law_joins", "_law_joins", defArgs s_L_joins, defBody s_L_joins, defScope s_L_joins, [], []⟩
def d_L_raised : He.DefD := ⟨("_law_raised", none), "_law_raised", "_law_raised", defArgs s_L_raised, defBody s_L_raised, defScope s_L_raised, [], []⟩
def d_L_told : He.DefD := ⟨("_law_told", none), "_law_told", "_law_told", defArgs s_L_told, defBody s_L_told, defScope s_L_told, [], []⟩
def d_L_corner : He.DefD := ⟨("_law_corner", none), "_law_corner", "_law_corner", defArgs s_L_corner, defBody s_L_corner, defScope s_L_corner, [], []⟩
def d_L_lanes : He.DefD := ⟨("_law_lanes", none), "_law_lanes", "_law_lanes", defArgs s_L_lanes, defBody s_L_lanes, defScope s_L_lanes, [], []⟩
def d_L_hung_right : He.DefD := ⟨("_law_hung_right", none), "_law_hung_right", "_law_hung_right", defArgs s_L_hung_right, defBody s_L_hung_right, defScope s_L_hung_right, [], []⟩
def d_L_still_right : He.DefD := ⟨("_law_still_right", none), "_law_still_right", "_law_still_right", defArgs s_L_still_right, defBody s_L_still_right, defScope s_L_still_right, [], []⟩
def d_L_unlike : He.DefD := ⟨("_law_unlike", none), "_law_unlike", "_law_unlike", defArgs s_L_unlike, defBody s_L_unlike, defScope s_L_unlike, [], []⟩
def d_L_pair_right : He.DefD := ⟨("_law_pair_right", none), "_law_pair_right", "_law_pair_right", defArgs s_L_pair_right, defBody s_L_pair_right, defScope s_L_pair_right, [], []⟩
def d_L_thicker : He.DefD := ⟨("_law_thicker", none), "_law_thicker", "_law_thicker", defArgs s_L_thicker, defBody s_L_thicker, defScope s_L_thicker, [], []⟩
def d_L_others : He.DefD := ⟨("_law_others", none), "_law_others", "_law_others", defArgs s_L_others, defBody s_L_others, defScope s_L_others, [], []⟩
def d_L_may_right : He.DefD := ⟨("_law_may_right", none), "_law_may_right", "_law_may_right", defArgs s_L_may_right, defBody s_L_may_right, defScope s_L_may_right, [], []⟩
def d_L_rise_right : He.DefD := ⟨("_law_rise_right", none), "_law_rise_right", "_law_rise_right", defArgs s_L_rise_right, defBody s_L_rise_right, defScope s_L_rise_right, [], []⟩
def d_L_right : He.DefD := ⟨("_law_right", none), "_law_right", "_law_right", defArgs s_L_right, defBody s_L_right, defScope s_L_right, [], []⟩
def d_law : He.DefD := ⟨("law", none), "law", "law", defArgs s_law, defBody s_law, defScope s_law, [], []⟩
def fn0 : List He.DefD := [d_is_integer, d_is_count, d_is_list, d_is_content, d_is_lane_basics, d_want_content_of, d_want_lane, d_is_lane_lots, d_is_entry, d_is_lot, d_want_lots, d_lanes_for, d_extreme, d_is_ahead, d_first_ahead, d_kept_lots, d_joined, d_all_joined, d_limited, d_lanes_in]
def fn1 : List He.DefD := [d_more_by, d_numbers_of, d_corner, d_fits, d_same_lots, d_is_gate, d_want_gates, d_want_few, d_want_position, d_do_gate, d_told_by, d_least_of, d_greatest_of, d_told_behind, d_all_told, d_want_place, d_map_behind, d_map_of, d_lots_of_lane, d_lanes_hung]
def fn2 : List He.DefD := [d_shown, d_rise_of, d_rise, d_want_net_beside, d_are_alike, d_corner_apart, d_unlike, d_may_change, d_FamilyZ_initZ, d_FamilyZ_eqZ, d_MapZ_initZ, d_MapZ_eqZ, d_NetZ_initZ, d_Net_gates, d_NetZ_lenZ, d_NetZ_callZ, d_NetZ_reprZ, d_Net_with_gate, d_Net_exchanged, d_L_pot]
def fn3 : List He.DefD := [d_L_draw, d_L_pick, d_L_gate, d_L_gates, d_L_done, d_L_run, d_L_is_under, d_L_least, d_L_join, d_L_joins, d_L_raised, d_L_told, d_L_corner, d_L_lanes, d_L_hung_right, d_L_still_right, d_L_unlike, d_L_pair_right, d_L_thicker, d_L_others]
def fn4 : List He.DefD := [d_L_may_right, d_L_rise_right, d_L_right, d_law]
def fnL : List He.DefD := fn0 ++ (fn1 ++ (fn2 ++ (fn3 ++ (fn4))))
def gl0 : List Str := ["is_integer", "is_count", "is_list", "is_content", "is_lane_basics", "want_content_of", "want_lane", "is_lane_lots", "is_entry", "is_lot", "want_lots", "lanes_for", "extreme", "is_ahead", "first_ahead", "kept_lots", "joined", "all_joined", "limited", "lanes_in"]
def gl1 : List Str := ["more_by", "numbers_of", "corner", "fits", "same_lots", "is_gate", "want_gates", "want_few", "want_position", "do_gate", "told_by", "least_of", "greatest_of", "told_behind", "all_told", "want_place", "map_behind", "map_of", "lots_of_lane", "lanes_hung"]
def gl2 : List Str := ["shown", "rise_of", "rise", "want_net_beside", "are_alike", "corner_apart", "unlike", "may_change", "_law_pot", "_law_draw", "_law_pick", "_law_gate", "_law_gates", "_law_done", "_law_run", "_law_is_under", "_law_least", "_law_join", "_law_joins", "_law_raised"]
def gl3 : List Str := ["_law_told", "_law_corner", "_law_lanes", "_law_hung_right", "_law_still_right", "_law_unlike", "_law_pair_right", "_law_thicker", "_law_others", "_law_may_right", "_law_rise_right", "_law_right", "law", "Net", "Family", "Map", "PAIRED"]
def gloL : List Str := gl0 ++ (gl1 ++ (gl2 ++ (gl3)))
def freeL : List Str := ["len", "list", "tuple", "dict", "sorted", "any", "all", "max", "min", "sum", "abs", "int", "divmod", "isinstance", "range", "enumerate", "zip", "repr", "bool", "str"]
def cfa (C : Str) (ms : List Str) (fs : List Str) : List He.Fa := [.cls C, .mkr C, .keep C] ++ (ms.map (.meth C) ++ fs.map (.noat C))
def faL : List He.Fa := gloL.map .glo ++ (freeL.map .free ++ ([.int "MOST" 12, .int "MOST_LANES" 12, .int "MOST_GIVEN" 200, .int "MOST_LOTS" 60, .str "LOW" "low", .str "HIGH" "high", .str "SORT" "sort", .str "COPY" "copy", .str "ADD" "add"] ++
  (cfa "Net" ["gates", "__len__", "__call__", "__repr__", "with_gate", "exchanged", "__init__"] ["own_lanes", "own_gates"] ++ (cfa "Family" ["__eq__", "__init__"] ["own_lots"] ++ cfa "Map" ["__eq__", "__init__"] ["own_families"]))))
/-- what else is looked at, of a class -/
def clsX (K : PySem.W.Frag) (x : Str) : Bool :=
  He.eqO (PySem.W.findIn K (.ref (He.ga K x)) "__class__") (some (some (.builtin "object.__class__"))) && (decide (PySem.W.mroIn K (He.ga K x) (.type "object") = some true) && PySem.W.isClsIn K (He.ga K x))
def cvalB (K : PySem.W.Frag) (C f : Str) (i : Int) : Bool := PySem.W.readsIn K (He.ga K C) (.type "type") && (match PySem.W.findCls K (.ref (He.ga K C)) (.type "type") f with
  | some (.val (.int j _)) => decide (j = i)
  | _ => false)
def propG (K : PySem.W.Frag) (C f : Str) : Addr := match PySem.W.recIn K (He.ma K (He.ga K C) f) "property" with
  | some (.ref g :: _) => g
  | _ => 0
def propB (K : PySem.W.Frag) (C f : Str) : Bool := He.eqO (PySem.W.findIn K (.ref (He.ga K C)) f) (some (some (.ref (He.ma K (He.ga K C) f)))) && (He.eqO (PySem.W.specialIn K (.ref (He.ma K (He.ga K C) f)) "__get__") (some (some (.builtin "property.__get__"))) &&
  (decide (PySem.W.takesIn K (.ref (He.ma K (He.ga K C) f)) = some true) && (match PySem.W.recIn K (He.ma K (He.ga K C) f) "property" with
  | some (.ref _ :: _) => true
  | _ => false)))
def codeB (K : PySem.W.Frag) (a : Addr) (q : Str) : Bool := match K.lookup a with
  | some ⟨_, _, .func fd, _⟩ => PySem.W.codeIn K fd.code q
  | _ => false
def exB (K : PySem.W.Frag) : Bool := He.eqO (PySem.W.specialIn K (.builtin "object.__class__") "__get__") (some (some (.builtin "getset_descriptor.__get__"))) && (decide (PySem.W.takesIn K (.builtin "object.__class__") = some true) &&
  (clsX K "Net" && (clsX K "Family" && (clsX K "Map" && (cvalB K "Net" "MOST_LANES" 12 && (cvalB K "Net" "MOST_GATES" 400 && (cvalB K "Map" "MOST_LANES" 12 && (propB K "Net" "lanes" && (codeB K (propG K "Net" "lanes") "Net.lanes" &&
  (He.tupB K "PAIRED" [.str "low", .str "high", .str "sort", .str "copy"] && (PySem.W.fnIn K (He.ma K (He.ga K "Net") "__call__") && PySem.W.isFn K (He.ma K (He.ga K "Net") "__call__" |> Value.ref))))))))))))
/-- the getter of the property -/
def gtW (K : PySem.W.Frag) : Option (Str × Str × Arguments × FuncBody × Scope × Addr × List (Str × Addr) × Value × Addr) := match K.lookup (propG K "Net" "lanes") with
  | some ⟨_, _, .func fd, _⟩ => some (fd.name, fd.qualname, fd.params, fd.body, fd.scope, fd.globals, fd.closure, fd.defaults, fd.builtins)
  | _ => none
def gtV : Option (Str × Str × Arguments × FuncBody × Scope × Addr × List (Str × Addr) × Value × Addr) := some ("lanes", "Net.lanes", defArgs s_Net_lanes, .stmts (defBody s_Net_lanes), defScope s_Net_lanes, mainGlobals, [], .none, builtinsNs)
abbrev GtP : Type := Option (Str × Str × Arguments × FuncBody × Scope × Addr × List (Str × Addr) × Value × Addr)
abbrev AlP : Type := (He.AlD × Bool) × GtP
structure SaysP (K : PySem.W.Frag) : Prop where
  d : He.SaysD faL fnL K
  ex : exB K = true
  gt : gtW K = gtV
/-- what the objects of a list name, one step on; only what classes and dicts name -/
def stepD (g : Addr → Option Obj) (as : List Addr) : List Addr := as.flatMap fun a => match g a with
  | some ⟨_, _, .dict es _, _⟩ => es.toList.flatMap fun e => He.refV e.val
  | _ => []
def stepF (g : Addr → Option Obj) (as : List Addr) : List Addr := as.flatMap fun a => match g a with
  | some ⟨_, _, .func fd, _⟩ => He.refV fd.code ++ He.refV fd.defaults
  | some ⟨_, _, .cls cd, _⟩ => [cd.ns]
  | _ => []
def stepP (g : Addr → Option Obj) (as : List Addr) : List Addr := as.flatMap fun a => match g a with
  | some ⟨.type c, _, .fields vs, _⟩ => if c = "property" then vs.toList.flatMap He.refV else []
  | _ => []
def asP (g : Addr → Option Obj) : List Addr :=
  let l1 := stepD g [mainGlobals]
  let l2 := stepF g l1
  let l3 := stepD g l2
  let l4 := stepF g l3
  let l5 := stepP g l3
  let l6 := stepF g l5
  mainGlobals :: cStatics :: (l1 ++ (l2 ++ (l3 ++ (l4 ++ (l5 ++ l6)))))
def fragP (g : Addr → Option Obj) : PySem.W.Frag := He.frG g (asP g)
def hookP : PySem.W.Hook where
  α := AlP
  obs := fun s => ((He.obsD faL fnL (fragP s.heap.get?), exB (fragP s.heap.get?)), gtW (fragP s.heap.get?))
  val := fun _ => ((He.valD fnL, true), gtV)
  says := fun _ h => ∃ K : PySem.W.Frag, K.In h ∧ SaysP K
  of := fun _ s e => ⟨fragP s.heap.get?, He.frG_in, ⟨congrArg (fun z : AlP => z.1.1) e, congrArg (fun z : AlP => z.1.2) e, congrArg (fun z : AlP => z.2) e⟩⟩
  keeps := fun _ _ _ ⟨K, hK, c⟩ k => ⟨K, PySem.W.Frag.In.keeps hK k, c⟩
end K3
/-! TEXT HeadC -/
set_option Elab.async false
set_option linter.all false
set_option maxRecDepth 100000
set_option maxHeartbeats 0
namespace K3H
open PySem PySem.W PySem.Calls PyProof.Rows
abbrev R : OpenRow := OpenLaw.row PySem.Challenge.rw_lanelots_k36_whole_hung_and_alike
abbrev qv : Program := view R.prog [124]
def names0 : List PySem.Str := ["_wall", "LaneError", "LimitError", "InvalidContent", "InvalidLane", "InvalidNumber", "InvalidMany", "InvalidLanes", "InvalidGates", "InvalidGate", "InvalidPosition", "InvalidOther", "InvalidLots", "InvalidFamily", "InvalidFamilies", "TooMany", "MOST", "is_integer", "is_count", "is_list"]
def names1 : List PySem.Str := ["is_content", "is_lane", "is_lane_basics", "want_content_of", "want_lane", "want_many", "MOST_LANES", "MOST_GIVEN", "is_lane_lots", "is_entry", "is_lot", "want_lots", "is_content_with", "want_content", "lanes_for", "extreme", "value_at", "is_ahead", "first_ahead", "kept_lots"]
def names2 : List PySem.Str := ["joined", "all_joined", "MOST_LOTS", "limited", "lanes_in", "value_of", "more_by", "signs_changed", "other_side", "Family", "CoFamily", "numbers_of", "corner", "fits", "same_lots", "fed_lot", "fed_lots", "turned_lots", "Map", "LOW"]
def names3 : List PySem.Str := ["HIGH", "SORT", "COPY", "ADD", "PAIRED", "is_gate", "want_gates", "want_few", "want_position", "do_gate", "told_by", "gate_turned", "Net", "least_of", "greatest_of", "told_behind", "all_told", "want_place", "map_behind", "map_of"]
def names4 : List PySem.Str := ["lots_of_lane", "lanes_hung", "shown", "rise_of", "rise", "want_net_beside", "are_alike", "corner_apart", "unlike", "may_change", "_law_pot", "_law_draw", "_law_pick", "_law_gate", "_law_gates", "_law_done", "_law_run", "_law_is_under", "_law_least", "_law_join"]
def names5 : List PySem.Str := ["_law_joins", "_law_raised", "_law_told", "_law_corner", "_law_lanes", "_law_hung_right", "_law_still_right", "_law_unlike", "_law_pair_right", "_law_thicker", "_law_others", "_law_may_right", "_law_rise_right", "_law_right"]
def names : List PySem.Str := names0 ++ names1 ++ names2 ++ names3 ++ names4 ++ names5
abbrev hk : PySem.W.Hook := K3.hookP
def ob (s : PySem.W.SharedT) : hk.α := ((He.obsD K3.faL K3.fnL (K3.fragP (HandSHeadRun.getT s)), K3.exB (K3.fragP (HandSHeadRun.getT s))), K3.gtW (K3.fragP (HandSHeadRun.getT s)))
theorem ob_eq (s : PySem.W.SharedT) : ob s = hk.obs s.abs := by
  have e : HandSHeadRun.getT s = s.abs.heap.get? := funext (HandSHeadRun.getT_eq s)
  unfold ob
  rw [e]
  rfl
theorem runA (w : World) : HandSHeadRun.RunEq R qv Hook.none (fun _ => ()) 20000 names w := by
  intro os
  kernel_rfl
theorem runB (w : World) (os : OsState) : (HandSHeadRun.endF (HandSHeadRun.stepQ (HandSHeadRun.denQ HandSHeadRun.tabQ) R.prog w) 20000 R.prog w os).map ob = some (hk.val w) := by
  kernel_rfl
theorem comb {α β γ δ : Type} {e : Option α} {f : α → β} {g : α → γ} {h : α → δ} {x : β} {y : γ} {z : δ} (a : e.map (fun s => (f s, g s, ())) = some (x, y, ())) (b : e.map h = some z) : e.map (fun s => (f s, g s, h s)) = some (x, y, z) := by
  cases e with
  | none => cases b
  | some s =>
    have a : some (f s, g s, ()) = some (x, y, ()) := a
    have b : some (h s) = some z := b
    show some (f s, g s, h s) = some (x, y, z)
    injection b with b
    injection a with a
    injection a with a1 a2
    injection a2 with a2 _
    rw [a1, a2, b]
theorem run (w : World) : HandSHeadRun.RunEq R qv hk ob 20000 names w := fun os => comb (runA w os) (runB w os)
end K3H
/-! TEXT K1 -/
set_option Elab.async false
set_option linter.all false
set_option maxRecDepth 100000
set_option maxHeartbeats 1000000
namespace K3
open PySem PySem.Spec L2

/-! ### heaps: B what is known for good, H what stands -/
/-- the law's draws: a list of two numbers -/
def Pot (H : Hp) (p : Addr) : Prop := ∃ a b : Int, H p = some (.lst [.int a, .int b]) ∧ 0 ≤ a ∧ 0 ≤ b ∧ b < 2147483648
def PotOk (m : Option Addr) (B H : Hp) : Prop := ∀ p, m = some p → Pot H p ∧ B p = none
theorem pot0 {B H : Hp} : PotOk none B H := fun _ h => nomatch h
structure Stp (m : Option Addr) (B H B' H' : Hp) : Prop where
  b : Same B B'
  s : Same B' H'
  h : ∀ a o, some a ≠ m → H a = some o → H' a = some o
  t : ∀ a, H' a = none → H a = none
  f : ∀ a o, H a = some o → B a = none → B' a = none
  p : PotOk m B' H'
section
variable {m : Option Addr} {B H B' H' B2 H2 : Hp} {p : Addr} {o : HO}
theorem Stp.refl (h : Same B H) (hp : PotOk m B H) : Stp m B H B H := ⟨Same.refl _, h, fun _ _ _ z => z, fun _ z => z, fun _ _ _ z => z, hp⟩
theorem Stp.trans (a : Stp m B H B' H') (c : Stp m B' H' B2 H2) : Stp m B H B2 H2 :=
  ⟨a.b.trans c.b, c.s, fun x o n e => c.h x o n (a.h x o n e), fun x e => a.t x (c.t x e), fun x o h1 h2 => by
    cases e : H' x with
    | none => rw [a.t x e] at h1; cases h1
    | some u => exact c.f x u e (a.f x o h1 h2), c.p⟩
/-- where it ends, nothing more -/
theorem Stp.here (a : Stp m B H B' H') : Stp m B' H' B' H' := Stp.refl a.s a.p
theorem same_upd (h : H p = none) : Same H (upd H p o) := fun b u e => by rw [upd_ne (ne_of_none e h)]; exact e
theorem PotOk.ne (h : PotOk m B H) (hp : H p = none) : some p ≠ m := fun e => by
  obtain ⟨⟨_, _, q, _⟩, _⟩ := h p e.symm
  rw [hp] at q; cases q
theorem PotOk.upd (h : PotOk m B H) (hp : some p ≠ m) : PotOk m B (upd H p o) := fun q e => by
  obtain ⟨⟨a, b, h1, h2⟩, h3⟩ := h q e
  refine ⟨⟨a, b, ?_, h2⟩, h3⟩
  rw [upd_ne (fun z => hp (by rw [e, z]))]; exact h1
theorem PotOk.updB (h : PotOk m B H) (hp : some p ≠ m) : PotOk m (L2.upd B p o) H := fun q e => by
  obtain ⟨h2, h3⟩ := h q e
  refine ⟨h2, ?_⟩
  rw [upd_ne (fun z => hp (by rw [e, z]))]; exact h3
/-- a new object that stays -/
theorem Stp.new (a : Stp m B H B' H') (hp : H' p = none) : Stp m B H (upd B' p o) (upd H' p o) := by
  have hb : B' p = none := a.s.free hp
  refine ⟨a.b.trans (same_upd hb), fun c u e => ?_, fun c u n e => same_upd hp c u (a.h c u n e), fun c e => ?_, fun c u h1 h2 => ?_, (a.p.upd (a.p.ne hp)).updB (a.p.ne hp)⟩
  · by_cases hc : c = p
    · subst hc; rw [upd_same] at e ⊢; exact e
    · rw [upd_ne hc] at e ⊢; exact a.s c u e
  · by_cases hc : c = p
    · subst hc; rw [upd_same] at e; cases e
    · rw [upd_ne hc] at e; exact a.t c e
  · have hc : c ≠ p := fun z => by rw [z, a.t p hp] at h1; cases h1
    rw [upd_ne hc]; exact a.f c u h1 h2
/-- a new object that may change -/
theorem Stp.mnew (a : Stp m B H B' H') (hp : H' p = none) : Stp m B H B' (upd H' p o) :=
  ⟨a.b, a.s.trans (same_upd hp), fun c u n e => same_upd hp c u (a.h c u n e), fun c e => a.t c ((same_upd hp).free e), a.f, a.p.upd (a.p.ne hp)⟩
/-- an object made meanwhile is changed -/
theorem Stp.mut (a : Stp m B H B' H') (h0 : H p = none) (hb : B' p = none) (hn : some p ≠ m) : Stp m B H B' (upd H' p o) :=
  ⟨a.b, fun c u e => by rw [upd_ne (ne_of_none e hb)]; exact a.s c u e, fun c u n e => by rw [upd_ne (ne_of_none e h0)]; exact a.h c u n e, fun c e => by
    by_cases hc : c = p
    · rw [hc]; exact h0
    · rw [upd_ne hc] at e; exact a.t c e, a.f, a.p.upd hn⟩
/-- an object made meanwhile stays from now on -/
theorem Stp.frz (a : Stp m B H B' H') (h0 : H p = none) (hb : B' p = none) (h1 : H' p = some o) (hn : some p ≠ m) : Stp m B H (upd B' p o) H' :=
  ⟨a.b.trans (same_upd hb), fun c u e => by
    by_cases hc : c = p
    · subst hc; rw [upd_same] at e; rw [← e]; exact h1
    · rw [upd_ne hc] at e; exact a.s c u e, a.h, a.t, fun c u h2 h3 => by
    rw [upd_ne (ne_of_none h2 h0)]; exact a.f c u h2 h3, a.p.updB hn⟩
theorem Stp.nob (a : Stp m B H B' H') (h : H p = some o) (n : B p = none) : B' p = none := a.f p o h n
/-- where nothing is drawn -/
theorem Stp.same (a : Stp none B H B' H') : Same H H' := fun c o e => a.h c o (fun z => nomatch z) e
theorem Stp.up (a : Stp none B H B' H') (hp : PotOk m B H) : Stp m B H B' H' := ⟨a.b, a.s, fun c o _ e => a.same c o e, a.t, a.f, fun q e => by
  obtain ⟨⟨x, y, h1, h2⟩, h3⟩ := hp q e
  exact ⟨⟨x, y, a.same _ _ h1, h2⟩, a.f _ _ h1 h3⟩⟩
end

/-! ### results -/
abbrev Rt := V → Hp → Prop
class Mn (R : Rt) : Prop where
  mn : ∀ v B B', Same B B' → R v B → R v B'
def IsV (x : V) : Rt := fun v _ => v = x

/-- a dict from numbers to numbers; an instance of the class at C, its fields in order -/
abbrev dictD (kvs : List (Int × Int)) : PyData := .dict (kvs.map fun p => (.int p.1, .int p.2))
abbrev insD (C : Addr) (fs : List Str) (ds : List PyData) : PyData := .dict ((.none, .int (C : Nat)) :: (fs.map PyData.str).zip ds)
mutual
inductive Dq (H : Hp) : V → PyData → Prop
  | non : Dq H .non .none
  | bl (b : Bool) : Dq H (.bl b) (.bool b)
  | int (i : Int) : Dq H (.int i) (.int i)
  | str (x : Str) : Dq H (.str x) (.str x)
  | lst {a : Addr} {xs : List V} {ds : List PyData} : H a = some (.lst xs) → DqAll H xs ds → Dq H (.ref a) (.list ds)
  | tup {a : Addr} {xs : List V} {ds : List PyData} : H a = some (.tup xs) → DqAll H xs ds → Dq H (.ref a) (.tuple ds)
  | dic {a : Addr} {kvs : List (Int × Int)} : H a = some (.dK (kvs.map fun p => (Sum.inl p.1, V.int p.2))) → Dq H (.ref a) (dictD kvs)
  | ins {a C dx : Addr} {fs : List (Str × V)} {ds : List PyData} : H a = some (.ins C dx fs) → DqAll H (fs.map (·.2)) ds → Dq H (.ref a) (insD C (fs.map (·.1)) ds)
inductive DqAll (H : Hp) : List V → List PyData → Prop
  | nil : DqAll H [] []
  | cons {v : V} {vs : List V} {d : PyData} {ds : List PyData} : Dq H v d → DqAll H vs ds → DqAll H (v :: vs) (d :: ds)
end
def IsD (d : PyData) : Rt := fun v B => Dq B v d
instance {x : V} : Mn (IsV x) := ⟨fun _ _ _ _ h => h⟩
theorem dp_mn {H H' : Hp} (e : Same H H') (d : PyData) (v : V) (h : Dq H v d) : Dq H' v d := by
  refine Dq.rec (motive_1 := fun v d _ => Dq H' v d) (motive_2 := fun vs ds _ => DqAll H' vs ds) ?_ ?_ ?_ ?_ ?_ ?_ ?_ ?_ ?_ ?_ h
  · exact .non
  · exact fun b => .bl b
  · exact fun i => .int i
  · exact fun x => .str x
  · exact fun h1 _ h2 => .lst (e _ _ h1) h2
  · exact fun h1 _ h2 => .tup (e _ _ h1) h2
  · exact fun h1 => .dic (e _ _ h1)
  · exact fun h1 _ h2 => .ins (e _ _ h1) h2
  · exact .nil
  · exact fun _ _ h1 h2 => .cons h1 h2
theorem dpAll_mn {H H' : Hp} (e : Same H H') : ∀ (ds : List PyData) (vs : List V), DqAll H vs ds → DqAll H' vs ds
  | [], _, .nil => .nil
  | _ :: ds, _, .cons h1 h2 => .cons (dp_mn e _ _ h1) (dpAll_mn e ds _ h2)
theorem dq_dp {K : PySem.W.Frag} {H : Hp} (d : PyData) (v : V) (h : Dq H v d) : d.canLay0 = true → Dp K H v d := by
  refine Dq.rec (motive_1 := fun v d _ => d.canLay0 = true → Dp K H v d) (motive_2 := fun vs ds _ => PyData.canLayAll0 ds = true → DpAll K H vs ds) ?_ ?_ ?_ ?_ ?_ ?_ ?_ ?_ ?_ ?_ h
  · exact fun _ => .non
  · exact fun b _ => .bl b
  · exact fun i _ => .int i
  · exact fun x _ => .str x
  · exact fun h1 _ h2 c => .lst (SqL.of h1) (h2 (by simpa [PyData.canLay0] using c))
  · exact fun h1 _ h2 c => .tup (SqT.of h1) (h2 (by simpa [PyData.canLay0] using c))
  · exact fun _ c => by simp [PyData.canLay0] at c
  · exact fun _ _ _ c => by simp [PyData.canLay0] at c
  · exact fun _ => .nil
  · intro v vs d ds _ _ h1 h2 c
    rw [PyData.canLayAll0, Bool.and_eq_true] at c
    exact .cons (h1 c.1) (h2 c.2)
instance {d : PyData} : Mn (IsD d) := ⟨fun v _ _ e h => dp_mn e d v h⟩
section
variable {H H' : Hp} {v : V}
theorem Dq.mono {d : PyData} (h : Dq H v d) (e : Same H H') : Dq H' v d := dp_mn e d v h
theorem DqAll.mono {vs : List V} {ds : List PyData} (h : DqAll H vs ds) (e : Same H H') : DqAll H' vs ds := dpAll_mn e ds vs h
theorem Dq.int_eq {i : Int} (h : Dq H v (.int i)) : v = .int i := by cases h; rfl
theorem Dq.bl_eq {b : Bool} (h : Dq H v (.bool b)) : v = .bl b := by cases h; rfl
theorem Dq.str_eq {x : Str} (h : Dq H v (.str x)) : v = .str x := by cases h; rfl
theorem Dq.non_eq (h : Dq H v .none) : v = .non := by cases h; rfl
theorem Dq.lst_ex {ds : List PyData} (h : Dq H v (.list ds)) : ∃ a xs, v = .ref a ∧ H a = some (.lst xs) ∧ DqAll H xs ds := by
  cases h with
  | lst h1 h2 => exact ⟨_, _, rfl, h1, h2⟩
theorem Dq.dic_ex {kvs : List (Int × Int)} (h : Dq H v (dictD kvs)) : ∃ a, v = .ref a ∧ H a = some (.dK (kvs.map fun p => (Sum.inl p.1, V.int p.2))) := by
  have inj : ∀ {l l' : List (Int × Int)}, l.map (fun p => (PyData.int p.1, PyData.int p.2)) = l'.map (fun p => (PyData.int p.1, PyData.int p.2)) → l = l' := by
    intro l
    induction l with
    | nil => intro l' e; cases l' with
      | nil => rfl
      | cons _ _ => cases e
    | cons p l ih => intro l' e; cases l' with
      | nil => cases e
      | cons q l' =>
        simp only [List.map_cons, List.cons.injEq, Prod.mk.injEq, PyData.int.injEq] at e
        obtain ⟨⟨e1, e2⟩, e3⟩ := e
        rw [ih e3, Prod.ext e1 e2]
  generalize hd : dictD kvs = d at h
  cases h with
  | dic h1 =>
    rename_i a kvs'
    have e : kvs' = kvs := inj (by simpa [dictD] using hd.symm)
    subst e
    exact ⟨_, rfl, h1⟩
  | ins h1 h2 =>
    cases kvs with
    | nil => simp [dictD, insD] at hd
    | cons p l => simp [dictD, insD] at hd
  | _ => simp [dictD] at hd
theorem Dq.ins_ex {C : Addr} {fs : List Str} {ds : List PyData} (hl : fs.length = ds.length) (h : Dq H v (insD C fs ds)) : ∃ a dx vs, v = .ref a ∧ H a = some (.ins C dx (fs.zip vs)) ∧ DqAll H vs ds := by
  generalize hd : insD C fs ds = d at h
  cases h with
  | dic h1 =>
    rename_i a kvs'
    cases kvs' with
    | nil => simp [dictD, insD] at hd
    | cons p l => simp [dictD, insD] at hd
  | ins h1 h2 =>
    rename_i a C' dx gs es
    have hlen : gs.length = es.length := by
      have key : ∀ {xs : List V} {es : List PyData}, DqAll H xs es → xs.length = es.length := by
        intro xs es h
        induction es generalizing xs with
        | nil => cases h; rfl
        | cons _ _ ih => cases h with
          | cons _ t => exact congrArg Nat.succ (ih t)
      have := key h2
      simpa using this
    have e := PyData.dict.inj hd
    have e1 := List.cons.inj e
    have ec : C = C' := by
      have z : ((C : Nat) : Int) = ((C' : Nat) : Int) := by have := e1.1; simpa using this
      exact Int.ofNat.inj z
    subst ec
    have z1 := congrArg (List.map Prod.fst) e1.2
    have z2 := congrArg (List.map Prod.snd) e1.2
    rw [List.map_fst_zip (by rw [List.length_map]; omega), List.map_fst_zip (by rw [List.length_map, List.length_map]; omega)] at z1
    rw [List.map_snd_zip (by rw [List.length_map]; omega), List.map_snd_zip (by rw [List.length_map, List.length_map]; omega)] at z2
    have z3 : fs = gs.map (·.1) := by
      have inj : ∀ {l l' : List Str}, l.map PyData.str = l'.map PyData.str → l = l' := by
        intro l
        induction l with
        | nil => intro l' e; cases l' with
          | nil => rfl
          | cons _ _ => cases e
        | cons p l ih => intro l' e; cases l' with
          | nil => cases e
          | cons q l' =>
            simp only [List.map_cons, List.cons.injEq, PyData.str.injEq] at e
            rw [ih e.2, e.1]
      exact inj z1
    refine ⟨a, dx, gs.map (·.2), rfl, ?_, by rw [z2]; exact h2⟩
    have ez : gs = fs.zip (gs.map (·.2)) := by
      rw [z3]
      clear z1 z3 z2 h1 h2 hd e e1 hlen
      induction gs with
      | nil => rfl
      | cons g gs ih => rw [List.map_cons, List.map_cons, List.zip_cons_cons, ← ih]
    rw [← ez]; exact h1
  | _ => simp [insD] at hd
theorem Dq.tup_ex {ds : List PyData} (h : Dq H v (.tuple ds)) : ∃ a xs, v = .ref a ∧ H a = some (.tup xs) ∧ DqAll H xs ds := by
  cases h with
  | tup h1 h2 => exact ⟨_, _, rfl, h1, h2⟩
theorem DqAll.len : ∀ {ds : List PyData} {vs : List V}, DqAll H vs ds → vs.length = ds.length
  | [], _, .nil => rfl
  | _ :: _, _, .cons _ t => congrArg Nat.succ (DqAll.len t)
theorem DqAll.get : ∀ {ds : List PyData} {vs : List V} {i : Nat} {x : V}, DqAll H vs ds → vs[i]? = some x → ∃ d, ds[i]? = some d ∧ Dq H x d
  | [], _, _, _, .nil, e => by simp at e
  | d :: _, _, 0, _, .cons h _, e => by simp at e; subst e; exact ⟨d, rfl, h⟩
  | _ :: _, _, i + 1, _, .cons _ t, e => by
    obtain ⟨d, h1, h2⟩ := DqAll.get (i := i) t (by simpa using e)
    exact ⟨d, by simpa using h1, h2⟩
theorem DqAll.get' : ∀ {ds : List PyData} {vs : List V} {i : Nat} {d : PyData}, DqAll H vs ds → ds[i]? = some d → ∃ x, vs[i]? = some x ∧ Dq H x d
  | [], _, _, _, .nil, e => by simp at e
  | d :: _, _, 0, _, .cons h _, e => by simp at e; subst e; exact ⟨_, rfl, h⟩
  | _ :: _, _, i + 1, _, .cons _ t, e => by
    obtain ⟨d, h1, h2⟩ := DqAll.get' (i := i) t (by simpa using e)
    exact ⟨d, by simpa using h1, h2⟩
theorem DqAll.app : ∀ {ds es : List PyData} {vs ws : List V}, DqAll H vs ds → DqAll H ws es → DqAll H (vs ++ ws) (ds ++ es)
  | [], _, _, _, .nil, s => s
  | _ :: _, _, _, _, .cons h t, s => .cons h (DqAll.app t s)
theorem DqAll.one {d : PyData} (h : Dq H v d) : DqAll H [v] [d] := .cons h .nil
theorem DqAll.set {d : PyData} (h : Dq H v d) : ∀ {ds : List PyData} {vs : List V} (i : Nat), DqAll H vs ds → DqAll H (vs.set i v) (ds.set i d)
  | [], _, _, .nil => .nil
  | _ :: _, _, 0, .cons _ t => .cons h t
  | _ :: _, _, i + 1, .cons q t => .cons q (DqAll.set h i t)
theorem DqAll.take : ∀ {ds : List PyData} {vs : List V} (n : Nat), DqAll H vs ds → DqAll H (vs.take n) (ds.take n)
  | _, _, 0, _ => .nil
  | [], _, _ + 1, .nil => .nil
  | _ :: _, _, n + 1, .cons q t => .cons q (DqAll.take n t)
theorem DqAll.drop : ∀ {ds : List PyData} {vs : List V} (n : Nat), DqAll H vs ds → DqAll H (vs.drop n) (ds.drop n)
  | _, _, 0, q => q
  | [], _, _ + 1, .nil => .nil
  | _ :: _, _, n + 1, .cons _ t => DqAll.drop n t
theorem DqAll.of_get {vs : List V} : ∀ {ds : List PyData} , (vs.length = ds.length) → (∀ (i : Nat) x d, vs[i]? = some x → ds[i]? = some d → Dq H x d) → DqAll H vs ds := by
  induction vs with
  | nil =>
    intro ds hl _
    cases ds with
    | nil => exact .nil
    | cons _ _ => cases hl
  | cons v vs ih =>
    intro ds hl h
    cases ds with
    | nil => cases hl
    | cons d ds => exact .cons (h 0 v d rfl rfl) (ih (Nat.succ.inj hl) fun i x e h1 h2 => h (i + 1) x e (by simpa using h1) (by simpa using h2))
theorem dq_ints : ∀ {ns : List Int} {vs : List V}, DqAll H vs (ns.map PyData.int) → vs = ns.map V.int
  | [], _, .nil => rfl
  | _ :: _, _, .cons h t => by rw [h.int_eq, dq_ints t]; rfl
theorem dq_of_ints : ∀ (ns : List Int), DqAll H (ns.map V.int) (ns.map PyData.int)
  | [] => .nil
  | _ :: ns => .cons (.int _) (dq_of_ints ns)
theorem dq_bls : ∀ {ns : List Bool} {vs : List V}, DqAll H vs (ns.map PyData.bool) → vs = ns.map V.bl
  | [], _, .nil => rfl
  | _ :: _, _, .cons h t => by rw [h.bl_eq, dq_bls t]; rfl
theorem dq_strs : ∀ {ns : List Str} {vs : List V}, DqAll H vs (ns.map PyData.str) → vs = ns.map V.str
  | [], _, .nil => rfl
  | _ :: _, _, .cons h t => by rw [h.str_eq, dq_strs t]; rfl
end

/-! ### slots -/
def Sl (σ : St) (B : Hp) (Γ : List (Option Rt)) : Prop := σ.length = Γ.length ∧ ∀ (i : Nat) R, Γ[i]? = some (some R) → ∃ v, σ[i]? = some (some v) ∧ ∀ B', Same B B' → R v B'
section
variable {σ : St} {B B' : Hp} {Γ : List (Option Rt)} {v : V} {i : Nat}
theorem Sl.mono (E : Sl σ B Γ) (e : Same B B') : Sl σ B' Γ := ⟨E.1, fun i R h => let ⟨v, h1, h2⟩ := E.2 i R h; ⟨v, h1, fun B2 e2 => h2 B2 (e.trans e2)⟩⟩
theorem Sl.get (E : Sl σ B Γ) (i : Nat) {R : Rt} (h : Γ[i]? = some (some R)) : ∃ v, σ[i]? = some (some v) ∧ R v B := let ⟨v, h1, h2⟩ := E.2 i R h; ⟨v, h1, h2 B (Same.refl _)⟩
theorem Sl.set (E : Sl σ B Γ) {R : Rt} [mr : Mn R] (h : R v B) : Sl (σ.set i (some v)) B (Γ.set i (some R)) := by
  refine ⟨by rw [List.length_set, List.length_set, E.1], fun j R' hj => ?_⟩
  by_cases hij : i = j
  · subst hij
    by_cases hl : i < Γ.length
    · rw [List.getElem?_set_self hl] at hj
      cases hj
      exact ⟨v, List.getElem?_set_self (by rw [E.1]; exact hl), fun B2 e => mr.mn v _ _ e h⟩
    · rw [List.getElem?_eq_none (by rw [List.length_set]; omega)] at hj
      cases hj
  · rw [List.getElem?_set_ne hij] at hj ⊢
    exact E.2 j R' hj
theorem Sl.none (E : Sl σ B Γ) {x : Option V} : Sl (σ.set i x) B (Γ.set i none) := by
  refine ⟨by rw [List.length_set, List.length_set, E.1], fun j R' hj => ?_⟩
  by_cases hij : i = j
  · subst hij
    by_cases hl : i < Γ.length
    · rw [List.getElem?_set_self hl] at hj; cases hj
    · rw [List.getElem?_eq_none (by rw [List.length_set]; omega)] at hj; cases hj
  · rw [List.getElem?_set_ne hij] at hj ⊢
    exact E.2 j R' hj
/-- less is said -/
theorem Sl.weak (E : Sl σ B Γ) {Γ' : List (Option Rt)} (hl : Γ.length = Γ'.length) (h : ∀ (i : Nat) R, Γ'[i]? = some (some R) → Γ[i]? = some (some R)) : Sl σ B Γ' := ⟨E.1.trans hl, fun i R q => E.2 i R (h i R q)⟩
def wipeG (Γ : List (Option Rt)) : List Nat → List (Option Rt)
  | [] => Γ
  | v :: vs => (wipeG Γ vs).set v none
theorem Sl.wipe (E : Sl σ B Γ) : ∀ vs : List Nat, Sl (wipe σ vs) B (wipeG Γ vs)
  | [] => E
  | _ :: vs => (E.wipe vs).none
end
/-- the arguments at a def's entry -/
def Args : List Rt → List V → Hp → Prop
  | [], [], _ => True
  | R :: Rs, v :: vs, B => R v B ∧ Args Rs vs B
  | _, _, _ => False
theorem Args.len : ∀ {Rs : List Rt} {vs : List V} {B : Hp}, Args Rs vs B → vs.length = Rs.length
  | [], [], _, _ => rfl
  | _ :: _, _ :: _, _, h => congrArg Nat.succ (Args.len h.2)
  | [], _ :: _, _, h => h.elim
  | _ :: _, [], _, h => h.elim
class Mns (Rs : List Rt) : Prop where
  mn : ∀ vs B B', Same B B' → Args Rs vs B → Args Rs vs B'
instance : Mns [] := ⟨fun vs _ _ _ h => by cases vs with
  | nil => trivial
  | cons _ _ => exact h.elim⟩
instance {R : Rt} {Rs : List Rt} [a : Mn R] [b : Mns Rs] : Mns (R :: Rs) := ⟨fun vs B B' e h => by
  cases vs with
  | nil => exact h.elim
  | cons v vs => exact ⟨a.mn v B B' e h.1, b.mn vs B B' e h.2⟩⟩
theorem sl_start {N : List Str} {Rs : List Rt} [mr : Mns Rs] {vs : List V} {B : Hp} (h : Args Rs vs B) : Sl (L2.start N vs) B (Rs.map some ++ List.replicate (N.length - Rs.length) none) := by
  have hl := h.len
  refine ⟨by unfold L2.start; simp only [List.length_append, List.length_map, List.length_replicate]; omega, fun i R hi => ?_⟩
  have hi2 : i < Rs.length := by
    rcases Nat.lt_or_ge i Rs.length with z | z
    · exact z
    · rw [List.getElem?_append_right (by simpa using z)] at hi
      rw [List.getElem?_replicate] at hi
      split at hi <;> cases hi
  rw [List.getElem?_append_left (by simpa using hi2), List.getElem?_map] at hi
  have key : ∀ {Rs : List Rt} {vs : List V} {B : Hp} {i : Nat} {R : Rt}, Args Rs vs B → Rs[i]? = some R → ∃ v, vs[i]? = some v ∧ R v B := by
    intro Rs
    induction Rs with
    | nil => intro vs B i R h hi; simp at hi
    | cons R0 Rs ih =>
      intro vs B i R h hi
      cases vs with
      | nil => exact h.elim
      | cons v vs =>
        cases i with
        | zero => simp at hi; subst hi; exact ⟨v, rfl, h.1⟩
        | succ i =>
          obtain ⟨x, h1, h2⟩ := ih h.2 (by simpa using hi : Rs[i]? = some R)
          exact ⟨x, by simpa using h1, h2⟩
  have hR : Rs[i]? = some R := by
    cases e : Rs[i]? with
    | none => rw [e] at hi; cases hi
    | some y => rw [e] at hi; cases hi; rfl
  obtain ⟨v, h1, _⟩ := key h hR
  refine ⟨v, ?_, fun B' e => ?_⟩
  · unfold L2.start
    rw [List.getElem?_append_left (by rw [List.length_map]; omega), List.getElem?_map, h1]
    rfl
  · obtain ⟨v', h3, h4⟩ := key (mr.mn vs B B' e h) hR
    rw [h1] at h3; cases h3
    exact h4

/-! ### weakest readings -/
def wE (X : Cx) (e : Expr) : TE := fun σ H Q => ∀ (pins : List (Addr × Obj)) (s : Shared), Inv X pins σ H s → wpAny (model X.prog X.w) X.A (eval e X.env) (EP X pins σ Q) X.xe s
def wT (X : Cx) (e : Expr) : TT := fun σ H Q => ∀ (pins : List (Addr × Obj)) (s : Shared), Inv X pins σ H s → wpAny (model X.prog X.w) X.A (isTrue e X.env (eval e X.env)) (TP X pins σ Q) X.xe s
def wA (X : Cx) (es : List Expr) : TA := fun σ H Q => ∀ (pos : Pos) (pins : List (Addr × Obj)) (s : Shared), Inv X pins σ H s → wpAny (model X.prog X.w) X.A (spliced (backTo pos (starEach es X.env))) (AP X pins σ Q) X.xe s
def wS (X : Cx) (st : Stmt) : TS := fun D σ H => ∀ (pins : List (Addr × Obj)) (s : Shared), Inv X pins σ H s → wpAny (model X.prog X.w) X.A (exec st X.env) (SP X pins D) X.xe s
def wSs (X : Cx) (st : List Stmt) : TS := fun D σ H => ∀ (pins : List (Addr × Obj)) (s : Shared), Inv X pins σ H s → wpAny (model X.prog X.w) X.A (execs st X.env) (SP X pins D) X.xe s
section
variable {X : Cx} {e : Expr} {es : List Expr} {st : Stmt} {sts : List Stmt} {σ : St} {H : Hp}
theorem pe_w : PE X e (wE X e) := ⟨fun pins s _ _ _ I h => h pins s I⟩
theorem pt_w : PT X e (wT X e) := ⟨fun pins s _ _ _ I h => h pins s I⟩
theorem pa_w : PA X es (wA X es) := ⟨fun pos pins s _ _ _ I h => h pos pins s I⟩
theorem ps_w : PS X st (wS X st) := ⟨fun pins s _ _ _ I h => h pins s I⟩
theorem pss_w : PSs X sts (wSs X sts) := ⟨fun pins s _ _ _ I h => h pins s I⟩
theorem wE.of {t : TE} {Q : VK} (h : PE X e t) (q : t σ H Q) : wE X e σ H Q := fun pins s I => h.run pins s σ H Q I q
theorem wT.of {t : TT} {Q : Bool → Hp → Prop} (h : PT X e t) (q : t σ H Q) : wT X e σ H Q := fun pins s I => h.run pins s σ H Q I q
theorem wA.of {t : TA} {Q : List V → Hp → Prop} (h : PA X es t) (q : t σ H Q) : wA X es σ H Q := fun pos pins s I => h.run pos pins s σ H Q I q
theorem wS.of {t : TS} {D : Ends} (h : PS X st t) (q : t D σ H) : wS X st D σ H := fun pins s I => h.run pins s σ H D I q
theorem wSs.of {t : TS} {D : Ends} (h : PSs X sts t) (q : t D σ H) : wSs X sts D σ H := fun pins s I => h.run pins s σ H D I q
theorem ws_cons {D : Ends} {t : TS} (h : PS X st t) (q : t { D with nx := wSs X sts D } σ H) : wSs X (st :: sts) D σ H := wSs.of (pss_cons h pss_w) q
theorem ws_mono {nx nx2 bk ct ct2 : L2.St → Hp → Prop} {rt : VK} (h : wSs X sts { nx := nx, rt := rt, bk := bk, ct := ct } σ H) (h1 : ∀ σ H, nx σ H → nx2 σ H) (h2 : ∀ σ H, ct σ H → ct2 σ H) : wSs X sts { nx := nx2, rt := rt, bk := bk, ct := ct2 } σ H := fun pins s I => thn (h pins s I) fun f s' q => by
  cases f with
  | next => obtain ⟨σ', H', I', q⟩ := q; exact ⟨σ', H', I', h1 _ _ q⟩
  | cont => obtain ⟨σ', H', I', q⟩ := q; exact ⟨σ', H', I', h2 _ _ q⟩
  | brk => exact q
  | ret u => exact q
theorem ws_nil {D : Ends} (q : D.nx σ H) : wSs X [] D σ H := wSs.of pss_nil q
end

/-! ### what an expression gives -/
def Ev (m : Option Addr) (X : Cx) (e : Expr) (σ : St) (B H : Hp) (R : Rt) : Prop := ∀ B1 H1, Stp m B H B1 H1 → ∀ Q : VK, (∀ v B2 H2, Stp m B1 H1 B2 H2 → R v B2 → Q v H2) → wE X e σ H1 Q
def EvT (m : Option Addr) (X : Cx) (e : Expr) (σ : St) (B H : Hp) (b : Bool) : Prop := ∀ B1 H1, Stp m B H B1 H1 → ∀ Q : Bool → Hp → Prop, (∀ B2 H2, Stp m B1 H1 B2 H2 → Q b H2) → wT X e σ H1 Q
def EvA (m : Option Addr) (X : Cx) (es : List Expr) (σ : St) (B H : Hp) (Rs : List Rt) : Prop := ∀ B1 H1, Stp m B H B1 H1 → ∀ Q : List V → Hp → Prop, (∀ vs B2 H2, Stp m B1 H1 B2 H2 → Args Rs vs B2 → Q vs H2) → wA X es σ H1 Q
/-- a new list that may change -/
def EvM (m : Option Addr) (X : Cx) (e : Expr) (σ : St) (B H : Hp) (ds : List PyData) : Prop := ∀ B1 H1, Stp m B H B1 H1 → ∀ Q : VK, (∀ p zs B2 H2, Stp m B1 H1 B2 H2 → H1 p = none → B2 p = none → H2 p = some (.lst zs) → DqAll B2 zs ds → Q (.ref p) H2) → wE X e σ H1 Q
section
variable {m : Option Addr} {X : Cx} {e a b c : Expr} {es : List Expr} {σ : St} {B H B' H' : Hp} {R R1 R2 : Rt} {Rs : List Rt} {pos : Pos} {Γ : List (Option Rt)} {d : PyData}
theorem Ev.mono (h : Ev m X e σ B H R) (s : Stp m B H B' H') : Ev m X e σ B' H' R := fun B1 H1 s1 => h B1 H1 (s.trans s1)
theorem EvT.mono {k : Bool} (h : EvT m X e σ B H k) (s : Stp m B H B' H') : EvT m X e σ B' H' k := fun B1 H1 s1 => h B1 H1 (s.trans s1)
theorem EvA.mono (h : EvA m X es σ B H Rs) (s : Stp m B H B' H') : EvA m X es σ B' H' Rs := fun B1 H1 s1 => h B1 H1 (s.trans s1)
theorem Ev.imp (h : Ev m X e σ B H R) (k : ∀ v B', Same B B' → R v B' → R1 v B') : Ev m X e σ B H R1 := fun B1 H1 s1 Q q => h B1 H1 s1 Q fun v B2 H2 s2 r => q v B2 H2 s2 (k v B2 (s1.b.trans s2.b) r)
theorem Ev.cast {d' : PyData} (h : Ev m X e σ B H (IsD d)) (k : d = d') : Ev m X e σ B H (IsD d') := k ▸ h
theorem EvT.cast {k k' : Bool} (h : EvT m X e σ B H k) (q : k = k') : EvT m X e σ B H k' := q ▸ h
/-- by a rule -/
theorem ev_by {t : TE} (h : PE X e t) (q : ∀ B1 H1, Stp m B H B1 H1 → ∀ Q : VK, (∀ v B2 H2, Stp m B1 H1 B2 H2 → R v B2 → Q v H2) → t σ H1 Q) : Ev m X e σ B H R := fun B1 H1 s1 Q k => wE.of h (q B1 H1 s1 Q k)
theorem et_by {t : TT} {k : Bool} (h : PT X e t) (q : ∀ B1 H1, Stp m B H B1 H1 → ∀ Q : Bool → Hp → Prop, (∀ B2 H2, Stp m B1 H1 B2 H2 → Q k H2) → t σ H1 Q) : EvT m X e σ B H k := fun B1 H1 s1 Q z => wT.of h (q B1 H1 s1 Q z)
theorem EvM.ev {ds : List PyData} (h : EvM m X e σ B H ds) : Ev m X e σ B H (IsD (.list ds)) := fun B1 H1 s1 Q q => h B1 H1 s1 Q fun p zs B2 H2 s2 n1 n2 hp hd =>
  q (.ref p) (upd B2 p (.lst zs)) H2 (s2.frz n1 n2 hp (s1.p.ne n1)) (.lst upd_same (hd.mono (same_upd n2)))
/-! names, constants -/
theorem ev_v (E : Sl σ B Γ) (i : Nat) {x : Str} (h : Γ[i]? = some (some R) := by rfl) (hN : X.N[i]? = some x := by rfl) (hv : Vis X.env.scope x := by first | exact Or.inl rfl | exact Or.inr (Or.inl rfl) | exact Or.inr (Or.inr rfl))
    (hd : (x == ("__debug__" : Str)) = false := by decide) (hcd : (x == ("__classdict__" : Str)) = false := by decide) : Ev m X (.Name x pos) σ B H R := by
  refine ev_by (pe_var hN hv hd hcd) fun B1 H1 s1 Q q => ?_
  obtain ⟨v, h1, h2⟩ := E.2 i R h
  exact ⟨v, h1, q v B1 H1 (Stp.refl s1.s s1.p) (h2 B1 s1.b)⟩
theorem ev_c {v : V} {t : TE} (h : PE X e (tC v)) (r : ∀ B, R v B) : Ev m X e σ B H R := ev_by h fun B1 H1 s1 Q q => q v B1 H1 (Stp.refl s1.s s1.p) (r B1)
theorem ev_int {i : Int} {j} : Ev m X (.Constant (.int i) j pos) σ B H (IsD (.int i)) := ev_c (t := tC .non) pe_int fun _ => .int i
theorem ev_str {i : Str} {j} : Ev m X (.Constant (.str i) j pos) σ B H (IsD (.str i)) := ev_c (t := tC .non) pe_str fun _ => .str i
theorem ev_bl {i : Bool} {j} : Ev m X (.Constant (.bool i) j pos) σ B H (IsD (.bool i)) := ev_c (t := tC .non) pe_bl fun _ => .bl i
theorem ev_non {j} : Ev m X (.Constant .none j pos) σ B H (IsD .none) := ev_c (t := tC .non) pe_non fun _ => .non
theorem ev_glob {x : Str} {v : V} {u : Value} (hg : Gl X x) (hm : X.mg x = some u) (r : RelV v u) (hd : (x == ("__debug__" : Str)) = false := by decide) (hr : ∀ B, R v B) : Ev m X (.Name x pos) σ B H R := ev_c (t := tC .non) (pe_glob hg hm r hd) hr
/-! argument lists -/
theorem ea_nil : EvA m X [] σ B H [] := fun B1 H1 s1 Q q => wA.of pa_nil (q [] B1 H1 (Stp.refl s1.s s1.p) trivial)
theorem ea_cons [mr : Mn R] (ha : Ev m X e σ B H R) (hr : EvA m X es σ B H Rs) (hs : starEach (e :: es) X.env = (false, eval e X.env) :: starEach es X.env := by rfl) : EvA m X (e :: es) σ B H (R :: Rs) := fun B1 H1 s1 Q q =>
  wA.of (pa_cons pe_w pa_w hs) (ha B1 H1 s1 _ fun v B2 H2 s2 r => hr B2 H2 (s1.trans s2) _ fun vs B3 H3 s3 rs => q (v :: vs) B3 H3 (s2.trans s3) ⟨mr.mn v _ _ s3.b r, rs⟩)
theorem ea1 [mr : Mn R] (ha : Ev m X e σ B H R) (hs : starEach (e :: []) X.env = (false, eval e X.env) :: starEach [] X.env := by rfl) : EvA m X [e] σ B H [R] := ea_cons ha ea_nil hs
theorem ea2 {e2 : Expr} [mr : Mn R] [mr2 : Mn R1] (ha : Ev m X e σ B H R) (hb : Ev m X e2 σ B H R1) (hs : starEach (e :: [e2]) X.env = (false, eval e X.env) :: starEach [e2] X.env := by rfl) (hs2 : starEach [e2] X.env = (false, eval e2 X.env) :: starEach [] X.env := by rfl) : EvA m X [e, e2] σ B H [R, R1] := ea_cons ha (ea_cons hb ea_nil hs2) hs
theorem ea3 {e2 e3 : Expr} [mr : Mn R] [mr2 : Mn R1] [mr3 : Mn R2] (ha : Ev m X e σ B H R) (hb : Ev m X e2 σ B H R1) (hc : Ev m X e3 σ B H R2) (hs : starEach (e :: [e2, e3]) X.env = (false, eval e X.env) :: starEach [e2, e3] X.env := by rfl) (hs2 : starEach (e2 :: [e3]) X.env = (false, eval e2 X.env) :: starEach [e3] X.env := by rfl)
    (hs3 : starEach [e3] X.env = (false, eval e3 X.env) :: starEach [] X.env := by rfl) : EvA m X [e, e2, e3] σ B H [R, R1, R2] := ea_cons ha (ea_cons hb (ea_cons hc ea_nil hs3) hs2) hs
/-! operators -/
/-- what an operator's rule gives, by values -/
def OpE (m : Option Addr) (X : Cx) (f : Value → Value → Sem Value) (B H : Hp) (R1 R2 R : Rt) : Prop := ∃ r, OpR X f r ∧ ∀ x y B1 H1 (Q : VK), Stp m B H B1 H1 → R1 x B1 → R2 y B1 → (∀ v B2 H2, Stp m B1 H1 B2 H2 → R v B2 → Q v H2) → r x y H1 Q
theorem ev_op {op : Operator} [mr : Mn R1] (o : OpE m X (binaryOp op) B H R1 R2 R) (ha : Ev m X a σ B H R1) (hb : Ev m X b σ B H R2) : Ev m X (.BinOp a op b pos) σ B H R := by
  obtain ⟨r, ho, hr⟩ := o
  exact ev_by (pe_op ho pe_w pe_w) fun B1 H1 s1 Q q => ha B1 H1 s1 _ fun x B2 H2 s2 rx => hb B2 H2 (s1.trans s2) _ fun y B3 H3 s3 ry =>
    hr x y B3 H3 Q ((s1.trans s2).trans s3) (mr.mn x _ _ s3.b rx) ry fun v B4 H4 s4 rv => q v B4 H4 ((s2.trans s3).trans s4) rv
theorem oe_I {f : Value → Value → Sem Value} {C : Int → Int → Prop} {g : Int → Int → V} {i j : Int} (ho : OpR X f (rI C g)) (hc : C i j) (hr : ∀ B, R (g i j) B) : OpE m X f B H (IsD (.int i)) (IsD (.int j)) R :=
  ⟨_, ho, fun x y B1 H1 Q s1 rx ry q => ⟨i, j, Dq.int_eq rx, Dq.int_eq ry, hc, q _ B1 H1 (Stp.refl s1.s s1.p) (hr B1)⟩⟩
theorem oe_I0 {f : Value → Value → Sem Value} {g : Int → Int → V} {i j : Int} (ho : OpR X f (rI0 g)) (hr : ∀ B, R (g i j) B) : OpE m X f B H (IsD (.int i)) (IsD (.int j)) R :=
  ⟨_, ho, fun x y B1 H1 Q s1 rx ry q => ⟨i, j, Dq.int_eq rx, Dq.int_eq ry, q _ B1 H1 (Stp.refl s1.s s1.p) (hr B1)⟩⟩
theorem ev_add {i j : Int} (ha : Ev m X a σ B H (IsD (.int i))) (hb : Ev m X b σ B H (IsD (.int j))) : Ev m X (.BinOp a .Add b pos) σ B H (IsD (.int (i + j))) := ev_op (oe_I0 op_add fun _ => .int _) ha hb
theorem ev_sub {i j : Int} (ha : Ev m X a σ B H (IsD (.int i))) (hb : Ev m X b σ B H (IsD (.int j))) : Ev m X (.BinOp a .Sub b pos) σ B H (IsD (.int (i - j))) := ev_op (oe_I0 op_sub fun _ => .int _) ha hb
theorem ev_mul {i j : Int} (hc : CMul i j) (ha : Ev m X a σ B H (IsD (.int i))) (hb : Ev m X b σ B H (IsD (.int j))) : Ev m X (.BinOp a .Mult b pos) σ B H (IsD (.int (i * j))) := ev_op (oe_I op_mul hc fun _ => .int _) ha hb
theorem ev_mod {i j : Int} (hc : 0 < j) (ha : Ev m X a σ B H (IsD (.int i))) (hb : Ev m X b σ B H (IsD (.int j))) : Ev m X (.BinOp a .Mod b pos) σ B H (IsD (.int (i % j))) := ev_op (oe_I op_mod hc fun _ => .int _) ha hb
theorem ev_fdiv {i j : Int} (hc : CDiv i j) (ha : Ev m X a σ B H (IsD (.int i))) (hb : Ev m X b σ B H (IsD (.int j))) : Ev m X (.BinOp a .FloorDiv b pos) σ B H (IsD (.int (i / j))) := ev_op (oe_I op_fdiv hc fun _ => .int _) ha hb
theorem ev_pow {i j : Int} (hc : CPow i j) (ha : Ev m X a σ B H (IsD (.int i))) (hb : Ev m X b σ B H (IsD (.int j))) : Ev m X (.BinOp a .Pow b pos) σ B H (IsD (.int (i ^ j.toNat))) := ev_op (oe_I op_pow hc fun _ => .int _) ha hb
theorem ev_neg {i : Int} (ha : Ev m X a σ B H (IsD (.int i))) : Ev m X (.UnaryOp .USub a pos) σ B H (IsD (.int (-i))) :=
  ev_by (pe_un un_neg pe_w) fun B1 H1 s1 Q q => ha B1 H1 s1 _ fun x B2 H2 s2 rx => ⟨i, Dq.int_eq rx, q _ B2 H2 s2 (.int _)⟩
/-! comparisons -/
def Cm (m : Option Addr) (X : Cx) (op : CmpOp) (B H : Hp) (R1 R2 : Rt) (k : Bool) : Prop := ∃ r, OpR X (compareOp op) r ∧ ∀ x y B1 H1 (Q : VK), Stp m B H B1 H1 → R1 x B1 → R2 y B1 → (∀ B2 H2, Stp m B1 H1 B2 H2 → Q (.bl k) H2) → r x y H1 Q
theorem ev_cmp {op : CmpOp} {k : Bool} [mr : Mn R1] (o : Cm m X op B H R1 R2 k) (ha : Ev m X a σ B H R1) (hb : Ev m X b σ B H R2) (hm : behindInMarks op b = false := by first | exact nomark _ | rfl) : Ev m X (.Compare a [op] [b] pos) σ B H (IsD (.bool k)) := by
  obtain ⟨r, ho, hr⟩ := o
  exact ev_by (pe_cmpR ho pe_w pe_w hm) fun B1 H1 s1 Q q => ha B1 H1 s1 _ fun x B2 H2 s2 rx => hb B2 H2 (s1.trans s2) _ fun y B3 H3 s3 ry =>
    hr x y B3 H3 Q ((s1.trans s2).trans s3) (mr.mn x _ _ s3.b rx) ry fun B4 H4 s4 => q _ B4 H4 ((s2.trans s3).trans s4) (.bl k)
theorem et_cmp {op : CmpOp} {k : Bool} [mr : Mn R1] (o : Cm m X op B H R1 R2 k) (ha : Ev m X a σ B H R1) (hb : Ev m X b σ B H R2) (hm : behindInMarks op b = false := by first | exact nomark _ | rfl) : EvT m X (.Compare a [op] [b] pos) σ B H k := by
  obtain ⟨r, ho, hr⟩ := o
  exact et_by (pt_cmpR ho pe_w pe_w hm) fun B1 H1 s1 Q q => ha B1 H1 s1 _ fun x B2 H2 s2 rx => hb B2 H2 (s1.trans s2) _ fun y B3 H3 s3 ry =>
    hr x y B3 H3 _ ((s1.trans s2).trans s3) (mr.mn x _ _ s3.b rx) ry fun B4 H4 s4 => ⟨k, rfl, q B4 H4 ((s2.trans s3).trans s4)⟩
theorem ev_chain {op op' : CmpOp} {k k' : Bool} {R3 : Rt} [mr : Mn R1] [mr2 : Mn R2] (o : Cm m X op B H R1 R2 k) (o' : Cm m X op' B H R2 R3 k') (ha : Ev m X a σ B H R1) (hb : Ev m X b σ B H R2) (hc : Ev m X c σ B H R3) (hm : lastMarks [op, op'] [b, c] = false := by rfl) :
    Ev m X (.Compare a [op, op'] [b, c] pos) σ B H (IsD (.bool (k && k'))) := by
  obtain ⟨r, ho, hr⟩ := o
  obtain ⟨r', ho', hr'⟩ := o'
  refine ev_by (pe_chain ho ho' pe_w pe_w pe_w (hm := hm)) fun B1 H1 s1 Q q => ha B1 H1 s1 _ fun x B2 H2 s2 rx => hb B2 H2 (s1.trans s2) _ fun y B3 H3 s3 ry =>
    hr x y B3 H3 _ ((s1.trans s2).trans s3) (mr.mn x _ _ s3.b rx) ry fun B4 H4 s4 => ⟨k, rfl, ?_⟩
  cases k with
  | false => exact q _ B4 H4 ((s2.trans s3).trans s4) (.bl _)
  | true => exact hc B4 H4 (((s1.trans s2).trans s3).trans s4) _ fun z B5 H5 s5 rz => hr' y z B5 H5 Q ((((s1.trans s2).trans s3).trans s4).trans s5) (mr2.mn y _ _ (s4.b.trans s5.b) ry) rz fun B6 H6 s6 => q _ B6 H6 ((((s2.trans s3).trans s4).trans s5).trans s6) (.bl _)
theorem et_chain {op op' : CmpOp} {k k' : Bool} {R3 : Rt} [mr : Mn R1] [mr2 : Mn R2] (o : Cm m X op B H R1 R2 k) (o' : Cm m X op' B H R2 R3 k') (ha : Ev m X a σ B H R1) (hb : Ev m X b σ B H R2) (hc : Ev m X c σ B H R3) (hm : lastMarks [op, op'] [b, c] = false := by rfl) :
    EvT m X (.Compare a [op, op'] [b, c] pos) σ B H (k && k') := by
  obtain ⟨r, ho, hr⟩ := o
  obtain ⟨r', ho', hr'⟩ := o'
  refine et_by (pt_chain ho ho' pe_w pe_w pe_w (hm := hm)) fun B1 H1 s1 Q q => ha B1 H1 s1 _ fun x B2 H2 s2 rx => hb B2 H2 (s1.trans s2) _ fun y B3 H3 s3 ry =>
    hr x y B3 H3 _ ((s1.trans s2).trans s3) (mr.mn x _ _ s3.b rx) ry fun B4 H4 s4 => ⟨k, rfl, ?_⟩
  cases k with
  | false => exact ⟨_, rfl, q B4 H4 ((s2.trans s3).trans s4)⟩
  | true => exact hc B4 H4 (((s1.trans s2).trans s3).trans s4) _ fun z B5 H5 s5 rz => hr' y z B5 H5 _ ((((s1.trans s2).trans s3).trans s4).trans s5) (mr2.mn y _ _ (s4.b.trans s5.b) ry) rz fun B6 H6 s6 => ⟨_, rfl, q B6 H6 ((((s2.trans s3).trans s4).trans s5).trans s6)⟩
theorem cm_I {op : CmpOp} {p : Int → Int → Bool} {i j : Int} (ho : OpR X (compareOp op) (rI0 fun i j => .bl (p i j))) : Cm m X op B H (IsD (.int i)) (IsD (.int j)) (p i j) :=
  ⟨_, ho, fun x y B1 H1 Q s1 rx ry q => ⟨i, j, Dq.int_eq rx, Dq.int_eq ry, q B1 H1 (Stp.refl s1.s s1.p)⟩⟩
theorem cm_lt {i j : Int} : Cm m X .Lt B H (IsD (.int i)) (IsD (.int j)) (decide (i < j)) := cm_I (p := fun i j => decide (i < j)) op_lt
theorem cm_le {i j : Int} : Cm m X .LtE B H (IsD (.int i)) (IsD (.int j)) (decide (i ≤ j)) := cm_I (p := fun i j => decide (i ≤ j)) op_le
theorem cm_gt {i j : Int} : Cm m X .Gt B H (IsD (.int i)) (IsD (.int j)) (decide (j < i)) := cm_I (p := fun i j => decide (j < i)) op_gt
theorem cm_ge {i j : Int} : Cm m X .GtE B H (IsD (.int i)) (IsD (.int j)) (decide (j ≤ i)) := cm_I (p := fun i j => decide (j ≤ i)) op_ge
theorem cm_eqI {i j : Int} : Cm m X .Eq B H (IsD (.int i)) (IsD (.int j)) (decide (i = j)) :=
  ⟨_, op_eq, fun x y B1 H1 Q s1 rx ry q => by cases Dq.int_eq rx; cases Dq.int_eq ry; exact ⟨rfl, by have e := q B1 H1 (Stp.refl s1.s s1.p); rw [dec_int, Bool.beq_eq_decide_eq]; exact e⟩⟩
theorem cm_neI {i j : Int} : Cm m X .NotEq B H (IsD (.int i)) (IsD (.int j)) (!decide (i = j)) :=
  ⟨_, op_ne, fun x y B1 H1 Q s1 rx ry q => by cases Dq.int_eq rx; cases Dq.int_eq ry; exact ⟨rfl, by have e := q B1 H1 (Stp.refl s1.s s1.p); rw [dec_int, Bool.beq_eq_decide_eq]; exact e⟩⟩
theorem cm_eqS {i j : Str} : Cm m X .Eq B H (IsD (.str i)) (IsD (.str j)) (decide (i = j)) :=
  ⟨_, op_eq, fun x y B1 H1 Q s1 rx ry q => by
    cases Dq.str_eq rx; cases Dq.str_eq ry
    refine ⟨rfl, ?_⟩
    have e : decide (V.str i = V.str j) = decide (i = j) := by simp
    rw [e]; exact q B1 H1 (Stp.refl s1.s s1.p)⟩
theorem cm_neS {i j : Str} : Cm m X .NotEq B H (IsD (.str i)) (IsD (.str j)) (!decide (i = j)) :=
  ⟨_, op_ne, fun x y B1 H1 Q s1 rx ry q => by
    cases Dq.str_eq rx; cases Dq.str_eq ry
    refine ⟨rfl, ?_⟩
    have e : decide (V.str i = V.str j) = decide (i = j) := by simp
    rw [e]; exact q B1 H1 (Stp.refl s1.s s1.p)⟩
/-- of data at any depth -/
theorem cm_eqD {d e : PyData} {k : Nat} (hr : Room k X.A) (hd : SeqAt.shaped d = true) (he : SeqAt.shaped e = true) : Cm m X .Eq B H (IsD d) (IsD e) (PyData.eqv d e) :=
  ⟨_, op_eqD hr.units, fun x y B1 H1 Q s1 rx ry q => ⟨d, e, dq_dp d _ (dp_mn s1.s d _ rx) (SeqAt.canLay_of_shaped hd), dq_dp e _ (dp_mn s1.s e _ ry) (SeqAt.canLay_of_shaped he), hd, he, q B1 H1 (Stp.refl s1.s s1.p)⟩⟩
theorem cm_neD {d e : PyData} {k : Nat} (hr : Room k X.A) (hd : SeqAt.shaped d = true) (he : SeqAt.shaped e = true) : Cm m X .NotEq B H (IsD d) (IsD e) (!PyData.eqv d e) :=
  ⟨_, op_neD hr.units, fun x y B1 H1 Q s1 rx ry q => ⟨d, e, dq_dp d _ (dp_mn s1.s d _ rx) (SeqAt.canLay_of_shaped hd), dq_dp e _ (dp_mn s1.s e _ ry) (SeqAt.canLay_of_shaped he), hd, he, q B1 H1 (Stp.refl s1.s s1.p)⟩⟩
/-- is None -/
def isNon : PyData → Bool
  | .none => true
  | _ => false
theorem dp_isNon {v : V} {d : PyData} (h : Dq H v d) : decide (v = V.non) = isNon d := by
  cases h <;> first | rfl | exact decide_eq_false (fun z => nomatch z)
theorem cm_isN {d : PyData} : Cm m X .Is B H (IsD d) (IsD .none) (isNon d) :=
  ⟨_, op_isN, fun x y B1 H1 Q s1 rx ry q => ⟨Dq.non_eq ry, by rw [dp_isNon rx]; exact q B1 H1 (Stp.refl s1.s s1.p)⟩⟩
theorem cm_notN {d : PyData} : Cm m X .IsNot B H (IsD d) (IsD .none) (!isNon d) :=
  ⟨_, op_notN, fun x y B1 H1 Q s1 rx ry q => ⟨Dq.non_eq ry, by rw [dp_isNon rx]; exact q B1 H1 (Stp.refl s1.s s1.p)⟩⟩
/-! tests -/
theorem et_val {k : Bool} (h : Ev m X e σ B H (IsD (.bool k))) (he : ∀ whole, isTrue e X.env whole = (do let v ← whole; standAt e.pos; holding [v] (truthy v)) := by intro _; rfl) : EvT m X e σ B H k :=
  et_by (pt_val pe_w he) fun B1 H1 s1 Q q => h B1 H1 s1 _ fun v B2 H2 s2 r => ⟨k, Dq.bl_eq r, q B2 H2 s2⟩
theorem et_not {k : Bool} (h : EvT m X e σ B H k) : EvT m X (.UnaryOp .Not e pos) σ B H (!k) :=
  et_by (pt_not pt_w) fun B1 H1 s1 Q q => h B1 H1 s1 _ fun B2 H2 s2 => q B2 H2 s2
theorem et_and2 {k k' : Bool} (ha : EvT m X a σ B H k) (hb : k = true → EvT m X b σ B H k') : EvT m X (.BoolOp .And [a, b] pos) σ B H (k && k') :=
  et_by (PW.pt (pw_and pt_w (pw_and1 pt_w))) fun B1 H1 s1 Q q => ha B1 H1 s1 _ fun B2 H2 s2 => by
    cases k with
    | false => exact q B2 H2 s2
    | true => exact hb rfl B2 H2 (s1.trans s2) _ fun B3 H3 s3 => q B3 H3 (s2.trans s3)
theorem et_or2 {k k' : Bool} (ha : EvT m X a σ B H k) (hb : k = false → EvT m X b σ B H k') : EvT m X (.BoolOp .Or [a, b] pos) σ B H (k || k') :=
  et_by (PW.pt (pw_or pt_w (pw_or1 pt_w))) fun B1 H1 s1 Q q => ha B1 H1 s1 _ fun B2 H2 s2 => by
    cases k with
    | true => exact q B2 H2 s2
    | false => exact hb rfl B2 H2 (s1.trans s2) _ fun B3 H3 s3 => q B3 H3 (s2.trans s3)
theorem et_or3 {k k' k2 : Bool} (ha : EvT m X a σ B H k) (hb : k = false → EvT m X b σ B H k') (hc : k = false → k' = false → EvT m X c σ B H k2) : EvT m X (.BoolOp .Or [a, b, c] pos) σ B H (k || (k' || k2)) :=
  et_by (PW.pt (pw_or pt_w (pw_or pt_w (pw_or1 pt_w)))) fun B1 H1 s1 Q q => ha B1 H1 s1 _ fun B2 H2 s2 => by
    cases k with
    | true => exact q B2 H2 s2
    | false =>
      refine hb rfl B2 H2 (s1.trans s2) _ fun B3 H3 s3 => ?_
      cases k' with
      | true => exact q B3 H3 (s2.trans s3)
      | false => exact hc rfl rfl B3 H3 ((s1.trans s2).trans s3) _ fun B4 H4 s4 => q B4 H4 ((s2.trans s3).trans s4)
theorem et_or4 {c' : Expr} {k k' k2 k3 : Bool} (ha : EvT m X a σ B H k) (hb : k = false → EvT m X b σ B H k') (hc : k = false → k' = false → EvT m X c σ B H k2) (hd : k = false → k' = false → k2 = false → EvT m X c' σ B H k3) : EvT m X (.BoolOp .Or [a, b, c, c'] pos) σ B H (k || (k' || (k2 || k3))) :=
  et_by (PW.pt (pw_or pt_w (pw_or pt_w (pw_or pt_w (pw_or1 pt_w))))) fun B1 H1 s1 Q q => ha B1 H1 s1 _ fun B2 H2 s2 => by
    cases k with
    | true => exact q B2 H2 s2
    | false =>
      refine hb rfl B2 H2 (s1.trans s2) _ fun B3 H3 s3 => ?_
      cases k' with
      | true => exact q B3 H3 (s2.trans s3)
      | false =>
        refine hc rfl rfl B3 H3 ((s1.trans s2).trans s3) _ fun B4 H4 s4 => ?_
        cases k2 with
        | true => exact q B4 H4 ((s2.trans s3).trans s4)
        | false => exact hd rfl rfl rfl B4 H4 (((s1.trans s2).trans s3).trans s4) _ fun B5 H5 s5 => q B5 H5 (((s2.trans s3).trans s4).trans s5)
theorem et_and3 {k k' k2 : Bool} (ha : EvT m X a σ B H k) (hb : k = true → EvT m X b σ B H k') (hc : k = true → k' = true → EvT m X c σ B H k2) : EvT m X (.BoolOp .And [a, b, c] pos) σ B H (k && (k' && k2)) :=
  et_by (PW.pt (pw_and pt_w (pw_and pt_w (pw_and1 pt_w)))) fun B1 H1 s1 Q q => ha B1 H1 s1 _ fun B2 H2 s2 => by
    cases k with
    | false => exact q B2 H2 s2
    | true =>
      refine hb rfl B2 H2 (s1.trans s2) _ fun B3 H3 s3 => ?_
      cases k' with
      | false => exact q B3 H3 (s2.trans s3)
      | true => exact hc rfl rfl B3 H3 ((s1.trans s2).trans s3) _ fun B4 H4 s4 => q B4 H4 ((s2.trans s3).trans s4)
/-! and, or, not as values -/
theorem ev_and2 {k k' : Bool} (ha : Ev m X a σ B H (IsD (.bool k))) (hb : k = true → Ev m X b σ B H (IsD (.bool k'))) : Ev m X (.BoolOp .And [a, b] pos) σ B H (IsD (.bool (k && k'))) :=
  ev_by (pe_and pe_w (pe_one pe_w)) fun B1 H1 s1 Q q => ha B1 H1 s1 _ fun x B2 H2 s2 rx => ⟨k, Dq.bl_eq rx, by
    cases k with
    | false => exact q _ B2 H2 s2 (.bl _)
    | true => exact hb rfl B2 H2 (s1.trans s2) _ fun y B3 H3 s3 ry => q y B3 H3 (s2.trans s3) ry⟩
theorem ev_and3 {k k' k2 : Bool} (ha : Ev m X a σ B H (IsD (.bool k))) (hb : k = true → Ev m X b σ B H (IsD (.bool k'))) (hc : k = true → k' = true → Ev m X c σ B H (IsD (.bool k2))) : Ev m X (.BoolOp .And [a, b, c] pos) σ B H (IsD (.bool (k && (k' && k2)))) :=
  ev_by (pe_and pe_w (pe_and pe_w (pe_one pe_w))) fun B1 H1 s1 Q q => ha B1 H1 s1 _ fun x B2 H2 s2 rx => ⟨k, Dq.bl_eq rx, by
    cases k with
    | false => exact q _ B2 H2 s2 (.bl _)
    | true => exact hb rfl B2 H2 (s1.trans s2) _ fun y B3 H3 s3 ry => ⟨k', Dq.bl_eq ry, by
        cases k' with
        | false => exact q _ B3 H3 (s2.trans s3) (.bl _)
        | true => exact hc rfl rfl B3 H3 ((s1.trans s2).trans s3) _ fun z B4 H4 s4 rz => q z B4 H4 ((s2.trans s3).trans s4) rz⟩⟩
theorem ev_and4 {c' : Expr} {k k' k2 k3 : Bool} (ha : Ev m X a σ B H (IsD (.bool k))) (hb : k = true → Ev m X b σ B H (IsD (.bool k'))) (hc : k = true → k' = true → Ev m X c σ B H (IsD (.bool k2))) (hd : k = true → k' = true → k2 = true → Ev m X c' σ B H (IsD (.bool k3))) :
    Ev m X (.BoolOp .And [a, b, c, c'] pos) σ B H (IsD (.bool (k && (k' && (k2 && k3))))) :=
  ev_by (pe_and pe_w (pe_and pe_w (pe_and pe_w (pe_one pe_w)))) fun B1 H1 s1 Q q => ha B1 H1 s1 _ fun x B2 H2 s2 rx => ⟨k, Dq.bl_eq rx, by
    cases k with
    | false => exact q _ B2 H2 s2 (.bl _)
    | true => exact hb rfl B2 H2 (s1.trans s2) _ fun y B3 H3 s3 ry => ⟨k', Dq.bl_eq ry, by
        cases k' with
        | false => exact q _ B3 H3 (s2.trans s3) (.bl _)
        | true => exact hc rfl rfl B3 H3 ((s1.trans s2).trans s3) _ fun z B4 H4 s4 rz => ⟨k2, Dq.bl_eq rz, by
            cases k2 with
            | false => exact q _ B4 H4 ((s2.trans s3).trans s4) (.bl _)
            | true => exact hd rfl rfl rfl B4 H4 (((s1.trans s2).trans s3).trans s4) _ fun z B5 H5 s5 rz => q z B5 H5 (((s2.trans s3).trans s4).trans s5) rz⟩⟩⟩
theorem ev_not {k : Bool} (ha : Ev m X a σ B H (IsD (.bool k))) : Ev m X (.UnaryOp .Not a pos) σ B H (IsD (.bool (!k))) :=
  ev_by (pe_not pe_w) fun B1 H1 s1 Q q => ha B1 H1 s1 _ fun x B2 H2 s2 rx => ⟨k, Dq.bl_eq rx, q _ B2 H2 s2 (.bl _)⟩
theorem ev_if {k : Bool} (hc : EvT m X c σ B H k) (ha : k = true → Ev m X a σ B H R) (hb : k = false → Ev m X b σ B H R) : Ev m X (.IfExp c a b pos) σ B H R :=
  ev_by (pe_ifExp pt_w pe_w pe_w) fun B1 H1 s1 Q q => hc B1 H1 s1 _ fun B2 H2 s2 => by
    cases k with
    | false => exact hb rfl B2 H2 (s1.trans s2) _ fun y B3 H3 s3 ry => q y B3 H3 (s2.trans s3) ry
    | true => exact ha rfl B2 H2 (s1.trans s2) _ fun y B3 H3 s3 ry => q y B3 H3 (s2.trans s3) ry
end
end K3
/-! TEXT K2 -/
set_option Elab.async false
set_option linter.all false
set_option maxRecDepth 100000
set_option maxHeartbeats 1000000
namespace K3
open PySem PySem.Spec L2

/-! ### a list that may change -/
structure Mu (m : Option Addr) (B H : Hp) (p : Addr) (ds : List PyData) : Prop where
  ne : some p ≠ m
  b : B p = none
  ex : ∃ zs, H p = some (.lst zs) ∧ DqAll B zs ds
section
variable {m : Option Addr} {B H B' H' B0 H0 : Hp} {p q : Addr} {ds es : List PyData}
theorem Mu.mono (M : Mu m B H p ds) (s : Stp m B H B' H') : Mu m B' H' p ds := by
  obtain ⟨zs, h1, h2⟩ := M.ex
  exact ⟨M.ne, s.f _ _ h1 M.b, zs, s.h _ _ M.ne h1, h2.mono s.b⟩
theorem Mu.grow (M : Mu m B H p ds) (s : Same B B') (hb : B' p = none) : Mu m B' H p ds := by
  obtain ⟨zs, h1, h2⟩ := M.ex
  exact ⟨M.ne, hb, zs, h1, h2.mono s⟩
theorem Mu.other (M : Mu m B H p ds) (hq : q ≠ p) {o : HO} : Mu m B (upd H q o) p ds := by
  obtain ⟨zs, h1, h2⟩ := M.ex
  exact ⟨M.ne, M.b, zs, by rw [upd_ne (Ne.symm hq)]; exact h1, h2⟩
theorem Mu.put (M : Mu m B H p ds) {zs : List V} (h : DqAll B zs es) : Mu m B (upd H p (.lst zs)) p es := ⟨M.ne, M.b, zs, upd_same, h⟩
/-- at a def's end -/
theorem Mu.frz (M : Mu m B H p ds) (S : Stp m B0 H0 B H) (h0 : H0 p = none) : ∃ B2, Same B B2 ∧ Stp m B0 H0 B2 H ∧ Dq B2 (.ref p) (.list ds) := by
  obtain ⟨zs, h1, h2⟩ := M.ex
  exact ⟨_, same_upd M.b, S.frz h0 M.b h1 M.ne, .lst upd_same (h2.mono (same_upd M.b))⟩
theorem Mu.len (M : Mu m B H p ds) : ∃ zs, H p = some (.lst zs) ∧ zs.length = ds.length := by
  obtain ⟨zs, h1, h2⟩ := M.ex
  exact ⟨zs, h1, h2.len⟩
/-- one's own list is changed -/
theorem Stp.put (S : Stp m B0 H0 B H) (M : Mu m B H p ds) (h0 : H0 p = none) {o : HO} : Stp m B0 H0 B (upd H p o) := S.mut h0 M.b M.ne
end

/-! ### the items by place -/
section
variable {B : Hp}
theorem atI_dp {xs : List V} {ds : List PyData} {i : Int} {d : PyData} (h : DqAll B xs ds) (e : atI ds i = some d) : ∃ v, atI xs i = some v ∧ Dq B v d := by
  unfold atI at e ⊢
  rw [h.len]
  cases q : ixN ds.length i with
  | none => rw [q] at e; cases e
  | some j =>
    rw [q] at e
    obtain ⟨x, h1, h2⟩ := h.get' (show ds[j]? = some d from e)
    exact ⟨x, h1, h2⟩
theorem atI_map {α β : Type} (f : α → β) {xs : List α} {i : Int} {x : α} (h : atI xs i = some x) : atI (xs.map f) i = some (f x) := by
  unfold atI at h ⊢
  rw [List.length_map]
  cases q : ixN xs.length i with
  | none => rw [q] at h; cases h
  | some j =>
    rw [q] at h
    have h : xs[j]? = some x := h
    show (xs.map f)[j]? = _
    rw [List.getElem?_map, h] <;> rfl
theorem atI_ok {α : Type} {xs : List α} {i : Int} {x : α} (h0 : 0 ≤ i) (h : xs[i.toNat]? = some x) : atI xs i = some x := by
  have e : i = ((i.toNat : Nat) : Int) := by omega
  rw [e]
  exact atI_nat h
theorem atI_end {α : Type} {xs : List α} {x : α} (h : xs.getLast? = some x) : atI xs (-1) = some x := by
  obtain ⟨ys, rfl⟩ := List.getLast?_eq_some_iff.mp h
  exact atI_last ys x
end
def cutD {α : Type} (xs : List α) (lo hi : Option Int) : List α := (xs.drop (HT.sIx xs.length 0 lo)).take (HT.sIx xs.length xs.length hi - HT.sIx xs.length 0 lo)
theorem cut_dp {B : Hp} {xs : List V} {ds : List PyData} {lo hi : Option Int} (h : DqAll B xs ds) : DqAll B (cutV xs lo hi) (cutD ds lo hi) := by
  unfold cutV cutD
  rw [h.len]
  exact (h.drop _).take _

section
variable {m : Option Addr} {X : Cx} {e a b c : Expr} {es : List Expr} {σ : L2.St} {B H B' H' : Hp} {R R1 R2 : Rt} {Rs : List Rt} {pos p2 : Pos} {Γ : List (Option Rt)} {d : PyData} {ds : List PyData}
/-! ### displays -/
theorem args_dp : ∀ {ds : List PyData} {vs : List V} {B : Hp}, Args (ds.map IsD) vs B → DqAll B vs ds
  | [], [], _, _ => .nil
  | _ :: _, _ :: _, _, h => .cons h.1 (args_dp h.2)
  | [], _ :: _, _, h => h.elim
  | _ :: _, [], _, h => h.elim
theorem ev_tup {k : Nat} (ds : List PyData) (h : EvA m X es σ B H (ds.map (IsD))) (hl : ds.length ≤ 1000 := by decide) : Ev m X (.Tuple es k pos) σ B H (IsD (.tuple ds)) :=
  ev_by (pe_tup pa_w) fun B1 H1 s1 Q q => h B1 H1 s1 _ fun vs B2 H2 s2 r => ⟨by
    rw [(args_dp r).len]; exact Nat.le_trans hl (by decide), fun p hp => q (.ref p) _ _ (s2.new hp) (.tup upd_same ((args_dp r).mono (same_upd (s2.s.free hp))))⟩
theorem em_lst (ds : List PyData) (h : EvA m X es σ B H (ds.map (IsD))) (hl : ds.length ≤ 1000 := by decide) : EvM m X (.List es pos) σ B H ds := fun B1 H1 s1 Q q =>
  wE.of (pe_lst pa_w) (h B1 H1 s1 _ fun vs B2 H2 s2 r => ⟨by
    rw [(args_dp r).len]; exact Nat.le_trans hl (by decide), fun p hp => q p vs B2 _ (s2.mnew hp) (s2.t p hp) (s2.s.free hp) upd_same (args_dp r)⟩)
/-! ### subscripts -/
theorem ev_ixL {i : Int} (ha : Ev m X a σ B H (IsD (.list ds))) (hb : Ev m X b σ B H (IsD (.int i))) (h : atI ds i = some d) (hs : PlainIx b := by intro _ _; rfl) : Ev m X (.Subscript a b pos) σ B H (IsD d) :=
  ev_by (pe_ix ix_list pe_w pe_w hs) fun B1 H1 s1 Q q => ha B1 H1 s1 _ fun x B2 H2 s2 rx => hb B2 H2 (s1.trans s2) _ fun y B3 H3 s3 ry => by
    obtain ⟨p, xs, rfl, h1, h2⟩ := Dq.lst_ex (rx.mono s3.b)
    obtain ⟨v, e1, e2⟩ := atI_dp h2 h
    exact ⟨p, xs, i, v, rfl, Dq.int_eq ry, SqL.of (s3.s _ _ h1), e1, q v B3 H3 (s2.trans s3) e2⟩
theorem ev_ixT {i : Int} (ha : Ev m X a σ B H (IsD (.tuple ds))) (hb : Ev m X b σ B H (IsD (.int i))) (h : atI ds i = some d) (hs : PlainIx b := by intro _ _; rfl) : Ev m X (.Subscript a b pos) σ B H (IsD d) :=
  ev_by (pe_ix ix_tup pe_w pe_w hs) fun B1 H1 s1 Q q => ha B1 H1 s1 _ fun x B2 H2 s2 rx => hb B2 H2 (s1.trans s2) _ fun y B3 H3 s3 ry => by
    obtain ⟨p, xs, rfl, h1, h2⟩ := Dq.tup_ex (rx.mono s3.b)
    obtain ⟨v, e1, e2⟩ := atI_dp h2 h
    exact ⟨p, xs, i, v, rfl, Dq.int_eq ry, SqT.of (s3.s _ _ h1), e1, q v B3 H3 (s2.trans s3) e2⟩
/-- of a list that may change -/
theorem ev_ixM {i : Int} {p : Addr} (M : Mu m B H p ds) (ha : Ev m X a σ B H (IsV (.ref p))) (hb : Ev m X b σ B H (IsD (.int i))) (h : atI ds i = some d) (hs : PlainIx b := by intro _ _; rfl) : Ev m X (.Subscript a b pos) σ B H (IsD d) :=
  ev_by (pe_ix ix_list pe_w pe_w hs) fun B1 H1 s1 Q q => ha B1 H1 s1 _ fun x B2 H2 s2 rx => hb B2 H2 (s1.trans s2) _ fun y B3 H3 s3 ry => by
    obtain ⟨zs, h1, h2⟩ := (M.mono ((s1.trans s2).trans s3)).ex
    obtain ⟨v, e1, e2⟩ := atI_dp h2 h
    exact ⟨p, zs, i, v, rx, Dq.int_eq ry, SqL.of h1, e1, q v B3 H3 (s2.trans s3) e2⟩
def EvO (m : Option Addr) (X : Cx) (e : Option Expr) (σ : L2.St) (B H : Hp) (o : Option Int) : Prop := ∃ t, PO X e t ∧ ∀ B1 H1, Stp m B H B1 H1 → ∀ Q : Option Int → Hp → Prop, (∀ B2 H2, Stp m B1 H1 B2 H2 → Q o H2) → t σ H1 Q
theorem eo_none : EvO m X none σ B H none := ⟨_, po_none, fun B1 H1 s1 Q q => q B1 H1 s1.here⟩
theorem eo_some {i : Int} (h : Ev m X e σ B H (IsD (.int i))) : EvO m X (some e) σ B H (some i) := ⟨_, po_some pe_w, fun B1 H1 s1 Q q => h B1 H1 s1 _ fun v B2 H2 s2 r => ⟨i, Dq.int_eq r, q B2 H2 s2⟩⟩
theorem em_slL {lo hi : Option Expr} {i j : Option Int} (ha : Ev m X a σ B H (IsD (.list ds))) (hl : EvO m X lo σ B H i) (hh : EvO m X hi σ B H j) : EvM m X (.Subscript a (.Slice lo hi none p2) pos) σ B H (cutD ds i j) := by
  obtain ⟨t, h1, h2⟩ := hl
  obtain ⟨t', h3, h4⟩ := hh
  refine fun B1 H1 s1 Q q => wE.of (pe_slice sl_list pe_w h1 h3) (ha B1 H1 s1 _ fun x B2 H2 s2 rx => h2 B2 H2 (s1.trans s2) _ fun B3 H3 s3 => h4 B3 H3 ((s1.trans s2).trans s3) _ fun B4 H4 s4 => ?_)
  obtain ⟨p, xs, rfl, k1, k2⟩ := Dq.lst_ex (rx.mono (s3.trans s4).b)
  exact ⟨p, xs, rfl, SqL.of (s4.s _ _ k1), fun l hl => q l _ B4 _ (((s2.trans s3).trans s4).mnew hl) (((s2.trans s3).trans s4).t l hl) (s4.s.free hl) upd_same (cut_dp k2)⟩
theorem ev_slT {lo hi : Option Expr} {i j : Option Int} (ha : Ev m X a σ B H (IsD (.tuple ds))) (hl : EvO m X lo σ B H i) (hh : EvO m X hi σ B H j) : Ev m X (.Subscript a (.Slice lo hi none p2) pos) σ B H (IsD (.tuple (cutD ds i j))) := by
  obtain ⟨t, h1, h2⟩ := hl
  obtain ⟨t', h3, h4⟩ := hh
  refine ev_by (pe_slice sl_tupA pe_w h1 h3) fun B1 H1 s1 Q q => (ha B1 H1 s1 _ fun x B2 H2 s2 rx => h2 B2 H2 (s1.trans s2) _ fun B3 H3 s3 => h4 B3 H3 ((s1.trans s2).trans s3) _ fun B4 H4 s4 => ?_)
  obtain ⟨p, xs, rfl, k1, k2⟩ := Dq.tup_ex (rx.mono (s3.trans s4).b)
  refine ⟨p, xs, rfl, SqT.of (s4.s _ _ k1), fun w => ?_, fun w l hl => ?_⟩
  · refine q _ B4 H4 ((s2.trans s3).trans s4) (.tup k1 ?_)
    have e : cutD ds i j = ds := by
      unfold cutD
      rw [← k2.len, w.1, w.2]
      simp [k2.len]
    rw [e]; exact k2
  · exact q _ _ _ (((s2.trans s3).trans s4).new hl) (.tup upd_same ((cut_dp k2).mono (same_upd (s4.s.free hl))))
/-! ### + and * -/
theorem em_cat {ds es : List PyData} (hz : ds.length + es.length ≤ 100000) (ha : Ev m X a σ B H (IsD (.list ds))) (hb : Ev m X b σ B H (IsD (.list es))) : EvM m X (.BinOp a .Add b pos) σ B H (ds ++ es) := fun B1 H1 s1 Q q =>
  wE.of (pe_op op_cat pe_w pe_w) (ha B1 H1 s1 _ fun x B2 H2 s2 rx => hb B2 H2 (s1.trans s2) _ fun y B3 H3 s3 ry => by
    obtain ⟨p, xs, rfl, h1, h2⟩ := Dq.lst_ex (rx.mono s3.b)
    obtain ⟨p', ys, rfl, h3, h4⟩ := Dq.lst_ex ry
    have z : xs.length + ys.length ≤ sizeLine := by rw [h2.len, h4.len]; exact Nat.le_trans hz (by decide)
    exact ⟨p, p', xs, ys, rfl, rfl, s3.s _ _ h1, s3.s _ _ h3, z, fun l hl => q l _ B3 _ ((s2.trans s3).mnew hl) ((s2.trans s3).t l hl) (s3.s.free hl) upd_same (h2.app h4)⟩)
end
end K3
/-! TEXT K3f -/
set_option Elab.async false
set_option linter.all false
set_option maxRecDepth 100000
set_option maxHeartbeats 1000000
namespace K3
open PySem PySem.Spec L2

/-! ### promises -/
/-- arguments as Rs say, an answer as R says; m: the draws -/
def spD (m : Option Addr) (Rs : List Rt) (R : Rt) : Sp := fun vs H Q _ => ∃ B, Same B H ∧ PotOk m B H ∧ Args Rs vs B ∧ ∀ v B' H', Stp m B H B' H' → R v B' → Q v H'
/-- the answer a new list that nobody else has -/
def spM (Rs : List Rt) (ds : List PyData) : Sp := fun vs H Q _ => ∃ B, Same B H ∧ Args Rs vs B ∧ ∀ p zs B' H', Stp none B H B' H' → H p = none → B' p = none → H' p = some (.lst zs) → DqAll B' zs ds → Q (.ref p) H'
theorem spM_spD {Rs : List Rt} {ds : List PyData} {vs : List V} {H : Hp} {Q : VK} {E : XK} (h : spD none Rs (IsD (.list ds)) vs H Q E) : spM Rs ds vs H Q E := by
  obtain ⟨B, s, hp, a, k⟩ := h
  exact ⟨B, s, a, fun p zs B' H' s' n1 n2 hz hd => k (.ref p) (upd B' p (.lst zs)) H' (s'.frz n1 n2 hz (fun z => nomatch z)) (.lst upd_same (hd.mono (same_upd n2)))⟩
/-- a def of the text that keeps its promise -/
structure Cl (P : Program) (w : World) (K : PySem.W.Frag) (mg : Str → Option Value) (base : Heap) (x : Str) (ps : List Str) (k : Nat) (sp : Sp) : Prop where
  ex : ∃ (f : Addr) (fd : FuncData), mg x = some (.ref f) ∧ PySem.W.keepIn K (.ref f) = true ∧ Binds K fd ps [] ∧ FnOk P w K mg base CX0 k f fd ps sp
theorem Cl.imp {P : Program} {w : World} {K : PySem.W.Frag} {mg : Str → Option Value} {base : Heap} {x : Str} {ps : List Str} {k : Nat} {sp sp' : Sp} (h : Cl P w K mg base x ps k sp) (hi : ∀ vs H Q E, sp' vs H Q E → sp vs H Q E) : Cl P w K mg base x ps k sp' := by
  obtain ⟨f, fd, h1, h2, h3, h4⟩ := h.ex
  exact ⟨f, fd, h1, h2, h3, h4.imp hi⟩

section
variable {m : Option Addr} {X : Cx} {e a b c : Expr} {es : List Expr} {σ : L2.St} {B H B' H' B0 H0 : Hp} {R R1 R2 : Rt} {Rs : List Rt} {pos p1 p2 : Pos} {Γ : List (Option Rt)} {d : PyData} {ds : List PyData} {x : Str} {ps : List Str} {k n : Nat}
/-! ### calls -/
theorem ev_call (G : Cl X.prog X.w X.K X.mg X.base x ps k (spD none Rs R)) (hr : Room n X.A) (ha : EvA m X (e :: es) σ B H Rs) (hk : k ≤ n := by decide) (hg : Gl X x := by rfl) (hdb : (x == ("__debug__" : Str)) = false := by decide) (he : starEach (e :: es) X.env = (false, eval e X.env) :: starEach es X.env := by rfl)
    (hpl : (backTo pos (starEach es X.env)).any (·.1) = false := by rfl) : Ev m X (.Call (.Name x p1) (e :: es) [] pos) σ B H R := by
  obtain ⟨f, fd, h1, h2, h3, h4⟩ := G.ex
  refine ev_by (pe_call h4 (hr.mono hk) hg h1 h2 h3 .nil pass0 pa_w hdb he hpl) fun B1 H1 s1 Q q => ha B1 H1 s1 _ fun vs B2 H2 s2 r => ?_
  refine ⟨B2, s2.s, pot0, by rw [List.append_nil]; exact r, fun v B3 H3 s3 rv => ?_⟩
  exact q v B3 H3 (s2.trans (s3.up s2.p)) rv
/-- one that draws -/
theorem ev_callP {p : Addr} (G : Cl X.prog X.w X.K X.mg X.base x ps k (spD (some p) Rs R)) (hr : Room n X.A) (ha : EvA (some p) X (e :: es) σ B H Rs) (hk : k ≤ n := by decide) (hg : Gl X x := by rfl) (hdb : (x == ("__debug__" : Str)) = false := by decide) (he : starEach (e :: es) X.env = (false, eval e X.env) :: starEach es X.env := by rfl)
    (hpl : (backTo pos (starEach es X.env)).any (·.1) = false := by rfl) : Ev (some p) X (.Call (.Name x p1) (e :: es) [] pos) σ B H R := by
  obtain ⟨f, fd, h1, h2, h3, h4⟩ := G.ex
  refine ev_by (pe_call h4 (hr.mono hk) hg h1 h2 h3 .nil pass0 pa_w hdb he hpl) fun B1 H1 s1 Q q => ha B1 H1 s1 _ fun vs B2 H2 s2 r => ?_
  refine ⟨B2, s2.s, s2.p, by rw [List.append_nil]; exact r, fun v B3 H3 s3 rv => ?_⟩
  exact q v B3 H3 (s2.trans s3) rv
theorem em_call (G : Cl X.prog X.w X.K X.mg X.base x ps k (spM Rs ds)) (hr : Room n X.A) (ha : EvA m X (e :: es) σ B H Rs) (hk : k ≤ n := by decide) (hg : Gl X x := by rfl) (hdb : (x == ("__debug__" : Str)) = false := by decide) (he : starEach (e :: es) X.env = (false, eval e X.env) :: starEach es X.env := by rfl)
    (hpl : (backTo pos (starEach es X.env)).any (·.1) = false := by rfl) : EvM m X (.Call (.Name x p1) (e :: es) [] pos) σ B H ds := by
  obtain ⟨f, fd, h1, h2, h3, h4⟩ := G.ex
  refine fun B1 H1 s1 Q q => wE.of (pe_call h4 (hr.mono hk) hg h1 h2 h3 .nil pass0 pa_w hdb he hpl) (ha B1 H1 s1 _ fun vs B2 H2 s2 r => ?_)
  refine ⟨B2, s2.s, by rw [List.append_nil]; exact r, fun p zs B3 H3 s3 n1 n2 hz hd => ?_⟩
  exact q p zs B3 H3 (s2.trans (s3.up s2.p)) (s2.t p n1) n2 hz hd
/-- a built-in function, a built-in class -/
theorem ev_blt {id : String} {r : List V → Hp → VK → Prop} (hc : CallR X (.builtin id) r) (hm : X.mg x = none) (hv : bootBuiltins x = some (.builtin id)) (ha : EvA m X (e :: es) σ B H Rs)
    (hr : ∀ vs B1 H1 (Q : VK), Stp m B H B1 H1 → Args Rs vs B1 → (∀ v B2 H2, Stp m B1 H1 B2 H2 → R v B2 → Q v H2) → r vs H1 Q) (hg : Gl X x := by rfl) (hn : x ≠ "__name__" := by decide) (hdb : (x == ("__debug__" : Str)) = false := by decide)
    (he : starEach (e :: es) X.env = (false, eval e X.env) :: starEach es X.env := by rfl) (hpl : (backTo pos (starEach es X.env)).any (·.1) = false := by rfl) : Ev m X (.Call (.Name x p1) (e :: es) [] pos) σ B H R :=
  ev_by (pe_callB hc hg hm hv pa_w hn hdb he hpl) fun B1 H1 s1 Q q => ha B1 H1 s1 _ fun vs B2 H2 s2 ra => hr vs B2 H2 Q (s1.trans s2) ra fun v B3 H3 s3 rv => q v B3 H3 (s2.trans s3) rv
theorem ev_ty {T : String} {r : List V → Hp → VK → Prop} (hc : CallR X (.type T) r) (hm : X.mg x = none) (hv : bootBuiltins x = some (.type T)) (ha : EvA m X (e :: es) σ B H Rs)
    (hr : ∀ vs B1 H1 (Q : VK), Stp m B H B1 H1 → Args Rs vs B1 → (∀ v B2 H2, Stp m B1 H1 B2 H2 → R v B2 → Q v H2) → r vs H1 Q) (hg : Gl X x := by rfl) (hn : x ≠ "__name__" := by decide) (hdb : (x == ("__debug__" : Str)) = false := by decide)
    (he : starEach (e :: es) X.env = (false, eval e X.env) :: starEach es X.env := by rfl) (hpl : (backTo pos (starEach es X.env)).any (·.1) = false := by rfl) : Ev m X (.Call (.Name x p1) (e :: es) [] pos) σ B H R :=
  ev_by (pe_callTy hc hg hm hv pa_w hn hdb he hpl) fun B1 H1 s1 Q q => ha B1 H1 s1 _ fun vs B2 H2 s2 ra => hr vs B2 H2 Q (s1.trans s2) ra fun v B3 H3 s3 rv => q v B3 H3 (s2.trans s3) rv
theorem em_blt {id : String} {r : List V → Hp → VK → Prop} (hc : CallR X (.builtin id) r) (hm : X.mg x = none) (hv : bootBuiltins x = some (.builtin id)) (ha : EvA m X (e :: es) σ B H Rs)
    (hr : ∀ vs B1 H1 (Q : VK), Stp m B H B1 H1 → Args Rs vs B1 → (∀ p zs B2 H2, Stp m B1 H1 B2 H2 → H1 p = none → B2 p = none → H2 p = some (.lst zs) → DqAll B2 zs ds → Q (.ref p) H2) → r vs H1 Q) (hg : Gl X x := by rfl) (hn : x ≠ "__name__" := by decide) (hdb : (x == ("__debug__" : Str)) = false := by decide)
    (he : starEach (e :: es) X.env = (false, eval e X.env) :: starEach es X.env := by rfl) (hpl : (backTo pos (starEach es X.env)).any (·.1) = false := by rfl) : EvM m X (.Call (.Name x p1) (e :: es) [] pos) σ B H ds := fun B1 H1 s1 Q q =>
  wE.of (pe_callB hc hg hm hv pa_w hn hdb he hpl) (ha B1 H1 s1 _ fun vs B2 H2 s2 ra => hr vs B2 H2 Q (s1.trans s2) ra fun p zs B3 H3 s3 n1 n2 hz hd => q p zs B3 H3 (s2.trans s3) (s2.t p n1) n2 hz hd)
theorem em_ty {T : String} {r : List V → Hp → VK → Prop} (hc : CallR X (.type T) r) (hm : X.mg x = none) (hv : bootBuiltins x = some (.type T)) (ha : EvA m X (e :: es) σ B H Rs)
    (hr : ∀ vs B1 H1 (Q : VK), Stp m B H B1 H1 → Args Rs vs B1 → (∀ p zs B2 H2, Stp m B1 H1 B2 H2 → H1 p = none → B2 p = none → H2 p = some (.lst zs) → DqAll B2 zs ds → Q (.ref p) H2) → r vs H1 Q) (hg : Gl X x := by rfl) (hn : x ≠ "__name__" := by decide) (hdb : (x == ("__debug__" : Str)) = false := by decide)
    (he : starEach (e :: es) X.env = (false, eval e X.env) :: starEach es X.env := by rfl) (hpl : (backTo pos (starEach es X.env)).any (·.1) = false := by rfl) : EvM m X (.Call (.Name x p1) (e :: es) [] pos) σ B H ds := fun B1 H1 s1 Q q =>
  wE.of (pe_callTy hc hg hm hv pa_w hn hdb he hpl) (ha B1 H1 s1 _ fun vs B2 H2 s2 ra => hr vs B2 H2 Q (s1.trans s2) ra fun p zs B3 H3 s3 n1 n2 hz hd => q p zs B3 H3 (s2.trans s3) (s2.t p n1) n2 hz hd)

/-! ### statements -/
variable {rest sts sts2 : List Stmt} {D : Ends}
theorem ws_ret (S : Stp m B0 H0 B H) (a : Ev m X e σ B H R) (k : ∀ v B' H', Stp m B0 H0 B' H' → R v B' → D.rt v H') : wSs X (.Return (some e) pos :: rest) D σ H :=
  ws_cons (ps_ret pe_w) (a B H S.here _ fun v B2 H2 s r => k v B2 H2 (S.trans s) r)
theorem ws_retM (S : Stp m B0 H0 B H) (a : EvM m X e σ B H ds) (k : ∀ p zs B' H', Stp m B0 H0 B' H' → H0 p = none → B' p = none → H' p = some (.lst zs) → DqAll B' zs ds → D.rt (.ref p) H') : wSs X (.Return (some e) pos :: rest) D σ H :=
  ws_cons (ps_ret pe_w) (a B H S.here _ fun p zs B2 H2 s n1 n2 hz hd => k p zs B2 H2 (S.trans s) (S.t p n1) n2 hz hd)
theorem ws_set (S : Stp m B0 H0 B H) (E : Sl σ B Γ) (i : Nat) (a : Ev m X e σ B H R) [mr : Mn R] (k : ∀ v B' H', Stp m B H B' H' → Stp m B0 H0 B' H' → R v B' → Sl (σ.set i (some v)) B' (Γ.set i (some R)) → wSs X rest D (σ.set i (some v)) H')
    (hN : X.N.Nodup) (hi : X.N[i]? = some x := by rfl) (hx : Loc X.env.scope x := by first | exact Or.inl rfl | exact Or.inr rfl) (hs : swapsWith e (some (.Name x p1)) pos.line X.env = pure false := by rfl) (hf : X.fn x = true ∨ X.env.scope.names.lookup x = some .local := by first | exact .inl rfl | exact .inr rfl) :
    wSs X (.Assign [.Name x p1] e pos :: rest) D σ H :=
  ws_cons (ps_set hN hi hx pe_w hs hf) (a B H S.here _ fun v B2 H2 s r => k v B2 H2 s (S.trans s) r ((E.mono s.b).set r))
theorem ws_setM (S : Stp m B0 H0 B H) (E : Sl σ B Γ) (i : Nat) (a : EvM m X e σ B H ds) (k : ∀ p B' H', Stp m B H B' H' → Stp m B0 H0 B' H' → H p = none → H0 p = none → Mu m B' H' p ds → Sl (σ.set i (some (.ref p))) B' (Γ.set i (some (IsV (.ref p)))) → wSs X rest D (σ.set i (some (.ref p))) H')
    (hN : X.N.Nodup) (hi : X.N[i]? = some x := by rfl) (hx : Loc X.env.scope x := by first | exact Or.inl rfl | exact Or.inr rfl) (hs : swapsWith e (some (.Name x p1)) pos.line X.env = pure false := by rfl) (hf : X.fn x = true ∨ X.env.scope.names.lookup x = some .local := by first | exact .inl rfl | exact .inr rfl) :
    wSs X (.Assign [.Name x p1] e pos :: rest) D σ H :=
  ws_cons (ps_set hN hi hx pe_w hs hf) (a B H S.here _ fun p zs B2 H2 s n1 n2 hz hd => k p B2 H2 s (S.trans s) n1 (S.t p n1) ⟨S.p.ne n1, n2, zs, hz, hd⟩ ((E.mono s.b).set rfl))
/-- an expression whose value is dropped -/
theorem ws_expr (S : Stp m B0 H0 B H) (a : Ev m X e σ B H R) (k : ∀ B' H', Stp m B H B' H' → Stp m B0 H0 B' H' → wSs X rest D σ H') (hs : swapsWith e none pos.line X.env = pure false := by rfl) : wSs X (.Expr e pos :: rest) D σ H :=
  ws_cons (ps_expr pe_w hs) (a B H S.here _ fun v B2 H2 s r => k B2 H2 s (S.trans s))
theorem ws_if {kb : Bool} (S : Stp m B0 H0 B H) (t : EvT m X c σ B H kb) (h1 : kb = true → ∀ B' H', Stp m B H B' H' → Stp m B0 H0 B' H' → wSs X sts { D with nx := wSs X rest D } σ H')
    (h2 : kb = false → ∀ B' H', Stp m B H B' H' → Stp m B0 H0 B' H' → wSs X sts2 { D with nx := wSs X rest D } σ H') : wSs X (.If c sts sts2 pos :: rest) D σ H :=
  ws_cons (ps_if pt_w pss_w pss_w) (t B H S.here _ fun B2 H2 s => by
    cases kb with
    | true => exact h1 rfl B2 H2 s (S.trans s)
    | false => exact h2 rfl B2 H2 s (S.trans s))
/-- a branch that is not taken -/
theorem ws_ifF (S : Stp m B0 H0 B H) (t : EvT m X c σ B H false) (h2 : ∀ B' H', Stp m B H B' H' → Stp m B0 H0 B' H' → wSs X sts2 { D with nx := wSs X rest D } σ H') : wSs X (.If c sts sts2 pos :: rest) D σ H :=
  ws_if S t (fun z => nomatch z) fun _ => h2
/-- .. without else -/
theorem ws_no (S : Stp m B0 H0 B H) (t : EvT m X c σ B H false) (h2 : ∀ B' H', Stp m B H B' H' → Stp m B0 H0 B' H' → wSs X rest D σ H') : wSs X (.If c sts [] pos :: rest) D σ H :=
  ws_ifF S t fun B2 H2 s S2 => ws_nil (h2 B2 H2 s S2)
theorem ws_ifT (S : Stp m B0 H0 B H) (t : EvT m X c σ B H true) (h1 : ∀ B' H', Stp m B H B' H' → Stp m B0 H0 B' H' → wSs X sts { D with nx := wSs X rest D } σ H') : wSs X (.If c sts sts2 pos :: rest) D σ H :=
  ws_if S t (fun _ => h1) fun z => nomatch z
end
end K3
/-! TEXT K4f -/
set_option Elab.async false
set_option linter.all false
set_option maxRecDepth 100000
set_option maxHeartbeats 1000000
namespace K3
open PySem PySem.Spec L2

/-! ### slots forgotten and set again -/
theorem wipe_set {σ : L2.St} {i : Nat} {x : Option V} : ∀ {vs : List Nat}, i ∈ vs → wipe (σ.set i x) vs = wipe σ vs
  | [], h => by cases h
  | v :: vs, h => by
    show (wipe (σ.set i x) vs).set v none = (wipe σ vs).set v none
    by_cases hm : i ∈ vs
    · rw [wipe_set hm]
    · have e : i = v := by
        rcases List.mem_cons.mp h with e | e
        · exact e
        · exact absurd e hm
      subst e
      have key : ∀ (ws : List Nat) (τ : L2.St), i ∉ ws → wipe (τ.set i x) ws = (wipe τ ws).set i x := by
        intro ws
        induction ws with
        | nil => intro τ _; rfl
        | cons w ws ih =>
          intro τ hw
          show (wipe (τ.set i x) ws).set w none = ((wipe τ ws).set w none).set i x
          rw [ih τ fun z => hw (List.mem_cons_of_mem _ z), List.set_comm]
          exact fun z => hw (by rw [z]; exact List.mem_cons_self)
      rw [key vs σ hm, List.set_set]
theorem wipe_wipe {σ : L2.St} : ∀ {ws vs : List Nat}, (∀ i ∈ ws, i ∈ vs) → wipe (wipe σ ws) vs = wipe σ vs
  | [], _, _ => rfl
  | w :: ws, vs, h => by
    show wipe ((wipe σ ws).set w none) vs = _
    rw [wipe_set (h w List.mem_cons_self), wipe_wipe fun i hi => h i (List.mem_cons_of_mem _ hi)]

/-! ### targets -/
/-- the target g takes data e: the slots ixs are set, u says what is known then -/
def TgE (K : PySem.W.Frag) (g : TG) (e : PyData) (ixs : List Nat) (u : List (Option Rt) → List (Option Rt)) : Prop :=
  ∀ v σ B H Γ (Q : L2.St → Hp → Prop), Sl σ B Γ → Dq B v e → Same B H → (∀ σ', Sl σ' B (u Γ) → (∀ vs : List Nat, (∀ i ∈ ixs, i ∈ vs) → wipe σ' vs = wipe σ vs) → Q σ' H) → g v σ H Q
section
variable {K : PySem.W.Frag} {e e1 e2 e3 : PyData} {i j k : Nat}
theorem tg1 : TgE K (gName i) e [i] (fun Γ => Γ.set i (some (IsD e))) := fun v σ B H Γ Q E r s q => q _ (E.set (R := IsD e) r) fun vs h => wipe_set (h i List.mem_cons_self)
theorem tg2 : TgE K (gTup K 2 (gCons (gName i) (gCons (gName j) gNil))) (.tuple [e1, e2]) [i, j] (fun Γ => (Γ.set i (some (IsD e1))).set j (some (IsD e2))) := fun v σ B H Γ Q E r s q => by
  obtain ⟨a, xs, rfl, h1, h2⟩ := r.tup_ex
  cases h2 with
  | cons r1 h2 =>
    cases h2 with
    | cons r2 h2 =>
      cases h2
      refine ⟨a, _, rfl, SqT.of (s _ _ h1), rfl, _, _, rfl, _, _, rfl, rfl, q _ ((E.set (R := IsD e1) r1).set (R := IsD e2) r2) fun vs h => ?_⟩
      rw [wipe_set (h j (by simp)), wipe_set (h i (by simp))]
theorem tg3 : TgE K (gTup K 3 (gCons (gName i) (gCons (gName j) (gCons (gName k) gNil)))) (.tuple [e1, e2, e3]) [i, j, k] (fun Γ => ((Γ.set i (some (IsD e1))).set j (some (IsD e2))).set k (some (IsD e3))) := fun v σ B H Γ Q E r s q => by
  obtain ⟨a, xs, rfl, h1, h2⟩ := r.tup_ex
  cases h2 with
  | cons r1 h2 =>
    cases h2 with
    | cons r2 h2 =>
      cases h2 with
      | cons r3 h2 =>
        cases h2
        refine ⟨a, _, rfl, SqT.of (s _ _ h1), rfl, _, _, rfl, _, _, rfl, _, _, rfl, rfl, q _ (((E.set (R := IsD e1) r1).set (R := IsD e2) r2).set (R := IsD e3) r3) fun vs h => ?_⟩
        rw [wipe_set (h k (by simp)), wipe_set (h j (by simp)), wipe_set (h i (by simp))]
end

/-! ### what is walked -/
def JOk (m : Option Addr) (J : It) (B2 : Hp) (ds : List PyData) : Prop :=
  (∀ i H, Same B2 H → i < ds.length → J.go i H) ∧ (∀ i H, Same B2 H → ds.length ≤ i → J.stop i H) ∧
    ∀ i d B H x H', ds[i]? = some d → Same B2 B → Same B H → PotOk m B H → J.yld i H x H' → ∃ B', Stp m B H B' H' ∧ Dq B' x d
structure Wk (m : Option Addr) (X : Cx) (tg iter : Expr) (σ : L2.St) (B H : Hp) (ds : List PyData) : Prop where
  ex : ∃ wi, PI X tg iter wi ∧ ∀ B1 H1, Stp m B H B1 H1 → ∀ R : It → Hp → Prop, (∀ J B2 H2, Stp m B1 H1 B2 H2 → JOk m J B2 ds → R J H2) → wi σ H1 R
section
variable {m : Option Addr} {X : Cx} {tg e a b c : Expr} {es : List Expr} {σ : L2.St} {B H B' H' B0 H0 : Hp} {R R1 R2 : Rt} {Rs : List Rt} {pos p1 p2 tpos : Pos} {Γ : List (Option Rt)} {d : PyData} {ds : List PyData} {kk : Nat} {elts : List Expr}
theorem wk_list (h : Ev m X e σ B H (IsD (.list ds))) : Wk m X tg e σ B H ds :=
  ⟨_, pi_list pe_w, fun B1 H1 s1 R q => h B1 H1 s1 _ fun v B2 H2 s2 r => by
    obtain ⟨a, xs, rfl, h1, h2⟩ := r.lst_ex
    have hl := h2.len
    refine ⟨a, rfl, ⟨xs, SqL.of (s2.s _ _ h1)⟩, q _ B2 H2 s2 ⟨fun i H s hi => ?_, fun i H s hi => ⟨xs, SqL.of (s _ _ h1), by omega⟩, fun i d B H x H' hd s s' hp y => ?_⟩⟩
    · exact ⟨xs, xs[i]'(by omega), SqL.of (s _ _ h1), List.getElem?_eq_getElem (by omega)⟩
    · obtain ⟨e, y⟩ := y
      subst e
      have hx := y xs (SqL.of (s' _ _ (s _ _ h1)))
      obtain ⟨d', e1, e2⟩ := (h2.mono s).get hx
      rw [hd] at e1; cases e1
      exact ⟨B, Stp.refl s' hp, e2⟩⟩
theorem wk_tup (h : Ev m X e σ B H (IsD (.tuple ds))) : Wk m X tg e σ B H ds :=
  ⟨_, pi_tup pe_w, fun B1 H1 s1 R q => h B1 H1 s1 _ fun v B2 H2 s2 r => by
    obtain ⟨a, xs, rfl, h1, h2⟩ := r.tup_ex
    have hl := h2.len
    refine ⟨a, rfl, ⟨xs, SqT.of (s2.s _ _ h1)⟩, q _ B2 H2 s2 ⟨fun i H s hi => ?_, fun i H s hi => ⟨xs, SqT.of (s _ _ h1), by omega⟩, fun i d B H x H' hd s s' hp y => ?_⟩⟩
    · exact ⟨xs, xs[i]'(by omega), SqT.of (s _ _ h1), List.getElem?_eq_getElem (by omega)⟩
    · obtain ⟨e, y⟩ := y
      subst e
      have hx := y xs (SqT.of (s' _ _ (s _ _ h1)))
      obtain ⟨d', e1, e2⟩ := (h2.mono s).get hx
      rw [hd] at e1; cases e1
      exact ⟨B, Stp.refl s' hp, e2⟩⟩
def rngD (n : Nat) : List PyData := (List.range n).map fun (i : Nat) => PyData.int (i : Int)
theorem rngD_at {n i : Nat} {d : PyData} (h : (rngD n)[i]? = some d) : i < n ∧ d = .int (i : Int) := by
  unfold rngD at h
  rw [List.getElem?_map] at h
  by_cases hi : i < n
  · rw [List.getElem?_eq_getElem (by simpa using hi)] at h
    simp only [List.getElem_range, Option.map_some, Option.some.injEq] at h
    exact ⟨hi, h.symm⟩
  · rw [List.getElem?_eq_none (by simpa using hi)] at h; cases h
theorem wk_range {n : Int} (hm : X.mg "range" = none) (h : Ev m X e σ B H (IsD (.int n))) (h1 : -(2 ^ 62) ≤ n) (h2 : n < 2 ^ 62) (hg : Gl X "range" := by rfl) (hs : starEach [e] X.env = [(false, eval e X.env)] := by rfl) : Wk m X tg (.Call (.Name "range" p1) [e] [] pos) σ B H (rngD n.toNat) :=
  ⟨_, pi_range1 hg hm pa_w hs, fun B1 H1 s1 R q => (ea1 h hs) B1 H1 s1 _ fun vs B2 H2 s2 r => by
    obtain ⟨v, rfl⟩ : ∃ v, vs = [v] := by
      cases vs with
      | nil => exact r.elim
      | cons v vs => cases vs with
        | nil => exact ⟨v, rfl⟩
        | cons _ _ => exact r.2.elim
    cases Dq.int_eq r.1
    refine ⟨n, rfl, h1, h2, q _ B2 H2 s2 ⟨fun i H s hi => ?_, fun i H s hi => ?_, fun i d B H x H' hd s s' hp y => ?_⟩⟩
    · unfold rngD at hi
      show i < n.toNat
      simpa using hi
    · unfold rngD at hi
      show n.toNat ≤ i
      simpa using hi
    · obtain ⟨e, y⟩ := y
      subst e
      obtain ⟨_, rfl⟩ := rngD_at hd
      refine ⟨B, Stp.refl s' hp, ?_⟩
      rw [y, Int.zero_add]
      exact .int _⟩
/-- .. of a list that may change, while nothing of one's own is changed -/
def JOkS (m : Option Addr) (B H : Hp) (J : It) (B2 : Hp) (ds : List PyData) : Prop :=
  (∀ i B1 H1, Stp m B H B1 H1 → Same B2 B1 → i < ds.length → J.go i H1) ∧ (∀ i B1 H1, Stp m B H B1 H1 → Same B2 B1 → ds.length ≤ i → J.stop i H1) ∧
    ∀ i d B1 H1 x H', ds[i]? = some d → Stp m B H B1 H1 → Same B2 B1 → J.yld i H1 x H' → ∃ B', Stp m B1 H1 B' H' ∧ Dq B' x d
structure WkS (m : Option Addr) (X : Cx) (tg iter : Expr) (σ : L2.St) (B H : Hp) (ds : List PyData) : Prop where
  ex : ∃ wi, PI X tg iter wi ∧ ∀ B1 H1, Stp m B H B1 H1 → ∀ R : It → Hp → Prop, (∀ J B2 H2, Stp m B1 H1 B2 H2 → JOkS m B H J B2 ds → R J H2) → wi σ H1 R
theorem Wk.s (W : Wk m X tg e σ B H ds) : WkS m X tg e σ B H ds := by
  obtain ⟨wi, h1, h2⟩ := W.ex
  exact ⟨wi, h1, fun B1 H1 s1 R q => h2 B1 H1 s1 R fun J B2 H2 s2 ⟨j1, j2, j3⟩ => q J B2 H2 s2 ⟨fun i B3 H3 s3 sb hi => j1 i H3 (sb.trans s3.s) hi, fun i B3 H3 s3 sb hi => j2 i H3 (sb.trans s3.s) hi, fun i d B3 H3 x H' hd s3 sb y => j3 i d B3 H3 x H' hd sb s3.s s3.p y⟩⟩
theorem wk_listM {p : Addr} (M : Mu m B H p ds) (h : Ev m X e σ B H (IsV (.ref p))) : WkS m X tg e σ B H ds := by
  obtain ⟨zs, hz, hd⟩ := M.ex
  have hl := hd.len
  have st : ∀ {B1 H1}, Stp m B H B1 H1 → H1 p = some (.lst zs) := fun s => s.h _ _ M.ne hz
  refine ⟨_, pi_list pe_w, fun B1 H1 s1 R q => h B1 H1 s1 _ fun v B2 H2 s2 r => ?_⟩
  obtain rfl : v = .ref p := r
  refine ⟨p, rfl, ⟨zs, SqL.of (st (s1.trans s2))⟩, q _ B2 H2 s2 ⟨fun i B3 H3 s3 sb hi => ?_, fun i B3 H3 s3 sb hi => ⟨zs, SqL.of (st s3), by omega⟩, fun i d B3 H3 x H' he s3 sb y => ?_⟩⟩
  · exact ⟨zs, zs[i]'(by omega), SqL.of (st s3), List.getElem?_eq_getElem (by omega)⟩
  · obtain ⟨e, y⟩ := y
    subst e
    have hx := y zs (SqL.of (st s3))
    obtain ⟨d', e1, e2⟩ := (hd.mono s3.b).get hx
    rw [he] at e1; cases e1
    exact ⟨B3, s3.here, e2⟩
def enumD (ds : List PyData) : List PyData := ds.mapIdx fun i d => .tuple [.int (i : Int), d]
theorem args1 {vs : List V} {B : Hp} (r : Args [R] vs B) : ∃ v, vs = [v] ∧ R v B := by
  cases vs with
  | nil => exact r.elim
  | cons v vs => cases vs with
    | nil => exact ⟨v, rfl, r.1⟩
    | cons _ _ => exact r.2.elim
theorem args2 {vs : List V} {B : Hp} (r : Args [R, R1] vs B) : ∃ v u, vs = [v, u] ∧ R v B ∧ R1 u B := by
  cases vs with
  | nil => exact r.elim
  | cons v vs => cases vs with
    | nil => exact r.2.elim
    | cons u vs => cases vs with
      | nil => exact ⟨v, u, rfl, r.1, r.2.1⟩
      | cons _ _ => exact r.2.2.elim
theorem wk_enum (hm : X.mg "enumerate" = none) (h : Ev m X e σ B H (IsD (.list ds))) (hg : Gl X "enumerate" := by rfl) (hs : starEach [e] X.env = [(false, eval e X.env)] := by rfl) : Wk m X (.Tuple elts kk tpos) (.Call (.Name "enumerate" p1) [e] [] pos) σ B H (enumD ds) :=
  ⟨_, pi_enum hg hm pa_w hs, fun B1 H1 s1 R q => (ea1 h hs) B1 H1 s1 _ fun vs B2 H2 s2 r => by
    obtain ⟨v, rfl, r5⟩ := args1 r
    obtain ⟨a, xs, rfl, h1, h2⟩ := Dq.lst_ex r5
    have hl := h2.len
    have hlen : (enumD ds).length = ds.length := by unfold enumD; simp
    refine ⟨a, xs, rfl, SqL.of (s2.s _ _ h1), q _ B2 H2 s2 ⟨fun i H s hi => ?_, fun i H s hi => ⟨xs, SqL.of (s _ _ h1), by omega⟩, fun i d B H x H' hd s s' hp y => ?_⟩⟩
    · exact ⟨xs, xs[i]'(by omega), SqL.of (s _ _ h1), List.getElem?_eq_getElem (by omega)⟩
    · obtain ⟨T, y0, rfl, hT, rfl, y⟩ := y
      have hx := y xs (SqL.of (s' _ _ (s _ _ h1)))
      obtain ⟨d', e1, e2⟩ := (h2.mono s).get hx
      have ed : d = .tuple [.int (i : Int), d'] := by
        unfold enumD at hd
        rw [List.getElem?_mapIdx, e1] at hd
        exact (Option.some.inj hd).symm
      subst ed
      exact ⟨_, (Stp.refl s' hp).new hT, .tup upd_same (.cons (.int _) (.cons (e2.mono (same_upd (s'.free hT))) .nil))⟩⟩
/-- zip of two tuples, walked by the shorter one -/
def zipD (ds es : List PyData) : List PyData := (ds.zip es).map fun p => .tuple [p.1, p.2]
theorem wk_zipT {ds es : List PyData} (hm : X.mg "zip" = none) (ha : Ev m X a σ B H (IsD (.tuple ds))) (hb : Ev m X b σ B H (IsD (.tuple es))) (hg : Gl X "zip" := by rfl) (hs : starEach [a, b] X.env = (false, eval a X.env) :: starEach [b] X.env := by rfl) (hs2 : starEach [b] X.env = (false, eval b X.env) :: starEach [] X.env := by rfl) (hpl : (backTo pos (starEach [b] X.env)).any (·.1) = false := by rfl) :
    Wk m X (.Tuple elts kk tpos) (.Call (.Name "zip" p1) [a, b] [] pos) σ B H (zipD ds es) :=
  ⟨_, RZ.pi_zipA hg hm pa_w hs hpl, fun B1 H1 s1 R q => (ea2 ha hb hs hs2) B1 H1 s1 _ fun vs B2 H2 s2 r => by
    obtain ⟨v, u, rfl, r, r'⟩ := args2 r
    obtain ⟨a, xs, rfl, h1, h2⟩ := Dq.tup_ex r
    obtain ⟨b, ys, rfl, h3, h4⟩ := Dq.tup_ex r'
    have hl := h2.len
    have hl' := h4.len
    have hlen : (zipD ds es).length = min ds.length es.length := by unfold zipD; simp
    refine ⟨a, b, xs, ys, rfl, .inr ⟨SqT.of (s2.s _ _ h1), SqT.of (s2.s _ _ h3), q _ B2 H2 s2 ⟨fun i H s hi => ?_, fun i H s hi => ⟨xs, ys, SqT.of (s _ _ h1), SqT.of (s _ _ h3), by omega⟩, fun i d B H x H' hd s s' hp y => ?_⟩⟩⟩
    · exact ⟨xs, ys, xs[i]'(by omega), ys[i]'(by omega), SqT.of (s _ _ h1), SqT.of (s _ _ h3), List.getElem?_eq_getElem (by omega), List.getElem?_eq_getElem (by omega)⟩
    · obtain ⟨T, x0, y0, rfl, hT, rfl, y1, y2⟩ := y
      obtain ⟨d1, e1, e2⟩ := (h2.mono s).get (y1 xs (SqT.of (s' _ _ (s _ _ h1))))
      obtain ⟨d2, e3, e4⟩ := (h4.mono s).get (y2 ys (SqT.of (s' _ _ (s _ _ h3))))
      have ed : d = .tuple [d1, d2] := by
        unfold zipD at hd
        rw [List.getElem?_map, show (ds.zip es)[i]? = some (d1, d2) from List.getElem?_zip_eq_some.mpr ⟨e1, e3⟩] at hd
        exact (Option.some.inj hd).symm
      subst ed
      have n := (s'.free hT)
      exact ⟨_, (Stp.refl s' hp).new hT, .tup upd_same (.cons (e2.mono (same_upd n)) (.cons (e4.mono (same_upd n)) .nil))⟩⟩
end

/-! ### for -/
section
variable {m : Option Addr} {X : Cx} {tg iter : Expr} {σ : L2.St} {B H B0 H0 : Hp} {pos : Pos} {Γ : List (Option Rt)} {body rest : List Stmt} {D : Ends} {α : Type} {xs : List α} {enc : α → PyData} {g : TG} {ixs : List Nat} {u : α → List (Option Rt) → List (Option Rt)}
theorem ws_for (S : Stp m B0 H0 B H) (W : Wk m X tg iter σ B H (xs.map enc)) (hg : PG X tg g) (T : ∀ x, x ∈ xs → TgE X.K g (enc x) ixs (u x)) (hc : X.calm = true) (hpass : PassesOwn (model X.prog X.w) X.A X.env X.xe)
    (Γl : Nat → List (Option Rt)) (J : Nat → Hp → Hp → Prop) (hJ : ∀ i B H B' H', Stp m B H B' H' → J i B H → J i B' H')
    (h0 : ∀ B1 H1, Stp m B H B1 H1 → Stp m B0 H0 B1 H1 → Sl σ B1 (Γl 0) ∧ J 0 B1 H1)
    (hs : ∀ i x σ1 B1 H1, xs[i]? = some x → Stp m B0 H0 B1 H1 → Same B B1 → Sl σ1 B1 (u x (Γl i)) → J i B1 H1 →
      wSs X body { nx := fun σ2 H2 => ∃ B2, Same B1 B2 ∧ Stp m B0 H0 B2 H2 ∧ Sl σ2 B2 (Γl (i + 1)) ∧ J (i + 1) B2 H2, ct := fun σ2 H2 => ∃ B2, Same B1 B2 ∧ Stp m B0 H0 B2 H2 ∧ Sl σ2 B2 (Γl (i + 1)) ∧ J (i + 1) B2 H2, rt := D.rt, bk := wSs X rest D } σ1 H1)
    (hd : ∀ σ1 B1 H1, Stp m B0 H0 B1 H1 → Same B B1 → Sl σ1 B1 (Γl xs.length) → J xs.length B1 H1 → wSs X rest D σ1 H1)
    (hf : ∀ x, foldedSetIterable iter X.env x = pure x := by intro _; rfl) : wSs X (.For tg iter body [] pos :: rest) D σ H := by
  obtain ⟨wi, hi, hw⟩ := W.ex
  refine ws_cons (ps_for hpass hc hi hg pss_w hf) (hw B H S.here _ fun J' B2 H2 s2 jo => ?_)
  obtain ⟨j1, j2, j3⟩ := jo
  have hlen : (xs.map enc).length = xs.length := List.length_map ..
  refine ⟨fun i n σ1 H1 => n = xs.length - i ∧ i ≤ xs.length ∧ ∃ B1, Same B2 B1 ∧ Stp m B0 H0 B1 H1 ∧ Sl σ1 B1 (Γl i) ∧ J i B1 H1, ⟨xs.length, by simp, Nat.zero_le _, B2, Same.refl _, S.trans s2, h0 B2 H2 s2 (S.trans s2)⟩, ?_⟩
  rintro i n σ1 H1 ⟨rfl, hi, B1, sb, S1, E1, jj⟩
  by_cases hlt : i < xs.length
  · refine .inr ⟨j1 i H1 (sb.trans S1.s) (by rw [hlen]; exact hlt), fun σ2 H2 => ∃ B3, Same B1 B3 ∧ Stp m B0 H0 B3 H2 ∧ Sl σ2 B3 (Γl (i + 1)) ∧ J (i + 1) B3 H2, fun σ2 H2 ⟨B3, s3, S3, E3, j3⟩ => ⟨xs.length - (i + 1), by omega, rfl, hlt, B3, sb.trans s3, S3, E3, j3⟩, fun x H' y => ?_⟩
    have hx : (xs.map enc)[i]? = some (enc xs[i]) := by rw [List.getElem?_map, List.getElem?_eq_getElem hlt] <;> rfl
    obtain ⟨B4, s4, r4⟩ := j3 i _ B1 H1 x H' hx sb S1.s S1.p y
    refine T _ (List.getElem_mem hlt) x σ1 B4 H' (Γl i) _ (E1.mono s4.b) r4 s4.s fun σ' E' _ => ?_
    refine ws_mono (hs i xs[i] σ' B4 H' (List.getElem?_eq_getElem hlt) (S1.trans s4) (s2.b.trans (sb.trans s4.b)) E' (hJ i _ _ _ _ s4 jj)) ?_ ?_
    · exact fun σ2 H2 ⟨B3, s3, q⟩ => ⟨B3, s4.b.trans s3, q⟩
    · exact fun σ2 H2 ⟨B3, s3, q⟩ => ⟨B3, s4.b.trans s3, q⟩
  · have e : i = xs.length := by omega
    subst e
    exact .inl ⟨j2 _ H1 (sb.trans S1.s) (by rw [hlen]; exact Nat.le_refl _), hd σ1 B1 H1 S1 (s2.b.trans sb) E1 jj⟩
end
end K3
/-! TEXT K5f -/
set_option Elab.async false
set_option linter.all false
set_option maxRecDepth 100000
set_option maxHeartbeats 1000000
namespace K3
open PySem PySem.Spec L2

theorem JOkS.at {m : Option Addr} {B H B1 H1 : Hp} {J : It} {B2 : Hp} {ds : List PyData} (s1 : Stp m B H B1 H1) (j : JOkS m B H J B2 ds) : JOkS m B1 H1 J B2 ds :=
  ⟨fun i B3 H3 s3 => j.1 i B3 H3 (s1.trans s3), fun i B3 H3 s3 => j.2.1 i B3 H3 (s1.trans s3), fun i d B3 H3 x H' hd s3 => j.2.2 i d B3 H3 x H' hd (s1.trans s3)⟩
/-! ### comprehensions -/
/-- a clause's tests: none, or one -/
inductive Ifs : List Expr → Option Expr → Prop
  | nil : Ifs [] none
  | one {c : Expr} : Ifs [c] (some c)
section
variable {m : Option Addr} {X : Cx} {tg iter elt c : Expr} {σ : L2.St} {B H B0 H0 : Hp} {pos : Pos} {Γ : List (Option Rt)} {α : Type} {xs : List α} {enc f : α → PyData} {p : α → Bool} {g : TG} {ixs : List Nat} {u : α → List (Option Rt) → List (Option Rt)} {scope : Scope} {own : List (Str × Nat)}
/-- the block's context -/
abbrev bX (X : Cx) (scope : Scope) (s : Shared) (H : Hp) (C : Addr) (cl : List (Str × Addr)) (fp : List Addr) : Cx := X.blk s H scope (compEnvC scope cl C X.env) fp
theorem lc_run {ifs : List Expr} (S : Stp m B0 H0 B H) (E : Sl σ B Γ) (W : WkS m X tg iter σ B H (xs.map enc)) (T : ∀ x, x ∈ xs → TgE X.K g (enc x) ixs (u x)) (hix : ∀ i ∈ ixs, i ∈ own.map (·.2)) (hz : xs.length ≤ 100000)
    {tt : TT} {te : TE} (ht : ∀ x σ1 B1 H1, x ∈ xs → Stp m B H B1 H1 → Sl σ1 B1 (u x (wipeG Γ (own.map (·.2)))) → ∀ Q : Bool → Hp → Prop, (∀ B2 H2, Stp m B1 H1 B2 H2 → Q (p x) H2) → tt σ1 H1 Q)
    (he : ∀ x σ1 B1 H1, x ∈ xs → p x = true → Stp m B H B1 H1 → Sl σ1 B1 (u x (wipeG Γ (own.map (·.2)))) → ∀ Q : VK, (∀ v B2 H2, Stp m B1 H1 B2 H2 → IsD (f x) v B2 → Q v H2) → te σ1 H1 Q)
    {wi : TI} (hw : ∀ B1 H1, Stp m B H B1 H1 → ∀ R : It → Hp → Prop, (∀ J B2 H2, Stp m B1 H1 B2 H2 → JOkS m B H J B2 (xs.map enc) → R J H2) → wi σ H1 R) {Q : VK}
    (q : ∀ D zs B2 H2, Stp m B H B2 H2 → H D = none → B2 D = none → H2 D = some (.lst zs) → DqAll B2 zs ((xs.filter p).map f) → Q (.ref D) H2) : tLc wi g tt te (own.map (·.2)) σ H Q := by
  refine hw B H S.here _ fun J B2 H2 s2 jo D hD => ?_
  obtain ⟨j1, j2, j3⟩ := jo
  have hlen : (xs.map enc).length = xs.length := List.length_map ..
  have hDn : H D = none := s2.t D hD
  -- the invariant
  let Pv : Nat → Hp → Prop := fun i H' => ∃ B' zs, Stp m B H B' H' ∧ Same B2 B' ∧ B' D = none ∧ H' D = some (.lst zs) ∧ DqAll B' zs (((xs.take i).filter p).map f)
  refine ⟨fun i n H' => n = xs.length - i ∧ i ≤ xs.length ∧ Pv i H', ⟨xs.length, by simp, Nat.zero_le _, B2, [], s2.mnew hD, Same.refl _, s2.s.free hD, upd_same, .nil⟩, ?_⟩
  rintro i n H1 ⟨rfl, hi, B1, zs, s1, sb, n1, hz1, hd1⟩
  by_cases hlt : i < xs.length
  · refine .inr ⟨j1 i B1 H1 s1 sb (by rw [hlen]; exact hlt), Pv (i + 1), fun H' p' => ⟨xs.length - (i + 1), by omega, rfl, hlt, p'⟩, fun x H' y => ?_⟩
    have hx : (xs.map enc)[i]? = some (enc xs[i]) := by rw [List.getElem?_map, List.getElem?_eq_getElem hlt] <;> rfl
    have hmem : xs[i] ∈ xs := List.getElem_mem hlt
    have htk : xs.take (i + 1) = xs.take i ++ [xs[i]] := by rw [List.take_succ, List.getElem?_eq_getElem hlt] <;> rfl
    obtain ⟨B3, s3, r3⟩ := j3 i _ B1 H1 x H' hx s1 sb y
    have E3 : Sl (wipe σ (own.map (·.2))) B3 (wipeG Γ (own.map (·.2))) := (E.mono (s1.trans s3).b).wipe _
    refine T _ hmem x _ B3 H' _ _ E3 r3 s3.s fun σ' E' hw' => ⟨?_, ?_⟩
    · rw [hw' _ hix, wipe_wipe fun _ h => h]
    · refine ht xs[i] σ' B3 H' hmem (s1.trans s3) E' _ fun B4 H4 s4 => ?_
      have hD4 : H4 D = some (.lst zs) := s4.h _ _ (s2.p.ne hD) (s3.h _ _ (s2.p.ne hD) hz1)
      have n4 : B4 D = none := s4.f _ _ (s3.h _ _ (s2.p.ne hD) hz1) (s3.f _ _ hz1 n1)
      cases hp : p xs[i] with
      | false =>
        refine iteF ⟨B4, zs, (s1.trans s3).trans s4, sb.trans (s3.trans s4).b, n4, hD4, ?_⟩
        rw [htk, List.filter_append, List.filter_cons_of_neg (by rw [hp]; exact Bool.false_ne_true), List.filter_nil, List.append_nil]
        exact hd1.mono (s3.trans s4).b
      | true =>
        refine iteT (he xs[i] σ' B4 H4 hmem hp ((s1.trans s3).trans s4) (E'.mono s4.b) _ fun v B5 H5 s5 r5 => ?_)
        have hD5 : H5 D = some (.lst zs) := s5.h _ _ (s2.p.ne hD) hD4
        have n5 : B5 D = none := s5.f _ _ hD4 n4
        have hle : zs.length < sizeLine := by
          have e := hd1.len
          rw [List.length_map] at e
          have e2 := List.length_filter_le p (xs.take i)
          have e3 := List.length_take_le i xs
          exact Nat.lt_of_le_of_lt (show zs.length ≤ 100000 by omega) (by decide)
        refine ⟨zs, hD5, hle, B5, zs ++ [v], (((s1.trans s3).trans s4).trans s5).mut hDn n5 (s2.p.ne hD), sb.trans ((s3.trans s4).trans s5).b, n5, upd_same, ?_⟩
        rw [htk, List.filter_append, List.filter_cons_of_pos (by rw [hp]), List.filter_nil, List.map_append]
        exact (hd1.mono ((s3.trans s4).trans s5).b).app (.one r5)
  · have e : i = xs.length := by omega
    subst e
    rw [List.take_length] at hd1
    exact .inl ⟨j2 _ B1 H1 s1 sb (by rw [hlen]; exact Nat.le_refl _), q D zs B1 H1 s1 hDn n1 hz1 hd1⟩

theorem em_lc (E : Sl σ B Γ) (W : WkS m X tg iter σ B H (xs.map enc)) (hc : X.calm = true) (hN : X.N.Nodup) (ok : BlkOk X.N X.env.scope scope own)
    (hg : ∀ (s : Shared) (H : Hp) (C : Addr) (cl : List (Str × Addr)) (fp : List Addr), PG (bX X scope s H C cl fp) tg g) (T : ∀ x, x ∈ xs → TgE X.K g (enc x) ixs (u x))
    (he : ∀ s0 H0 C cl fp x σ1 B1 H1, x ∈ xs → Stp m B H B1 H1 → Sl σ1 B1 (u x (wipeG Γ (own.map (·.2)))) → Ev m (bX X scope s0 H0 C cl fp) elt σ1 B1 H1 (IsD (f x)))
    (hz : xs.length ≤ 100000) (hix : ∀ i ∈ ixs, i ∈ own.map (·.2) := by decide) (hs : ∀ x, foldedSetIterable iter X.env x = pure x := by intro _; rfl) : EvM m X (.ListComp elt [⟨tg, iter, [], 0⟩] scope pos) σ B H (xs.map f) := fun B1 H1 s1 Q q => by
  obtain ⟨wi, hi, hw⟩ := W.ex
  refine wE.of (pe_lc (te := fun σ H Q => ∀ s0 H0 C cl fp, wE (bX X scope s0 H0 C cl fp) elt σ H Q) hc hN hi ok hg (fun _ _ _ _ _ => pts_nil) (fun s0 H0 C cl fp => ⟨fun pins s σ H Q I h => h s0 H0 C cl fp pins s I⟩) hs) ?_
  refine lc_run (p := fun _ => true) (f := f) (ifs := []) s1 (E.mono s1.b) ⟨⟨wi, hi, fun B2 H2 s2 R q => hw B2 H2 (s1.trans s2) R fun J B3 H3 s3 jo => q J B3 H3 s3 (jo.at s1)⟩⟩ T hix hz (fun x σ1 B2 H2 _ s2 _ Q q => q B2 H2 s2.here) (fun x σ1 B2 H2 hx _ s2 E2 Q q s0 H0 C cl fp => ?_) (fun B2 H2 s2 R q => hw B2 H2 (s1.trans s2) R fun J B3 H3 s3 jo => q J B3 H3 s3 (jo.at s1)) fun D zs B2 H2 s2 n1 n2 hz hd => ?_
  · exact he s0 H0 C cl fp x σ1 B2 H2 hx (s1.trans s2) E2 B2 H2 s2.here Q q
  · have e : xs.filter (fun _ => true) = xs := List.filter_eq_self.mpr fun _ _ => rfl
    rw [e] at hd
    exact q D zs B2 H2 s2 n1 n2 hz hd
theorem em_lcF (E : Sl σ B Γ) (W : WkS m X tg iter σ B H (xs.map enc)) (hc : X.calm = true) (hN : X.N.Nodup) (ok : BlkOk X.N X.env.scope scope own)
    (hg : ∀ (s : Shared) (H : Hp) (C : Addr) (cl : List (Str × Addr)) (fp : List Addr), PG (bX X scope s H C cl fp) tg g) (T : ∀ x, x ∈ xs → TgE X.K g (enc x) ixs (u x))
    (ht : ∀ s0 H0 C cl fp x σ1 B1 H1, x ∈ xs → Stp m B H B1 H1 → Sl σ1 B1 (u x (wipeG Γ (own.map (·.2)))) → EvT m (bX X scope s0 H0 C cl fp) c σ1 B1 H1 (p x))
    (he : ∀ s0 H0 C cl fp x σ1 B1 H1, x ∈ xs → p x = true → Stp m B H B1 H1 → Sl σ1 B1 (u x (wipeG Γ (own.map (·.2)))) → Ev m (bX X scope s0 H0 C cl fp) elt σ1 B1 H1 (IsD (f x)))
    (hz : xs.length ≤ 100000) (hix : ∀ i ∈ ixs, i ∈ own.map (·.2) := by decide) (hs : ∀ x, foldedSetIterable iter X.env x = pure x := by intro _; rfl) : EvM m X (.ListComp elt [⟨tg, iter, [c], 0⟩] scope pos) σ B H ((xs.filter p).map f) := fun B1 H1 s1 Q q => by
  obtain ⟨wi, hi, hw⟩ := W.ex
  refine wE.of (pe_lc (te := fun σ H Q => ∀ s0 H0 C cl fp, wE (bX X scope s0 H0 C cl fp) elt σ H Q) (tt := fun σ H Q => ∀ s0 H0 C cl fp, wT (bX X scope s0 H0 C cl fp) c σ H Q) hc hN hi ok hg (fun s0 H0 C cl fp => pts_one ⟨fun pins s σ H Q I h => h s0 H0 C cl fp pins s I⟩) (fun s0 H0 C cl fp => ⟨fun pins s σ H Q I h => h s0 H0 C cl fp pins s I⟩) hs) ?_
  refine lc_run (p := p) (f := f) (ifs := []) s1 (E.mono s1.b) ⟨⟨wi, hi, fun B2 H2 s2 R q => hw B2 H2 (s1.trans s2) R fun J B3 H3 s3 jo => q J B3 H3 s3 (jo.at s1)⟩⟩ T hix hz (fun x σ1 B2 H2 hx s2 E2 Q q s0 H0 C cl fp => ?_) (fun x σ1 B2 H2 hx hp s2 E2 Q q s0 H0 C cl fp => ?_) (fun B2 H2 s2 R q => hw B2 H2 (s1.trans s2) R fun J B3 H3 s3 jo => q J B3 H3 s3 (jo.at s1)) q
  · exact ht s0 H0 C cl fp x σ1 B2 H2 hx (s1.trans s2) E2 B2 H2 s2.here Q q
  · exact he s0 H0 C cl fp x σ1 B2 H2 hx hp (s1.trans s2) E2 B2 H2 s2.here Q q
/-! y = [..] on a line of its own -/
variable {D : Ends} {rest : List Stmt} {x : Str} {p1 spos : Pos}
theorem ws_lc (S : Stp m B0 H0 B H) (E : Sl σ B Γ) (i : Nat) (W : WkS m X tg iter σ B H (xs.map enc)) (hc : X.calm = true) (hN : X.N.Nodup) (ok : BlkOk X.N X.env.scope scope own)
    (hg : ∀ (s : Shared) (H : Hp) (C : Addr) (cl : List (Str × Addr)) (fp : List Addr), PG (bX X scope s H C cl fp) tg g) (T : ∀ x, x ∈ xs → TgE X.K g (enc x) ixs (u x))
    (he : ∀ s0 H0 C cl fp x σ1 B1 H1, x ∈ xs → Stp m B H B1 H1 → Sl σ1 B1 (u x (wipeG Γ (own.map (·.2)))) → Ev m (bX X scope s0 H0 C cl fp) elt σ1 B1 H1 (IsD (f x)))
    (hz : xs.length ≤ 100000) (k : ∀ p B' H', Stp m B H B' H' → Stp m B0 H0 B' H' → H p = none → H0 p = none → Mu m B' H' p (xs.map f) → Sl (σ.set i (some (.ref p))) B' (Γ.set i (some (IsV (.ref p)))) → wSs X rest D (σ.set i (some (.ref p))) H')
    (hy : X.N[i]? = some x := by rfl) (hyl : X.env.scope.names.lookup x = some .local := by rfl) (hsw : swapsWith (.ListComp elt [⟨tg, iter, [], 0⟩] scope pos) (some (.Name x p1)) spos.line X.env = pure true := by exact sw_true rfl rfl rfl (by decide +kernel))
    (hix : ∀ i ∈ ixs, i ∈ own.map (·.2) := by decide) (hs : ∀ x, foldedSetIterable iter X.env x = pure x := by intro _; rfl) : wSs X (.Assign [.Name x p1] (.ListComp elt [⟨tg, iter, [], 0⟩] scope pos) spos :: rest) D σ H := by
  obtain ⟨wi, hi, hw⟩ := W.ex
  refine ws_cons (ps_setLc (te := fun σ H Q => ∀ s0 H0 C cl fp, wE (bX X scope s0 H0 C cl fp) elt σ H Q) hc hN hy hyl hsw hi ok hg (fun _ _ _ _ _ => pts_nil) (fun s0 H0 C cl fp => ⟨fun pins s σ H Q I h => h s0 H0 C cl fp pins s I⟩) hs) ?_
  refine lc_run (p := fun _ => true) (f := f) (ifs := []) S E W T hix hz (fun x σ1 B2 H2 _ s2 _ Q q => q B2 H2 s2.here) (fun x σ1 B2 H2 hx _ s2 E2 Q q s0 H0 C cl fp => ?_) hw fun D zs B2 H2 s2 n1 n2 hz hd => ?_
  · exact he s0 H0 C cl fp x σ1 B2 H2 hx s2 E2 B2 H2 s2.here Q q
  · have e : xs.filter (fun _ => true) = xs := List.filter_eq_self.mpr fun _ _ => rfl
    rw [e] at hd
    exact k D B2 H2 s2 (S.trans s2) n1 (S.t D n1) ⟨S.p.ne n1, n2, zs, hz, hd⟩ ((E.mono s2.b).set rfl)
theorem ws_lcF (S : Stp m B0 H0 B H) (E : Sl σ B Γ) (i : Nat) (W : WkS m X tg iter σ B H (xs.map enc)) (hc : X.calm = true) (hN : X.N.Nodup) (ok : BlkOk X.N X.env.scope scope own)
    (hg : ∀ (s : Shared) (H : Hp) (C : Addr) (cl : List (Str × Addr)) (fp : List Addr), PG (bX X scope s H C cl fp) tg g) (T : ∀ x, x ∈ xs → TgE X.K g (enc x) ixs (u x))
    (ht : ∀ s0 H0 C cl fp x σ1 B1 H1, x ∈ xs → Stp m B H B1 H1 → Sl σ1 B1 (u x (wipeG Γ (own.map (·.2)))) → EvT m (bX X scope s0 H0 C cl fp) c σ1 B1 H1 (p x))
    (he : ∀ s0 H0 C cl fp x σ1 B1 H1, x ∈ xs → p x = true → Stp m B H B1 H1 → Sl σ1 B1 (u x (wipeG Γ (own.map (·.2)))) → Ev m (bX X scope s0 H0 C cl fp) elt σ1 B1 H1 (IsD (f x)))
    (hz : xs.length ≤ 100000) (k : ∀ q B' H', Stp m B H B' H' → Stp m B0 H0 B' H' → H q = none → H0 q = none → Mu m B' H' q ((xs.filter p).map f) → Sl (σ.set i (some (.ref q))) B' (Γ.set i (some (IsV (.ref q)))) → wSs X rest D (σ.set i (some (.ref q))) H')
    (hy : X.N[i]? = some x := by rfl) (hyl : X.env.scope.names.lookup x = some .local := by rfl) (hsw : swapsWith (.ListComp elt [⟨tg, iter, [c], 0⟩] scope pos) (some (.Name x p1)) spos.line X.env = pure true := by exact sw_true rfl rfl rfl (by decide +kernel))
    (hix : ∀ i ∈ ixs, i ∈ own.map (·.2) := by decide) (hs : ∀ x, foldedSetIterable iter X.env x = pure x := by intro _; rfl) : wSs X (.Assign [.Name x p1] (.ListComp elt [⟨tg, iter, [c], 0⟩] scope pos) spos :: rest) D σ H := by
  obtain ⟨wi, hi, hw⟩ := W.ex
  refine ws_cons (ps_setLc (te := fun σ H Q => ∀ s0 H0 C cl fp, wE (bX X scope s0 H0 C cl fp) elt σ H Q) (tt := fun σ H Q => ∀ s0 H0 C cl fp, wT (bX X scope s0 H0 C cl fp) c σ H Q) hc hN hy hyl hsw hi ok hg (fun s0 H0 C cl fp => pts_one ⟨fun pins s σ H Q I h => h s0 H0 C cl fp pins s I⟩) (fun s0 H0 C cl fp => ⟨fun pins s σ H Q I h => h s0 H0 C cl fp pins s I⟩) hs) ?_
  refine lc_run (p := p) (f := f) (ifs := []) S E W T hix hz (fun x σ1 B2 H2 hx s2 E2 Q q s0 H0 C cl fp => ?_) (fun x σ1 B2 H2 hx hp s2 E2 Q q s0 H0 C cl fp => ?_) hw fun D zs B2 H2 s2 n1 n2 hz hd => ?_
  · exact ht s0 H0 C cl fp x σ1 B2 H2 hx s2 E2 B2 H2 s2.here Q q
  · exact he s0 H0 C cl fp x σ1 B2 H2 hx hp s2 E2 B2 H2 s2.here Q q
  · exact k D B2 H2 s2 (S.trans s2) n1 (S.t D n1) ⟨S.p.ne n1, n2, zs, hz, hd⟩ ((E.mono s2.b).set rfl)
end
end K3
/-! TEXT K6f -/
set_option Elab.async false
set_option linter.all false
set_option maxRecDepth 100000
set_option maxHeartbeats 1000000
namespace K3
open PySem PySem.Spec L2

/-! ### sorted of data -/
theorem dqAll_ex {H : Hp} {β : Type} {enc : β → PyData} : ∀ {bs : List β} {xs : List V} {us : List Value}, DqAll H xs (bs.map enc) → Vals xs us → PySem.W.EachIs (fun u b => ∃ x, RelV x u ∧ Dq H x (enc b)) us bs
  | [], _, _, .nil, .nil => .nil
  | _ :: _, _, _, .cons h t, .cons r s => .cons ⟨_, r, h⟩ (dqAll_ex t s)
theorem each_vals {H : Hp} {β : Type} {enc : β → PyData} : ∀ {bs : List β} {us : List Value}, PySem.W.EachIs (fun u b => ∃ x, RelV x u ∧ Dq H x (enc b)) us bs → ∃ ys, Vals ys us ∧ DqAll H ys (bs.map enc)
  | _, _, .nil => ⟨[], .nil, .nil⟩
  | _, _, .cons ⟨x, r, h⟩ t => by
    obtain ⟨ys, h1, h2⟩ := each_vals t
    exact ⟨x :: ys, .cons r h1, .cons h h2⟩
def rSortD {β : Type} (enc : β → PyData) : List V → Hp → VK → Prop := fun vs H Q => ∃ (a : Addr) (xs : List V) (bs : List β) (B : Hp), Same B H ∧ vs = [V.ref a] ∧ H a = some (.lst xs) ∧ DqAll B xs (bs.map enc) ∧ PySem.W.AllAlike (bs.map enc) ∧ PySem.W.Sortable (bs.map enc) ∧ bs.length ≤ 100000 ∧ (∀ b ∈ bs, (enc b).depth ≤ 50 ∧ (enc b).canLay0 = true) ∧
  ∀ p ys, H p = none → DqAll B ys ((bs.mergeSort (PySem.W.dataLe false enc)).map enc) → Q (.ref p) (upd H p (.lst ys))
theorem cr_sortD {X : Cx} {k : Nat} (hr : Room k X.A) {β : Type} {enc : β → PyData} : CallR X (.builtin "sorted") (rSortD enc) := by
  intro pins s σ H vs us Q I r h
  obtain ⟨a, xs, bs, B, sb, rfl, hs, hd, al, so, hz, hdp, q⟩ := h
  obtain ⟨its, rv, hl, _⟩ := I.list (SqL.of hs)
  obtain ⟨u, rfl, ru⟩ := vals1 r
  cases ru
  have e := dqAll_ex hd rv
  have hu := hr.units
  have er : PySem.W.EachIs (fun v b => ∃ as, Reads s.heap v (enc b) as) its bs := by
    refine PySem.W.EachIs.of_zip e.length fun p hp => ?_
    obtain ⟨x, r1, r2⟩ := e.zip p hp
    exact Dp.reads I _ x _ (dq_dp _ _ (dp_mn sb _ _ r2) (hdp _ (List.of_mem_zip hp).2).2) r1
  refine PySem.W.sorted_data hl.isList e er al so (Nat.le_trans hz (by decide)) (fun b hb => by have := (hdp b hb).1; omega) fun out hlen ho => ?_
  obtain ⟨ys, h1, h2⟩ := each_vals ho
  obtain ⟨ep, he'⟩ := PyProof.Rows.sortedAll_at s.heap its out.toArray
  have hle : ys.length ≤ sizeLine := by rw [h1.length, hlen]; exact Nat.le_trans hz (by decide)
  refine ⟨.ref _, upd H (s.heap.objs.size + 1) (.lst ys), I.laid (t' := s.toks) (fun _ _ => PyProof.Rows.sortedAll_old) (Nat.le_succ _) ⟨hle, out, ep, h1, by simpa using he'⟩, rfl, q _ ys (I.hok.fresh (Nat.le_succ _)) h2⟩

/-! ### tables of numbers -/
def toK (kvs : List (Int × Int)) : List (L2.Key × V) := kvs.map fun p => (Sum.inl p.1, V.int p.2)
def getI (kvs : List (Int × Int)) (k : Int) : Option Int := (kvs.find? fun p => decide (p.1 = k)).map (·.2)
def putI (kvs : List (Int × Int)) (k v : Int) : List (Int × Int) := if (kvs.any fun p => decide (p.1 = k)) = true then kvs.map (fun p => if p.1 = k then (p.1, v) else p) else kvs ++ [(k, v)]
def mergeI (kvs : List (Int × Int)) : List (Int × Int) := kvs.foldl (fun acc p => putI acc p.1 p.2) []
theorem valV_toK (k : Int) : ∀ kvs : List (Int × Int), valV (toK kvs) (Sum.inl k) = (getI kvs k).map V.int
  | [] => rfl
  | p :: r => by
    have ih := valV_toK k r
    have e : toK (p :: r) = (Sum.inl p.1, V.int p.2) :: toK r := rfl
    rw [e]
    by_cases h : p.1 = k
    · rw [valV_pos (by show (Sum.inl p.1 : L2.Key) = _; rw [h])]
      unfold getI
      rw [List.find?_cons_of_pos (by simpa using h)] <;> rfl
    · rw [valV_neg (by intro z; exact h (Sum.inl.inj z)), ih]
      unfold getI
      rw [List.find?_cons_of_neg (by simpa using h)]
theorem any_toK (k : Int) (kvs : List (Int × Int)) : ((toK kvs).any fun kv => decide (kv.1 = (Sum.inl k : L2.Key))) = kvs.any fun p => decide (p.1 = k) := by
  unfold toK
  rw [List.any_map]
  congr 1
  funext p
  show decide ((Sum.inl p.1 : L2.Key) = Sum.inl k) = _
  by_cases h : p.1 = k
  · rw [h]; simp
  · rw [decide_eq_false h, decide_eq_false (fun z => h (Sum.inl.inj z))]
theorem putK_toK (kvs : List (Int × Int)) (k v : Int) : putK (toK kvs) (Sum.inl k) (V.int v) = toK (putI kvs k v) := by
  unfold putK putI
  rw [any_toK]
  by_cases h : (kvs.any fun p => decide (p.1 = k)) = true
  · rw [if_pos h, if_pos h]
    unfold toK
    rw [List.map_map, List.map_map]
    congr 1
    funext p
    show (if (Sum.inl p.1 : L2.Key) = Sum.inl k then _ else _) = _
    by_cases e : p.1 = k
    · rw [if_pos (by rw [e])]
      show _ = ((Sum.inl (if p.1 = k then (p.1, v) else p).1 : L2.Key), V.int (if p.1 = k then (p.1, v) else p).2)
      rw [if_pos e]
    · rw [if_neg (fun z => e (Sum.inl.inj z))]
      show _ = ((Sum.inl (if p.1 = k then (p.1, v) else p).1 : L2.Key), V.int (if p.1 = k then (p.1, v) else p).2)
      rw [if_neg e]
  · rw [if_neg h, if_neg h]
    unfold toK
    rw [List.map_append] <;> rfl
theorem merge_toK (kvs : List (Int × Int)) : mergeK [] (toK kvs) = toK (mergeI kvs) := by
  have key : ∀ (l acc : List (Int × Int)), (toK l).foldl (fun acc kv => putK acc kv.1 kv.2) (toK acc) = toK (l.foldl (fun acc p => putI acc p.1 p.2) acc) := by
    intro l
    induction l with
    | nil => intro acc; rfl
    | cons p l ih =>
      intro acc
      show (toK l).foldl _ (putK (toK acc) (Sum.inl p.1) (V.int p.2)) = _
      rw [putK_toK, ih] <;> rfl
  exact key kvs []
theorem len_toK (kvs : List (Int × Int)) : (toK kvs).length = kvs.length := List.length_map ..
def pairD (p : Int × Int) : PyData := .tuple [.int p.1, .int p.2]
theorem pairs_ex {H : Hp} : ∀ {kvs : List (Int × Int)} {xs : List V}, DqAll H xs (kvs.map pairD) → ∃ ts : List Addr, xs = ts.map V.ref ∧ ∀ K : PySem.W.Frag, Paired (fun p (kv : L2.Key × V) => SqT K H p [kV kv.1, kv.2]) ts (toK kvs)
  | [], _, .nil => ⟨[], rfl, fun _ => .nil⟩
  | p :: kvs, _, .cons h t => by
    obtain ⟨ts, e, hp⟩ := pairs_ex t
    obtain ⟨a, ys, rfl, h1, h2⟩ := h.tup_ex
    cases h2 with
    | cons r1 h2 =>
      cases h2 with
      | cons r2 h2 =>
        cases h2
        cases r1.int_eq
        cases r2.int_eq
        exact ⟨a :: ts, by rw [e]; rfl, fun K => .cons (SqT.of h1) (hp K)⟩

/-! ### one's own object -/
structure MuO (m : Option Addr) (B H : Hp) (p : Addr) (o : HO) : Prop where
  ne : some p ≠ m
  b : B p = none
  at_ : H p = some o
theorem MuO.mono {m : Option Addr} {B H B' H' : Hp} {p : Addr} {o : HO} (M : MuO m B H p o) (s : Stp m B H B' H') : MuO m B' H' p o := ⟨M.ne, s.f _ _ M.at_ M.b, s.h _ _ M.ne M.at_⟩
/-- a new object of one's own -/
def EvN (m : Option Addr) (X : Cx) (e : Expr) (σ : L2.St) (B H : Hp) (o : HO) : Prop := ∀ B1 H1, Stp m B H B1 H1 → ∀ Q : VK, (∀ p B2 H2, Stp m B1 H1 B2 H2 → H1 p = none → B2 p = none → H2 p = some o → Q (.ref p) H2) → wE X e σ H1 Q
section
variable {m : Option Addr} {X : Cx} {e a b c : Expr} {es : List Expr} {σ : L2.St} {B H B' H' B0 H0 : Hp} {R R1 R2 : Rt} {Rs : List Rt} {pos p1 p2 apos : Pos} {Γ : List (Option Rt)} {d : PyData} {ds : List PyData} {x : Str} {k n : Nat} {kvs : List (Int × Int)} {rest : List Stmt} {D : Ends}
theorem EvN.ev {o : HO} (h : EvN m X e σ B H o) (hR : ∀ p B, B p = some o → R (.ref p) B) : Ev m X e σ B H R := fun B1 H1 s1 Q q => h B1 H1 s1 Q fun p B2 H2 s2 n1 n2 hp =>
  q (.ref p) (upd B2 p o) H2 (s2.frz n1 n2 hp (s1.p.ne n1)) (hR p _ upd_same)
theorem ws_setN {o : HO} (S : Stp m B0 H0 B H) (E : Sl σ B Γ) (i : Nat) (a : EvN m X e σ B H o) (k : ∀ p B' H', Stp m B H B' H' → Stp m B0 H0 B' H' → H p = none → H0 p = none → MuO m B' H' p o → Sl (σ.set i (some (.ref p))) B' (Γ.set i (some (IsV (.ref p)))) → wSs X rest D (σ.set i (some (.ref p))) H')
    (hN : X.N.Nodup) (hi : X.N[i]? = some x := by rfl) (hx : Loc X.env.scope x := by first | exact Or.inl rfl | exact Or.inr rfl) (hs : swapsWith e (some (.Name x p1)) pos.line X.env = pure false := by rfl) (hf : X.fn x = true ∨ X.env.scope.names.lookup x = some .local := by first | exact .inl rfl | exact .inr rfl) :
    wSs X (.Assign [.Name x p1] e pos :: rest) D σ H :=
  ws_cons (ps_set hN hi hx pe_w hs hf) (a B H S.here _ fun p B2 H2 s n1 n2 hz => k p B2 H2 s (S.trans s) n1 (S.t p n1) ⟨S.p.ne n1, n2, hz⟩ ((E.mono s.b).set rfl))
/-! len -/
theorem ev_lenL (hm : X.mg "len" = none) (h : Ev m X e σ B H (IsD (.list ds))) (hg : Gl X "len" := by rfl) (hs : starEach [e] X.env = (false, eval e X.env) :: starEach [] X.env := by rfl) : Ev m X (.Call (.Name "len" p1) [e] [] pos) σ B H (IsD (.int ds.length)) :=
  ev_blt call_len_seq hm boot_len (ea1 h hs) (fun vs B1 H1 Q s1 r q => by
    obtain ⟨v, rfl, r5⟩ := args1 r
    obtain ⟨a, xs, rfl, h1, h2⟩ := Dq.lst_ex r5
    exact ⟨a, xs, rfl, .inl (SqL.of (s1.s _ _ h1)), by rw [h2.len]; exact q _ B1 H1 s1.here (.int _)⟩) hg (he := hs)
theorem ev_lenT (hm : X.mg "len" = none) (h : Ev m X e σ B H (IsD (.tuple ds))) (hg : Gl X "len" := by rfl) (hs : starEach [e] X.env = (false, eval e X.env) :: starEach [] X.env := by rfl) : Ev m X (.Call (.Name "len" p1) [e] [] pos) σ B H (IsD (.int ds.length)) :=
  ev_blt call_len_seq hm boot_len (ea1 h hs) (fun vs B1 H1 Q s1 r q => by
    obtain ⟨v, rfl, r5⟩ := args1 r
    obtain ⟨a, xs, rfl, h1, h2⟩ := Dq.tup_ex r5
    exact ⟨a, xs, rfl, .inr (SqT.of (s1.s _ _ h1)), by rw [h2.len]; exact q _ B1 H1 s1.here (.int _)⟩) hg (he := hs)
/-! list(..), tuple(..) -/
theorem em_listL (hm : X.mg "list" = none) (h : Ev m X e σ B H (IsD (.list ds))) (hg : Gl X "list" := by rfl) (hs : starEach [e] X.env = (false, eval e X.env) :: starEach [] X.env := by rfl) : EvM m X (.Call (.Name "list" p1) [e] [] pos) σ B H ds :=
  em_ty call_list_of hm PyProof.Rows.boot_list (ea1 h hs) (fun vs B1 H1 Q s1 r q => by
    obtain ⟨v, rfl, r5⟩ := args1 r
    obtain ⟨a, xs, rfl, h1, h2⟩ := Dq.lst_ex r5
    exact ⟨a, xs, rfl, .inl (SqL.of (s1.s _ _ h1)), fun l hl => q l xs B1 _ (s1.here.mnew hl) hl (s1.s.free hl) upd_same h2⟩) hg (he := hs)
theorem em_listT (hm : X.mg "list" = none) (h : Ev m X e σ B H (IsD (.tuple ds))) (hg : Gl X "list" := by rfl) (hs : starEach [e] X.env = (false, eval e X.env) :: starEach [] X.env := by rfl) : EvM m X (.Call (.Name "list" p1) [e] [] pos) σ B H ds :=
  em_ty call_list_of hm PyProof.Rows.boot_list (ea1 h hs) (fun vs B1 H1 Q s1 r q => by
    obtain ⟨v, rfl, r5⟩ := args1 r
    obtain ⟨a, xs, rfl, h1, h2⟩ := Dq.tup_ex r5
    exact ⟨a, xs, rfl, .inr (SqT.of (s1.s _ _ h1)), fun l hl => q l xs B1 _ (s1.here.mnew hl) hl (s1.s.free hl) upd_same h2⟩) hg (he := hs)
theorem ev_tupleL (hm : X.mg "tuple" = none) (h : Ev m X e σ B H (IsD (.list ds))) (hg : Gl X "tuple" := by rfl) (hs : starEach [e] X.env = (false, eval e X.env) :: starEach [] X.env := by rfl) : Ev m X (.Call (.Name "tuple" p1) [e] [] pos) σ B H (IsD (.tuple ds)) :=
  ev_ty call_tuple_of hm PyProof.Rows.boot_tuple (ea1 h hs) (fun vs B1 H1 Q s1 r q => by
    obtain ⟨v, rfl, r5⟩ := args1 r
    obtain ⟨a, xs, rfl, h1, h2⟩ := Dq.lst_ex r5
    exact ⟨a, xs, rfl, .inl ⟨SqL.of (s1.s _ _ h1), fun l hl => q _ _ _ (s1.here.new hl) (.tup upd_same (h2.mono (same_upd (s1.s.free hl))))⟩⟩) hg (he := hs)
theorem ev_tupleT (hm : X.mg "tuple" = none) (h : Ev m X e σ B H (IsD (.tuple ds))) (hg : Gl X "tuple" := by rfl) (hs : starEach [e] X.env = (false, eval e X.env) :: starEach [] X.env := by rfl) : Ev m X (.Call (.Name "tuple" p1) [e] [] pos) σ B H (IsD (.tuple ds)) :=
  ev_ty call_tuple_of hm PyProof.Rows.boot_tuple (ea1 h hs) (fun vs B1 H1 Q s1 r q => by
    obtain ⟨v, rfl, r5⟩ := args1 r
    obtain ⟨a, xs, rfl, h1, h2⟩ := Dq.tup_ex r5
    exact ⟨a, xs, rfl, .inr ⟨SqT.of (s1.s _ _ h1), q _ B1 H1 s1.here (.tup h1 h2)⟩⟩) hg (he := hs)
/-! any, all, max, min, sum, abs, int -/
theorem ev_any {bs : List Bool} (hm : X.mg "any" = none) (hc : X.calm = true) (h : Ev m X e σ B H (IsD (.list (bs.map .bool)))) (hg : Gl X "any" := by rfl) (hs : starEach [e] X.env = (false, eval e X.env) :: starEach [] X.env := by rfl) : Ev m X (.Call (.Name "any" p1) [e] [] pos) σ B H (IsD (.bool (bs.any id))) :=
  ev_blt (cr_any hc) hm PyProof.Rows.boot_any (ea1 h hs) (fun vs B1 H1 Q s1 r q => by
    obtain ⟨v, rfl, r5⟩ := args1 r
    obtain ⟨a, xs, rfl, h1, h2⟩ := Dq.lst_ex r5
    have e := dq_bls h2
    subst e
    exact ⟨a, bs, rfl, SqL.of (s1.s _ _ h1), q _ B1 H1 s1.here (.bl _)⟩) hg (he := hs)
theorem ev_all {bs : List Bool} (hm : X.mg "all" = none) (hc : X.calm = true) (h : Ev m X e σ B H (IsD (.list (bs.map .bool)))) (hg : Gl X "all" := by rfl) (hs : starEach [e] X.env = (false, eval e X.env) :: starEach [] X.env := by rfl) : Ev m X (.Call (.Name "all" p1) [e] [] pos) σ B H (IsD (.bool (bs.all id))) :=
  ev_blt (cr_all hc) hm PyProof.Rows.boot_all (ea1 h hs) (fun vs B1 H1 Q s1 r q => by
    obtain ⟨v, rfl, r5⟩ := args1 r
    obtain ⟨a, xs, rfl, h1, h2⟩ := Dq.lst_ex r5
    have e := dq_bls h2
    subst e
    exact ⟨a, bs, rfl, SqL.of (s1.s _ _ h1), q _ B1 H1 s1.here (.bl _)⟩) hg (he := hs)
theorem ev_max2 {i j : Int} (hm : X.mg "max" = none) (hc : X.calm = true) (ha : Ev m X a σ B H (IsD (.int i))) (hb : Ev m X b σ B H (IsD (.int j))) (hg : Gl X "max" := by rfl) (hs : starEach (a :: [b]) X.env = (false, eval a X.env) :: starEach [b] X.env := by rfl) (hs2 : starEach [b] X.env = (false, eval b X.env) :: starEach [] X.env := by rfl) (hpl : (backTo pos (starEach [b] X.env)).any (·.1) = false := by rfl) :
    Ev m X (.Call (.Name "max" p1) [a, b] [] pos) σ B H (IsD (.int (max i j))) :=
  ev_blt (call_max2 hc) hm PyProof.Rows.boot_max (ea2 ha hb hs hs2) (fun vs B1 H1 Q s1 r q => by
    obtain ⟨v, u, rfl, r1, r2⟩ := args2 r
    cases Dq.int_eq r1
    cases Dq.int_eq r2
    have e : (if j > i then j else i) = max i j := by
      by_cases z : j > i
      · rw [if_pos z]; omega
      · rw [if_neg z]; omega
    exact ⟨i, j, rfl, q _ B1 H1 s1.here (by rw [e]; exact .int _)⟩) hg (he := hs) (hpl := hpl)
theorem ev_min2 {i j : Int} (hm : X.mg "min" = none) (hc : X.calm = true) (ha : Ev m X a σ B H (IsD (.int i))) (hb : Ev m X b σ B H (IsD (.int j))) (hg : Gl X "min" := by rfl) (hs : starEach (a :: [b]) X.env = (false, eval a X.env) :: starEach [b] X.env := by rfl) (hs2 : starEach [b] X.env = (false, eval b X.env) :: starEach [] X.env := by rfl) (hpl : (backTo pos (starEach [b] X.env)).any (·.1) = false := by rfl) :
    Ev m X (.Call (.Name "min" p1) [a, b] [] pos) σ B H (IsD (.int (min i j))) :=
  ev_blt (call_min2 hc) hm PyProof.Rows.boot_min (ea2 ha hb hs hs2) (fun vs B1 H1 Q s1 r q => by
    obtain ⟨v, u, rfl, r1, r2⟩ := args2 r
    cases Dq.int_eq r1
    cases Dq.int_eq r2
    have e : (if j < i then j else i) = min i j := by
      by_cases z : j < i
      · rw [if_pos z]; omega
      · rw [if_neg z]; omega
    exact ⟨i, j, rfl, q _ B1 H1 s1.here (by rw [e]; exact .int _)⟩) hg (he := hs) (hpl := hpl)
theorem ev_maxL {ns : List Int} {mx : Int} (hm : X.mg "max" = none) (hc : X.calm = true) (h : Ev m X e σ B H (IsD (.list (ns.map .int)))) (h1 : mx ∈ ns) (h2 : ∀ y ∈ ns, y ≤ mx) (hg : Gl X "max" := by rfl) (hs : starEach [e] X.env = (false, eval e X.env) :: starEach [] X.env := by rfl) : Ev m X (.Call (.Name "max" p1) [e] [] pos) σ B H (IsD (.int mx)) :=
  ev_blt (cr_max hc) hm PyProof.Rows.boot_max (ea1 h hs) (fun vs B1 H1 Q s1 r q => by
    obtain ⟨v, rfl, r5⟩ := args1 r
    obtain ⟨a, xs, rfl, k1, k2⟩ := Dq.lst_ex r5
    have e := dq_ints k2
    subst e
    refine ⟨a, ns, rfl, SqL.of (s1.s _ _ k1), List.length_pos_of_mem h1, fun z z1 z2 => ?_⟩
    have e : z = mx := Int.le_antisymm (h2 z z1) (z2 mx h1)
    rw [e]
    exact q _ B1 H1 s1.here (.int _)) hg (he := hs)
theorem ev_minL {ns : List Int} {mx : Int} (hm : X.mg "min" = none) (hc : X.calm = true) (h : Ev m X e σ B H (IsD (.list (ns.map .int)))) (h1 : mx ∈ ns) (h2 : ∀ y ∈ ns, mx ≤ y) (hg : Gl X "min" := by rfl) (hs : starEach [e] X.env = (false, eval e X.env) :: starEach [] X.env := by rfl) : Ev m X (.Call (.Name "min" p1) [e] [] pos) σ B H (IsD (.int mx)) :=
  ev_blt (cr_min hc) hm PyProof.Rows.boot_min (ea1 h hs) (fun vs B1 H1 Q s1 r q => by
    obtain ⟨v, rfl, r5⟩ := args1 r
    obtain ⟨a, xs, rfl, k1, k2⟩ := Dq.lst_ex r5
    have e := dq_ints k2
    subst e
    refine ⟨a, ns, rfl, SqL.of (s1.s _ _ k1), List.length_pos_of_mem h1, fun z z1 z2 => ?_⟩
    have e : z = mx := Int.le_antisymm (z2 mx h1) (h2 z z1)
    rw [e]
    exact q _ B1 H1 s1.here (.int _)) hg (he := hs)
theorem ev_abs {i : Int} (hm : X.mg "abs" = none) (h : Ev m X e σ B H (IsD (.int i))) (hg : Gl X "abs" := by rfl) (hs : starEach [e] X.env = (false, eval e X.env) :: starEach [] X.env := by rfl) : Ev m X (.Call (.Name "abs" p1) [e] [] pos) σ B H (IsD (.int (if i < 0 then -i else i))) :=
  ev_blt call_abs hm PyProof.Rows.boot_abs (ea1 h hs) (fun vs B1 H1 Q s1 r q => by
    obtain ⟨v, rfl, r5⟩ := args1 r
    exact ⟨i, by rw [Dq.int_eq r5], q _ B1 H1 s1.here (.int _)⟩) hg (he := hs)
theorem ev_int1 {i : Int} (hm : X.mg "int" = none) (h : Ev m X e σ B H (IsD (.int i))) (hg : Gl X "int" := by rfl) (hs : starEach [e] X.env = (false, eval e X.env) :: starEach [] X.env := by rfl) : Ev m X (.Call (.Name "int" p1) [e] [] pos) σ B H (IsD (.int i)) :=
  ev_ty call_int1 hm PyProof.Rows.boot_int (ea1 h hs) (fun vs B1 H1 Q s1 r q => by
    obtain ⟨v, rfl, r5⟩ := args1 r
    exact .inl ⟨i, by rw [Dq.int_eq r5], q _ B1 H1 s1.here (.int _)⟩) hg (he := hs)
/-! sorted -/
theorem em_sorted {β : Type} {enc : β → PyData} {bs : List β} (hr : Room k X.A) (hm : X.mg "sorted" = none) (h : Ev m X e σ B H (IsD (.list (bs.map enc)))) (al : PySem.W.AllAlike (bs.map enc)) (so : PySem.W.Sortable (bs.map enc)) (hz : bs.length ≤ 100000) (hd : ∀ b ∈ bs, (enc b).depth ≤ 50 ∧ (enc b).canLay0 = true)
    (hg : Gl X "sorted" := by rfl) (hs : starEach [e] X.env = (false, eval e X.env) :: starEach [] X.env := by rfl) : EvM m X (.Call (.Name "sorted" p1) [e] [] pos) σ B H ((bs.mergeSort (PySem.W.dataLe false enc)).map enc) :=
  em_blt (cr_sortD hr (enc := enc)) hm PyProof.Rows.boot_sorted (ea1 h hs) (fun vs B1 H1 Q s1 r q => by
    obtain ⟨v, rfl, r5⟩ := args1 r
    obtain ⟨a, xs, rfl, h1, h2⟩ := Dq.lst_ex r5
    exact ⟨a, xs, bs, B1, s1.s, rfl, s1.s _ _ h1, h2, al, so, hz, hd, fun p ys hp hy => q p ys B1 _ (s1.here.mnew hp) hp (s1.s.free hp) upd_same hy⟩) hg (he := hs)
end
end K3
/-! TEXT K7f -/
set_option Elab.async false
set_option linter.all false
set_option maxRecDepth 100000
set_option maxHeartbeats 1000000
namespace K3
open PySem PySem.Spec L2

section
variable {m : Option Addr} {X : Cx} {e a b c o i f : Expr} {es : List Expr} {σ : L2.St} {B H B' H' B0 H0 : Hp} {R R1 R2 : Rt} {Rs : List Rt} {pos p1 p2 p3 apos cpos : Pos} {Γ : List (Option Rt)} {d d1 d2 : PyData} {ds : List PyData} {x y : Str} {k n : Nat} {kvs : List (Int × Int)} {rest : List Stmt} {D : Ends} {p q : Addr}
/-! ### dicts of numbers -/
/-- what stands for a table of numbers -/
def DkAt (m : Option Addr) (B H : Hp) (R : Rt) (kvs : List (Int × Int)) : Prop := ∀ v B1 H1, Stp m B H B1 H1 → R v B1 → ∃ a, v = .ref a ∧ H1 a = some (.dK (toK kvs))
theorem dkD : DkAt m B H (K3.IsD (dictD kvs)) kvs := fun v B1 H1 s r => by
  obtain ⟨a, rfl, h⟩ := Dq.dic_ex r
  exact ⟨a, rfl, s.s _ _ h⟩
theorem dkM (M : MuO m B H p (.dK (toK kvs))) : DkAt m B H (IsV (.ref p)) kvs := fun v B1 H1 s r => ⟨p, r, (M.mono s).at_⟩
theorem DkAt.get {v : V} {B1 H1 : Hp} (h : DkAt m B H R kvs) (s : Stp m B H B1 H1) (r : R v B1) (i : Int) : ∃ a, v = .ref a ∧ DGet H1 a (.int i) ((getI kvs i).map V.int) ∧ L2.IsD H1 a := by
  obtain ⟨a, e, h1⟩ := h v B1 H1 s r
  refine ⟨a, e, ?_, .inl ⟨_, .inl h1⟩⟩
  rw [← valV_toK]
  exact DGet.k (k := Sum.inl i) h1
theorem isSome_map {α β : Type} (f : α → β) (x : Option α) : (x.map f).isSome = x.isSome := by cases x <;> rfl
theorem ev_din {i : Int} (hr : Room n X.A) (hd : DkAt m B H R kvs) [mr : Mn R] (ha : Ev m X a σ B H (K3.IsD (.int i))) (hb : Ev m X b σ B H R) (h1 : behindInMarks .In b = false := by first | exact nobehind _ (by decide) (by decide) | rfl) : Ev m X (.Compare a [.In] [b] pos) σ B H (K3.IsD (.bool (getI kvs i).isSome)) :=
  ev_by (pe_cmp (pc_din (hu_of hr) pe_w pe_w) h1) fun B1 H1 s1 Q q => ha B1 H1 s1 _ fun x B2 H2 s2 rx => hb B2 H2 (s1.trans s2) _ fun y B3 H3 s3 ry => by
    obtain ⟨a, rfl, g, _⟩ := hd.get ((s1.trans s2).trans s3) ry i
    cases Dq.int_eq rx
    exact ⟨a, _, rfl, g, by rw [isSome_map]; exact q _ B3 H3 (s2.trans s3) (.bl _)⟩
theorem et_din {i : Int} (hr : Room n X.A) (hd : DkAt m B H R kvs) [mr : Mn R] (ha : Ev m X a σ B H (K3.IsD (.int i))) (hb : Ev m X b σ B H R) (h1 : behindInMarks .In b = false := by first | exact nobehind _ (by decide) (by decide) | rfl) : EvT m X (.Compare a [.In] [b] pos) σ B H (getI kvs i).isSome :=
  et_by (L2.pt_cmp (pc_din (hu_of hr) pe_w pe_w) h1) fun B1 H1 s1 Q q => ha B1 H1 s1 _ fun x B2 H2 s2 rx => hb B2 H2 (s1.trans s2) _ fun y B3 H3 s3 ry => by
    obtain ⟨a, rfl, g, _⟩ := hd.get ((s1.trans s2).trans s3) ry i
    cases Dq.int_eq rx
    exact ⟨a, _, rfl, g, _, rfl, by rw [isSome_map]; exact q B3 H3 (s2.trans s3)⟩
theorem et_dnotin {i : Int} (hr : Room n X.A) (hd : DkAt m B H R kvs) [mr : Mn R] (ha : Ev m X a σ B H (K3.IsD (.int i))) (hb : Ev m X b σ B H R) (h1 : behindInMarks .NotIn b = false := by first | exact nobehind _ (by decide) (by decide) | rfl) : EvT m X (.Compare a [.NotIn] [b] pos) σ B H (!(getI kvs i).isSome) :=
  et_by (L2.pt_cmp (pc_dnotin (hu_of hr) pe_w pe_w) h1) fun B1 H1 s1 Q q => ha B1 H1 s1 _ fun x B2 H2 s2 rx => hb B2 H2 (s1.trans s2) _ fun y B3 H3 s3 ry => by
    obtain ⟨a, rfl, g, _⟩ := hd.get ((s1.trans s2).trans s3) ry i
    cases Dq.int_eq rx
    exact ⟨a, _, rfl, g, _, rfl, by rw [isSome_map]; exact q B3 H3 (s2.trans s3)⟩
theorem ev_dget {i j : Int} (hr : Room n X.A) (hd : DkAt m B H R kvs) [mr : Mn R] (ha : Ev m X a σ B H R) (hb : Ev m X b σ B H (K3.IsD (.int i))) (h : getI kvs i = some j) (hs : NoSl b := by intro _ _; rfl) : Ev m X (.Subscript a b pos) σ B H (K3.IsD (.int j)) :=
  ev_by (pe_dget (hu_of hr) pe_w pe_w hs) fun B1 H1 s1 Q q => ha B1 H1 s1 _ fun x B2 H2 s2 rx => hb B2 H2 (s1.trans s2) _ fun y B3 H3 s3 ry => by
    obtain ⟨a, rfl, g, _⟩ := hd.get ((s1.trans s2).trans s3) (mr.mn x _ _ s3.b rx) i
    cases Dq.int_eq ry
    rw [h] at g
    exact ⟨a, _, rfl, g, q _ B3 H3 (s2.trans s3) (.int _)⟩
/-- d.get(k, x) -/
theorem ev_dget2 {i j : Int} (hr : Room n X.A) (hd : DkAt m B H R kvs) [mr : Mn R] (ho : Ev m X o σ B H R) (ha : Ev m X a σ B H (K3.IsD (.int i))) (hb : Ev m X b σ B H (K3.IsD (.int j))) (mm : M2 X o "get" apos a b cpos := by exact ⟨rfl, rfl, rfl, rfl⟩) : Ev m X (.Call (.Attribute o "get" apos) [a, b] [] cpos) σ B H (K3.IsD (.int ((getI kvs i).getD j))) :=
  ev_by (pe_dget2 (hu_of hr) pe_w pe_w pe_w mm) fun B1 H1 s1 Q q => ho B1 H1 s1 _ fun x B2 H2 s2 rx => by
    obtain ⟨t, rfl, _, hI⟩ := hd.get (s1.trans s2) rx i
    refine ⟨t, rfl, hI, ha B2 H2 (s1.trans s2) _ fun y B3 H3 s3 ry => hb B3 H3 ((s1.trans s2).trans s3) _ fun z B4 H4 s4 rz => ?_⟩
    obtain ⟨t', e, g, _⟩ := hd.get (((s1.trans s2).trans s3).trans s4) (mr.mn _ _ _ (s3.trans s4).b rx) i
    cases e
    cases Dq.int_eq ry
    cases Dq.int_eq rz
    refine ⟨_, g, ?_⟩
    have e : ((getI kvs i).map V.int).getD (V.int j) = V.int ((getI kvs i).getD j) := by cases getI kvs i <;> rfl
    rw [e]
    exact q _ B4 H4 ((s2.trans s3).trans s4) (.int _)
/-- dict(list of pairs) -/
theorem en_dict (hm : X.mg "dict" = none) (hc : X.calm = true) (h : Ev m X e σ B H (K3.IsD (.list (kvs.map pairD)))) (hg : Gl X "dict" := by rfl) (hs : starEach [e] X.env = (false, eval e X.env) :: starEach [] X.env := by rfl) : EvN m X (.Call (.Name "dict" p1) [e] [] pos) σ B H (.dK (toK (mergeI kvs))) := fun B1 H1 s1 Q q =>
  wE.of (pe_callTy (call_dictP hc) hg hm PyProof.Rows.boot_dict pa_w (he := hs)) ((ea1 h hs) B1 H1 s1 _ fun vs B2 H2 s2 r => by
    obtain ⟨v, rfl, r5⟩ := args1 r
    obtain ⟨a, xs, rfl, h1, h2⟩ := Dq.lst_ex r5
    obtain ⟨ts, rfl, hp⟩ := pairs_ex (h2.mono s2.s)
    refine ⟨a, ts, toK kvs, rfl, SqL.of (s2.s _ _ h1), hp X.K, fun t ht => ?_⟩
    rw [merge_toK]
    exact q t B2 _ (s2.mnew ht) (s2.t t ht) (s2.s.free ht) upd_same)
theorem ev_dict (hm : X.mg "dict" = none) (hc : X.calm = true) (h : Ev m X e σ B H (K3.IsD (.list (kvs.map pairD)))) (hg : Gl X "dict" := by rfl) (hs : starEach [e] X.env = (false, eval e X.env) :: starEach [] X.env := by rfl) : Ev m X (.Call (.Name "dict" p1) [e] [] pos) σ B H (K3.IsD (dictD (mergeI kvs))) :=
  (en_dict hm hc h hg hs).ev fun p B hp => .dic hp
/-- list(d.items()) -/
theorem em_items (hm : X.mg "list" = none) (hc : X.calm = true) (hd : DkAt m B H R kvs) (ho : Ev m X o σ B H R) (hg : Gl X "list" := by rfl) (hbase : attributeBase o "items" X.env (eval o X.env) = eval o X.env := by rfl) (hline : (apos.endLine == cpos.line) = true := by rfl)
    (hs : starEach [.Call (.Attribute o "items" apos) [] [] cpos] X.env = (false, eval (.Call (.Attribute o "items" apos) [] [] cpos) X.env) :: starEach [] X.env := by rfl) : EvM m X (.Call (.Name "list" p1) [.Call (.Attribute o "items" apos) [] [] cpos] [] pos) σ B H (kvs.map pairD) := fun B1 H1 s1 Q q =>
  wE.of (LiI.pe_listItems hc pe_w hg hm PyProof.Rows.boot_list hbase hline hs) (ho B1 H1 s1 _ fun v B2 H2 s2 r => by
    obtain ⟨t, rfl, ht⟩ := hd v B2 H2 (s1.trans s2) r
    refine ⟨t, toK kvs, rfl, ht, fun H3 l ts sm hl hts hlt h3 hp => ?_⟩
    -- the base: the tuples, not the list
    let B3 : Hp := fun b => if b ∈ ts then H3 b else B2 b
    have nB : ∀ b, b ∈ ts → B2 b = none := fun b hb => s2.s.free (hts b hb)
    have e1 : Same B2 B3 := fun b ob hb => by
      show (if b ∈ ts then H3 b else B2 b) = _
      by_cases z : b ∈ ts
      · rw [nB b z] at hb; cases hb
      · rw [if_neg z]; exact hb
    have e2 : Same B3 H3 := fun b ob hb => by
      have hb : (if b ∈ ts then H3 b else B2 b) = some ob := hb
      by_cases z : b ∈ ts
      · rw [if_pos z] at hb; exact hb
      · rw [if_neg z] at hb; exact sm _ _ (s2.s _ _ hb)
    have n3 : B3 l = none := by
      show (if l ∈ ts then H3 l else B2 l) = _
      rw [if_neg hlt]; exact s2.s.free hl
    have key : ∀ {kvs : List (Int × Int)} {us : List Addr}, (∀ u ∈ us, u ∈ ts) → Paired (fun (t : Addr) (q : L2.Key × V) => H3 t = some (.tup [kV q.1, q.2])) us (toK kvs) → DqAll B3 (us.map V.ref) (kvs.map pairD) := by
      intro kvs
      induction kvs with
      | nil => intro us _ h; cases h; exact .nil
      | cons p kvs ih =>
        intro us hu h
        cases h with
        | cons h1 h2 =>
          refine .cons ?_ (ih (fun u hu' => hu u (List.mem_cons_of_mem _ hu')) h2)
          refine .tup (xs := [.int p.1, .int p.2]) ?_ (.cons (.int _) (.cons (.int _) .nil))
          show (if _ ∈ ts then _ else _) = _
          rw [if_pos (hu _ List.mem_cons_self)]
          exact h1
    refine q l _ B3 H3 (s2.trans ⟨e1, e2, fun b ob _ hb => sm _ _ hb, fun b hb => ?_, fun b ob hb hn => ?_, ?_⟩) (s2.t l hl) n3 h3 (key (fun _ z => z) hp)
    · cases z : H2 b with
      | none => rfl
      | some u => rw [sm _ _ z] at hb; cases hb
    · show (if b ∈ ts then H3 b else B2 b) = _
      rw [if_neg (fun z => by rw [hts b z] at hb; cases hb)]
      exact hn
    · intro g hg2
      obtain ⟨⟨x, y, h1, h2⟩, h4⟩ := s2.p g hg2
      refine ⟨⟨x, y, sm _ _ h1, h2⟩, ?_⟩
      show (if g ∈ ts then H3 g else B2 g) = _
      rw [if_neg (fun z => by rw [hts g z] at h1; cases h1)]
      exact h4)
/-! ### one's own lists changed -/
theorem ws_app (S : Stp m B0 H0 B H) (M : Mu m B H p ds) (h0 : H0 p = none) (ho : Ev m X o σ B H (IsV (.ref p))) (ha : Ev m X e σ B H (K3.IsD d)) (hz : ds.length < 100000)
    (k : ∀ B' H', Same B B' → Stp m B0 H0 B' H' → Mu m B' H' p (ds ++ [d]) → (∀ q es, q ≠ p → Mu m B H q es → Mu m B' H' q es) → wSs X rest D σ H')
    (hbase : attributeBase o "append" X.env (eval o X.env) = eval o X.env := by rfl)
    (hfew : ((backTo cpos (starEach [e] X.env)).all (fun x => !x.1) && (backToKw cpos (keywordEach [] X.env)).all (fun x => x.1.isSome) && decide (([e] : List Expr).length + ([] : List Keyword).length + (if ([] : List Keyword).isEmpty then 0 else 1) < 30)) = true := by rfl)
    (hline : (apos.endLine == cpos.line) = true := by rfl) (hs : starEach [e] X.env = (false, eval e X.env) :: starEach [] X.env := by rfl) (hsw : swapsWith (.Call (.Attribute o "append" apos) [e] [] cpos) none pos.line X.env = pure false := by rfl) :
    wSs X (.Expr (.Call (.Attribute o "append" apos) [e] [] cpos) pos :: rest) D σ H := by
  refine ws_cons (ps_expr (pe_bm PySem.F.plainAttrs_list PySem.F.slot_list_append PySem.F.type_list_append mt_append pe_w pa_w hbase hfew hline hs) hsw) ?_
  refine ho B H S.here _ fun v B1 H1 s1 r1 => ?_
  obtain rfl : v = .ref p := r1
  obtain ⟨zs, h1, _⟩ := (M.mono s1).ex
  refine ⟨.inl ⟨rfl, zs, SqL.of h1⟩, (ea1 ha hs) B1 H1 s1 _ fun vs B2 H2 s2 r => ?_⟩
  obtain ⟨w, rfl, r5⟩ := args1 r
  obtain ⟨ys, h2, h3⟩ := (M.mono (s1.trans s2)).ex
  have hl := h3.len
  refine ⟨p, ys, w, rfl, rfl, h2, Nat.lt_of_lt_of_le (by rw [hl]; exact hz) (by decide), ?_⟩
  have M2 := M.mono (s1.trans s2)
  exact k B2 _ (s1.trans s2).b ((S.trans (s1.trans s2)).put M2 h0) (M2.put (h3.app (.one r5))) fun q es hq N => (N.mono (s1.trans s2)).other (Ne.symm hq)
theorem ws_ext {es : List PyData} (S : Stp m B0 H0 B H) (M : Mu m B H p ds) (h0 : H0 p = none) (ho : Ev m X o σ B H (IsV (.ref p))) (ha : Ev m X e σ B H (K3.IsD (.list es))) (hz : ds.length + es.length ≤ 100000)
    (k : ∀ B' H', Same B B' → Stp m B0 H0 B' H' → Mu m B' H' p (ds ++ es) → (∀ q es, q ≠ p → Mu m B H q es → Mu m B' H' q es) → wSs X rest D σ H')
    (hbase : attributeBase o "extend" X.env (eval o X.env) = eval o X.env := by rfl)
    (hfew : ((backTo cpos (starEach [e] X.env)).all (fun x => !x.1) && (backToKw cpos (keywordEach [] X.env)).all (fun x => x.1.isSome) && decide (([e] : List Expr).length + ([] : List Keyword).length + (if ([] : List Keyword).isEmpty then 0 else 1) < 30)) = true := by rfl)
    (hline : (apos.endLine == cpos.line) = true := by rfl) (hs : starEach [e] X.env = (false, eval e X.env) :: starEach [] X.env := by rfl) (hsw : swapsWith (.Call (.Attribute o "extend" apos) [e] [] cpos) none pos.line X.env = pure false := by rfl) :
    wSs X (.Expr (.Call (.Attribute o "extend" apos) [e] [] cpos) pos :: rest) D σ H := by
  refine ws_cons (ps_expr (pe_bm PySem.F.plainAttrs_list PySem.F.slot_list_extend PySem.F.type_list_extend mt_extend pe_w pa_w hbase hfew hline hs) hsw) ?_
  refine ho B H S.here _ fun v B1 H1 s1 r1 => ?_
  obtain rfl : v = .ref p := r1
  obtain ⟨zs, h1, _⟩ := (M.mono s1).ex
  refine ⟨.inl ⟨rfl, zs, SqL.of h1⟩, (ea1 ha hs) B1 H1 s1 _ fun vs B2 H2 s2 r => ?_⟩
  obtain ⟨w, rfl, r5⟩ := args1 r
  obtain ⟨t, ws, rfl, h4, h5⟩ := Dq.lst_ex r5
  obtain ⟨ys, h2, h3⟩ := (M.mono (s1.trans s2)).ex
  have hl := h3.len
  have hl5 := h5.len
  refine ⟨p, t, ys, ws, rfl, rfl, h2, s2.s _ _ h4, Nat.le_trans (by rw [hl, hl5]; exact hz) (by decide), ?_⟩
  have M2 := M.mono (s1.trans s2)
  exact k B2 _ (s1.trans s2).b ((S.trans (s1.trans s2)).put M2 h0) (M2.put (h3.app h5)) fun q es hq N => (N.mono (s1.trans s2)).other (Ne.symm hq)
/-- o[i] = e -/
theorem ws_setix {j : Nat} {z : Int} (S : Stp m B0 H0 B H) (M : Mu m B H p ds) (h0 : H0 p = none) (ha : Ev m X e σ B H (K3.IsD d)) (ho : Ev m X o σ B H (IsV (.ref p))) (hi : Ev m X i σ B H (K3.IsD (.int z))) (hj : ixN ds.length z = some j)
    (k : ∀ B' H', Same B B' → Stp m B0 H0 B' H' → Mu m B' H' p (ds.set j d) → (∀ q es, q ≠ p → Mu m B H q es → Mu m B' H' q es) → wSs X rest D σ H')
    (hs : swapsWithSole [.Subscript o i p1] e pos.line X.env = pure false := by rfl) (hw : swappedStores [.Subscript o i p1] e X.env = pure none := by rfl) (h1 : (assignEach [.Subscript o i p1] X.env).map (·.2) = [assign (.Subscript o i p1) X.env] := by rfl)
    (has : ∀ v, assign (.Subscript o i p1) X.env v = (do
      let ov ← holding [v] (eval o X.env)
      let iv ← holding [v, ov] (eval i X.env)
      standAt p1
      holding [v, ov, iv] (setItem ov iv v)
      release [v, ov, iv] []) := by intro _; rfl) : wSs X (.Assign [.Subscript o i p1] e pos :: rest) D σ H := by
  refine ws_cons (ps_asg pe_w (pg_sub pe_w pe_w set_list has) hs hw h1) ?_
  refine ha B H S.here _ fun v B1 H1 s1 r1 => ?_
  refine ho B1 H1 s1 _ fun w B2 H2 s2 r2 => ?_
  obtain rfl : w = .ref p := r2
  refine hi B2 H2 (s1.trans s2) _ fun u B3 H3 s3 r3 => ?_
  have s := (s1.trans s2).trans s3
  have M2 := M.mono s
  obtain ⟨ys, h2, h3⟩ := M2.ex
  refine ⟨p, ys, z, j, rfl, Dq.int_eq r3, h2, by rw [h3.len]; exact hj, ?_⟩
  exact k B3 _ s.b ((S.trans s).put M2 h0) (M2.put (h3.set (r1.mono (s2.trans s3).b) j)) fun q es hq N => (N.mono s).other (Ne.symm hq)
theorem ixN_nat {j n : Nat} (h : j < n) : ixN n (j : Int) = some j := by
  unfold ixN
  rw [if_pos (by omega), if_pos (by omega)]
  rfl
theorem ixN_int {n : Nat} {i : Int} (h0 : 0 ≤ i) (h : i < n) : ixN n i = some i.toNat := by
  unfold ixN
  rw [if_pos h0, if_pos h]
/-! ### several names at once -/
theorem tgL2 {K : PySem.W.Frag} {e1 e2 : PyData} {i j : Nat} : TgE K (gLst K 2 (gCons (gName i) (gCons (gName j) gNil))) (.list [e1, e2]) [i, j] (fun Γ => (Γ.set i (some (K3.IsD e1))).set j (some (K3.IsD e2))) := fun v σ B H Γ Q E r s q => by
  obtain ⟨a, xs, rfl, h1, h2⟩ := r.lst_ex
  cases h2 with
  | cons r1 h2 =>
    cases h2 with
    | cons r2 h2 =>
      cases h2
      refine ⟨a, _, rfl, SqL.of (s _ _ h1), rfl, _, _, rfl, _, _, rfl, rfl, q _ ((E.set (R := K3.IsD e1) r1).set (R := K3.IsD e2) r2) fun vs h => ?_⟩
      rw [wipe_set (h j (by simp)), wipe_set (h i (by simp))]
theorem ws_asgG {tg : Expr} {g : TG} {ixs : List Nat} {u : List (Option Rt) → List (Option Rt)} (S : Stp m B0 H0 B H) (E : Sl σ B Γ) (ha : Ev m X e σ B H (K3.IsD d)) (hg : PG X tg g) (T : TgE X.K g d ixs u)
    (k : ∀ σ' B' H', Stp m B H B' H' → Stp m B0 H0 B' H' → Sl σ' B' (u Γ) → wSs X rest D σ' H')
    (hs : swapsWithSole [tg] e pos.line X.env = pure false := by rfl) (hw : swappedStores [tg] e X.env = pure none := by rfl) (h1 : (assignEach [tg] X.env).map (·.2) = [assign tg X.env] := by rfl) : wSs X (.Assign [tg] e pos :: rest) D σ H :=
  ws_cons (ps_asg pe_w hg hs hw h1) (ha B H S.here _ fun v B1 H1 s1 r1 => T v σ B1 H1 Γ _ (E.mono s1.b) r1 s1.s fun σ' E' _ => k σ' B1 H1 s1 (S.trans s1) E')
/-- x, y = a, b with plain names -/
theorem ws_par {px py pt : Pos} {kt k2 : Nat} {pt2 : Pos} (S : Stp m B0 H0 B H) (E : Sl σ B Γ) (i j : Nat) [mr1 : Mn R1] [mr2 : Mn R2] (ha : Ev m X a σ B H R1) (hb : Ev m X b σ B H R2)
    (k : ∀ v w B' H', Stp m B H B' H' → Stp m B0 H0 B' H' → R1 v B' → R2 w B' → Sl ((σ.set i (some v)).set j (some w)) B' ((Γ.set i (some R1)).set j (some R2)) → wSs X rest D ((σ.set i (some v)).set j (some w)) H')
    (hN : X.N.Nodup) (hc : X.calm = true := by rfl) (hi : X.N[i]? = some x := by rfl) (hj : X.N[j]? = some y := by rfl) (hij : i ≠ j := by decide) (hx : X.env.scope.names.lookup x = some .local := by rfl) (hy : X.env.scope.names.lookup y = some .local := by rfl)
    (hw : swappedStores [.Tuple [.Name x px, .Name y py] kt pt] (.Tuple [a, b] k2 pt2) X.env = pure (some [x, y]) := by rfl) (hs : swapsWithSole [.Tuple [.Name x px, .Name y py] kt pt] (.Tuple [a, b] k2 pt2) pos.line X.env = pure false := by rfl)
    (hst : starEach (a :: [b]) X.env = (false, eval a X.env) :: starEach [b] X.env := by rfl) (hst2 : starEach [b] X.env = (false, eval b X.env) :: starEach [] X.env := by rfl) :
    wSs X (.Assign [.Tuple [.Name x px, .Name y py] kt pt] (.Tuple [a, b] k2 pt2) pos :: rest) D σ H :=
  ws_cons (ps_par hc hN hi hj hij hx hy pa_w hw hs) ((ea2 ha hb hst hst2) B H S.here _ fun vs B1 H1 s1 r => by
    obtain ⟨v, w, rfl, r1, r2⟩ := args2 r
    exact ⟨v, w, rfl, k v w B1 H1 s1 (S.trans s1) r1 r2 (((E.mono s1.b).set r1).set r2)⟩)
/-- .. the second one a new list -/
theorem ws_parM {px py pt : Pos} {kt k2 : Nat} {pt2 : Pos} (S : Stp m B0 H0 B H) (E : Sl σ B Γ) (i j : Nat) [mr1 : Mn R1] (ha : Ev m X a σ B H R1) (hb : EvM m X b σ B H ds)
    (k : ∀ v p B' H', Stp m B H B' H' → Stp m B0 H0 B' H' → R1 v B' → H p = none → H0 p = none → Mu m B' H' p ds → Sl ((σ.set i (some v)).set j (some (.ref p))) B' ((Γ.set i (some R1)).set j (some (IsV (.ref p)))) → wSs X rest D ((σ.set i (some v)).set j (some (.ref p))) H')
    (hN : X.N.Nodup) (hc : X.calm = true := by rfl) (hi : X.N[i]? = some x := by rfl) (hj : X.N[j]? = some y := by rfl) (hij : i ≠ j := by decide) (hx : X.env.scope.names.lookup x = some .local := by rfl) (hy : X.env.scope.names.lookup y = some .local := by rfl)
    (hw : swappedStores [.Tuple [.Name x px, .Name y py] kt pt] (.Tuple [a, b] k2 pt2) X.env = pure (some [x, y]) := by rfl) (hs : swapsWithSole [.Tuple [.Name x px, .Name y py] kt pt] (.Tuple [a, b] k2 pt2) pos.line X.env = pure false := by rfl)
    (hst : starEach (a :: [b]) X.env = (false, eval a X.env) :: starEach [b] X.env := by rfl) (hst2 : starEach [b] X.env = (false, eval b X.env) :: starEach [] X.env := by rfl) :
    wSs X (.Assign [.Tuple [.Name x px, .Name y py] kt pt] (.Tuple [a, b] k2 pt2) pos :: rest) D σ H :=
  ws_cons (ps_par hc hN hi hj hij hx hy (pa_cons pe_w (pa_cons pe_w pa_nil hst2) hst) hw hs) (ha B H S.here _ fun v B1 H1 s1 r1 => hb B1 H1 s1 _ fun p zs B2 H2 s2 n1 n2 hz hd =>
    ⟨v, .ref p, rfl, k v p B2 H2 (s1.trans s2) (S.trans (s1.trans s2)) (mr1.mn v _ _ s2.b r1) (s1.t p n1) (S.t p (s1.t p n1)) ⟨s1.p.ne n1, n2, zs, hz, hd⟩ (((E.mono (s1.trans s2).b).set (mr1.mn v _ _ s2.b r1)).set rfl)⟩)
/-! ### isinstance -/
def tyN : PyData → String
  | .none => "NoneType"
  | .bool _ => "bool"
  | .int _ => "int"
  | .str _ => "str"
  | .list _ => "list"
  | .tuple _ => "tuple"
  | .dict _ => "dict"
/-- no instance -/
def noIns : PyData → Bool
  | .dict ((.none, _) :: _) => false
  | _ => true
theorem dq_ty {K : PySem.W.Frag} {v : V} (h : Dq H v d) (hn : noIns d = true) : TyX K H v (.type (tyN d)) := by
  cases h with
  | non => exact .base .non
  | bl b => exact .base (.bl b)
  | int i => exact .base (.int i)
  | str x => exact .base (.str x)
  | lst h _ => exact .base (.lst h)
  | tup h _ => exact .base (.tup h)
  | dic h => exact .base (.dK h)
  | ins h _ => exact absurd hn (by simp [noIns, insD])
theorem ev_isi {T : String} {r : Bool} (hm : X.mg "isinstance" = none) (hm2 : X.mg x = none) (hv : bootBuiltins x = some (.type T)) (h : Ev m X e σ B H (K3.IsD d)) (hb : kitB (tyN d) T = some r) (hn : noIns d = true := by rfl) (hg : Gl X "isinstance" := by rfl) (hg2 : Gl X x := by rfl) (hx : x ≠ "__name__" := by decide) (hd : (x == ("__debug__" : Str)) = false := by decide)
    (hs : starEach (e :: [.Name x p2]) X.env = (false, eval e X.env) :: starEach [.Name x p2] X.env := by rfl) (hs2 : starEach [.Name x p2] X.env = (false, eval (.Name x p2) X.env) :: starEach [] X.env := by rfl) (hpl : (backTo pos (starEach [.Name x p2] X.env)).any (·.1) = false := by rfl) :
    Ev m X (.Call (.Name "isinstance" p1) [e, .Name x p2] [] pos) σ B H (K3.IsD (.bool r)) :=
  ev_blt call_isi hm PyProof.Rows.boot_isinstance (ea2 (R1 := IsV (.ty T)) h (ev_c (t := tC .non) (pe_bltn (v := .ty T) hg2 hm2 hv rfl hx hd) fun _ => rfl) hs hs2) (fun vs B1 H1 Q s1 r q => by
    obtain ⟨v, u, rfl, r1, r2⟩ := args2 r
    obtain rfl : u = .ty T := r2
    exact ⟨v, _, _, _, _, rfl, .ty T, dq_ty (r1.mono s1.s) hn, kit_ty hb, q _ B1 H1 s1.here (.bl _)⟩) hg (he := hs) (hpl := hpl)
/-- isinstance(x, (S, T)) -/
theorem ev_isi2 {S T : String} {r r' : Bool} {kk : Nat} (hm : X.mg "isinstance" = none) (hm2 : X.mg x = none) (hv : bootBuiltins x = some (.type S)) (hm3 : X.mg y = none) (hv3 : bootBuiltins y = some (.type T)) (h : Ev m X e σ B H (K3.IsD d)) (hb : kitB (tyN d) S = some r) (hb' : kitB (tyN d) T = some r') (hn : noIns d = true := by rfl)
    (hg : Gl X "isinstance" := by rfl) (hg2 : Gl X x := by rfl) (hg3 : Gl X y := by rfl) (hx : x ≠ "__name__" := by decide) (hd : (x == ("__debug__" : Str)) = false := by decide) (hx3 : y ≠ "__name__" := by decide) (hd3 : (y == ("__debug__" : Str)) = false := by decide)
    (hs : starEach (e :: [.Tuple [.Name x p2, .Name y p3] kk apos]) X.env = (false, eval e X.env) :: starEach [.Tuple [.Name x p2, .Name y p3] kk apos] X.env := by rfl) (hs2 : starEach [.Tuple [.Name x p2, .Name y p3] kk apos] X.env = (false, eval (.Tuple [.Name x p2, .Name y p3] kk apos) X.env) :: starEach [] X.env := by rfl)
    (hs3 : starEach (.Name x p2 :: [.Name y p3]) X.env = (false, eval (.Name x p2) X.env) :: starEach [.Name y p3] X.env := by rfl) (hs4 : starEach [.Name y p3] X.env = (false, eval (.Name y p3) X.env) :: starEach [] X.env := by rfl) (hpl : (backTo pos (starEach [.Tuple [.Name x p2, .Name y p3] kk apos] X.env)).any (·.1) = false := by rfl) :
    Ev m X (.Call (.Name "isinstance" p1) [e, .Tuple [.Name x p2, .Name y p3] kk apos] [] pos) σ B H (K3.IsD (.bool (r || r'))) := by
  refine ev_by (pe_callB call_isiT hg hm PyProof.Rows.boot_isinstance (pa_cons pe_w (pa_cons (pe_tup (pa_cons (pe_bltn hg2 hm2 hv (v := .ty S) rfl hx hd) (pa_cons (pe_bltn hg3 hm3 hv3 (v := .ty T) rfl hx3 hd3) pa_nil hs4) hs3)) pa_nil hs2) hs) (he := hs) (hpl := hpl)) fun B1 H1 s1 Q q => h B1 H1 s1 _ fun v B2 H2 s2 r2 => ?_
  refine ⟨by show 2 ≤ sizeLine; decide, fun t ht => ?_⟩
  refine ⟨v, t, [.ty S, .ty T], _, [.type S, .type T], r || r', rfl, upd_same, .cons (.ty S) (.cons (.ty T) .nil), dq_ty ((r2.mono s2.s).mono (same_upd ht)) hn, ?_, q _ B2 _ (s2.mnew ht) (.bl _)⟩
  refine kitAny_cons (kit_ty hb) (fun e => ?_) (fun e => by rw [e]; rfl)
  refine kitAny_cons (b := r') (kit_ty hb') (fun e' => by rw [kitAny_nil, e, e']; rfl) (fun e' => by rw [e, e']; rfl)
end
end K3
/-! TEXT K8f -/
set_option Elab.async false
set_option linter.all false
set_option maxRecDepth 100000
set_option maxHeartbeats 1000000
namespace K3
open PySem PySem.Spec L2

/-! ### less is said of the slots -/
inductive GLe : List (Option Rt) → List (Option Rt) → Prop where
  | nil : GLe [] []
  | keep {x : Option Rt} {G' G : List (Option Rt)} (h : GLe G' G) : GLe (x :: G') (x :: G)
  | skip {x : Option Rt} {G' G : List (Option Rt)} (h : GLe G' G) : GLe (none :: G') (x :: G)
theorem GLe.at_ : ∀ {G' G : List (Option Rt)}, GLe G' G → G.length = G'.length ∧ ∀ (i : Nat) R, G'[i]? = some (some R) → G[i]? = some (some R)
  | _, _, .nil => ⟨rfl, fun _ _ h => h⟩
  | _, _, .keep h => ⟨congrArg Nat.succ h.at_.1, fun i R e => by
    cases i with
    | zero => exact e
    | succ i => exact h.at_.2 i R e⟩
  | _, _, .skip h => ⟨congrArg Nat.succ h.at_.1, fun i R e => by
    cases i with
    | zero => cases e
    | succ i => exact h.at_.2 i R e⟩
theorem Sl.to {σ : L2.St} {B : Hp} {G G' : List (Option Rt)} (E : Sl σ B G) (h : GLe G' G := by repeat (first | exact GLe.nil | refine GLe.keep ?_ | refine GLe.skip ?_)) : Sl σ B G' := E.weak h.at_.1 h.at_.2
/-! ### the context of a def -/
abbrev XO (P : Program) (w : World) (K : PySem.W.Frag) (mg : Str → Option Value) (base : Heap) (N : List Str) (qual : Str) (st : Stmt) (f : Addr) (cdv : Value) (A : Around) (outer : List PySem.Env) (s : Shared) (H : Hp) (E : XK) : Cx :=
  (cxOf CX0 P w K mg base N qual (defScope st) f cdv A outer s H E).nox
section
variable {P : Program} {w : World} {K : PySem.W.Frag} {mg : Str → Option Value} {base : Heap}
/-- THE RULE of a def -/
theorem fn_ok {x qual : Str} {st : Stmt} {f : Addr} {fd : FuncData} {dvs : List V} {kws : List (Str × V)} {N ps : List Str} {k : Nat} {m : Option Addr} {Rs : List Rt} [Mns Rs] {R : Rt} (F : FunD K x qual (defArgs st) (defBody st) (defScope st) dvs kws f fd) (S : FnScope N ps (defScope st)) (hl : Rs.length = ps.length)
    (body : ∀ cdv A outer s E B H vs (Q : VK), Room k (XO P w K mg base N qual st f cdv A outer s H E).A → Stp m B H B H → Sl (L2.start N vs) B (Rs.map some ++ List.replicate (N.length - Rs.length) none) → (∀ v B' H', Stp m B H B' H' → R v B' → Q v H') →
      wSs (XO P w K mg base N qual st f cdv A outer s H E) (defBody st) { nx := fun _ H' => Q .non H', rt := Q } (L2.start N vs) H) : FnOk P w K mg base CX0 (k + 1) f fd ps (spD m Rs R) := by
  refine F.ok S (fun vs H Q E h => ?_) (fun cdv A outer s H vs Q E hr h => ?_)
  · obtain ⟨B, _, _, a, _⟩ := h
    rw [a.len, hl]
  · obtain ⟨B, sb, hp, a, q⟩ := h
    exact ⟨_, PSs.nox pss_w, body cdv A outer s E B H vs Q hr (Stp.refl sb hp) (sl_start a) q⟩
/-- .. whose answer is a new list -/
theorem fn_okM {x qual : Str} {st : Stmt} {f : Addr} {fd : FuncData} {dvs : List V} {kws : List (Str × V)} {N ps : List Str} {k : Nat} {Rs : List Rt} [Mns Rs] {ds : List PyData} (F : FunD K x qual (defArgs st) (defBody st) (defScope st) dvs kws f fd) (S : FnScope N ps (defScope st)) (hl : Rs.length = ps.length)
    (body : ∀ cdv A outer s E B H vs (Q : VK), Room k (XO P w K mg base N qual st f cdv A outer s H E).A → Stp none B H B H → Sl (L2.start N vs) B (Rs.map some ++ List.replicate (N.length - Rs.length) none) → (∀ p zs B' H', Stp none B H B' H' → H p = none → B' p = none → H' p = some (.lst zs) → DqAll B' zs ds → Q (.ref p) H') →
      wSs (XO P w K mg base N qual st f cdv A outer s H E) (defBody st) { nx := fun _ H' => Q .non H', rt := Q } (L2.start N vs) H) : FnOk P w K mg base CX0 (k + 1) f fd ps (spM Rs ds) := by
  refine F.ok S (fun vs H Q E h => ?_) (fun cdv A outer s H vs Q E hr h => ?_)
  · obtain ⟨B, _, a, _⟩ := h
    rw [a.len, hl]
  · obtain ⟨B, sb, a, q⟩ := h
    exact ⟨_, PSs.nox pss_w, body cdv A outer s E B H vs Q hr (Stp.refl sb pot0) (sl_start a) q⟩
/-- what stands behind the top -/
structure Tx (K : PySem.W.Frag) (mg : Str → Option Value) : Prop where
  c : SaysP K
  glo : ∀ x, x ∈ gloL → mg x = some (.ref (He.ga K x))
  free : ∀ x, x ∈ freeL → mg x = none
  int : ∀ x i, He.Fa.int x i ∈ faL → ∃ t, mg x = some (.int i t)
  str : ∀ x z, He.Fa.str x z ∈ faL → ∃ t, mg x = some (.str z t)
theorem facts_mem {fa : List He.Fa} {fn : List He.DefD} {K : PySem.W.Frag} (c : He.SaysD fa fn K) {f : He.Fa} (h : f ∈ fa) : f.ok K = true := by
  obtain ⟨i, hi, e⟩ := List.mem_iff_getElem.mp h
  exact c.fact i (f := f) (by rw [List.getElem?_eq_getElem hi, e])
theorem tx_mk {h : Heap} (X : K.In h) (G : h.Ns mainGlobals mg) (c : SaysP K) : Tx K mg where
  c := c
  glo := fun x hx => He.glo_ok X G (facts_mem c.d (f := .glo x) (List.mem_append_left _ (List.mem_map_of_mem hx)))
  free := fun x hx => He.free_ok X G (facts_mem c.d (f := .free x) (List.mem_append_right _ (List.mem_append_left _ (List.mem_map_of_mem hx))))
  int := fun x i hx => He.int_ok X G (facts_mem c.d hx)
  str := fun x i hx => He.str_ok X G (facts_mem c.d hx)
/-- the i-th def of the list, called by its global name -/
theorem cl_mk {ps : List Str} {k : Nat} {sp : Sp} {x : Str} (T : Tx K mg) {d : He.DefD} (i : Nat) (h : fnL[i]? = some d) (ha : d.at_ = (x, none)) (hd : d.dfl = []) (hk : d.kwd = []) (hx : x ∈ gloL)
    (hb : ∀ (kV doc pm : Value) (an : Option Addr) (cdv ct : Value) (us : List Value), us.length = ps.length → bindArgs (PySem.W.fnOf d.name d.qual d.params d.body d.scope .none kV doc pm an cdv ct) ⟨us, []⟩ = pure (ps.zip us))
    (hf : ∀ f fd, FunD K d.name d.qual d.params d.body d.scope [] [] f fd → FnOk P w K mg base CX0 k f fd ps sp) : Cl P w K mg base x ps k sp := by
  obtain ⟨fd, F⟩ := T.c.d.def_ i h
  have e1 : d.dvs K = [] := by unfold He.DefD.dvs; rw [hd]; rfl
  have e2 : d.kws K = [] := by unfold He.DefD.kws; rw [hk]; rfl
  rw [e1, e2] at F
  have e3 : He.fAd K d.at_ = He.ga K x := by rw [ha]; rfl
  rw [e3] at F
  exact ⟨_, fd, T.glo x hx, F.kp, F.bindsN hb, hf _ _ F⟩
end
end K3
/-! TEXT F1 -/
set_option Elab.async false
set_option linter.all false
set_option maxRecDepth 100000
set_option maxHeartbeats 1000000
namespace K3
open PySem PySem.Spec L2
section
variable {P : Program} {w : World} {K : PySem.W.Frag} {mg : Str → Option Value} {base : Heap}
def isInt : PyData → Bool
  | .int _ => true
  | _ => false
theorem kit_int (d : PyData) (hn : noIns d = true) : ∃ r r', kitB (tyN d) "int" = some r ∧ kitB (tyN d) "bool" = some r' ∧ (r && !r') = isInt d := by
  cases d with
  | none => exact ⟨false, false, (by decide +kernel : kitB "NoneType" "int" = some false), (by decide +kernel : kitB "NoneType" "bool" = some false), rfl⟩
  | bool _ => exact ⟨true, true, (by decide +kernel : kitB "bool" "int" = some true), (by decide +kernel : kitB "bool" "bool" = some true), rfl⟩
  | int _ => exact ⟨true, false, (by decide +kernel : kitB "int" "int" = some true), (by decide +kernel : kitB "int" "bool" = some false), rfl⟩
  | str _ => exact ⟨false, false, (by decide +kernel : kitB "str" "int" = some false), (by decide +kernel : kitB "str" "bool" = some false), rfl⟩
  | list _ => exact ⟨false, false, (by decide +kernel : kitB "list" "int" = some false), (by decide +kernel : kitB "list" "bool" = some false), rfl⟩
  | tuple _ => exact ⟨false, false, (by decide +kernel : kitB "tuple" "int" = some false), (by decide +kernel : kitB "tuple" "bool" = some false), rfl⟩
  | dict _ => exact ⟨false, false, (by decide +kernel : kitB "dict" "int" = some false), (by decide +kernel : kitB "dict" "bool" = some false), rfl⟩
theorem T_free {x : Str} (T : Tx K mg) (h : x ∈ freeL := by decide +kernel) : mg x = none := T.free x h
theorem cl_is_integer (T : Tx K mg) (d : PyData) (hn : noIns d = true) : Cl P w K mg base "is_integer" ["value"] 1 (spD none [K3.IsD d] (K3.IsD (.bool (isInt d)))) :=
  cl_mk T 0 (d := d_is_integer) rfl rfl rfl rfl (by decide +kernel) (fun _ _ _ _ _ _ us hl => match us, hl with | [_], _ => rfl) fun f fd F => by
    refine fn_ok F sc_is_integer rfl fun cdv A outer s E0 B H vs Q hr S E q => ?_
    obtain ⟨r, r', h1, h2, h3⟩ := kit_int d hn
    refine ws_ret S (ev_and2 (ev_isi (T_free T) (T_free T) PyProof.Rows.boot_int (ev_v E 0) h1 hn) fun _ => ev_not (ev_isi (T_free T) (T_free T) PyProof.Rows.boot_bool (ev_v E 0) h2 hn)) ?_
    rw [h3]
    exact q
theorem cl_is_count (T : Tx K mg) (d : PyData) (hn : noIns d = true) (i : Int) (hd : d = .int i) : Cl P w K mg base "is_count" ["value"] 2 (spD none [K3.IsD d] (K3.IsD (.bool (decide (0 ≤ i))))) :=
  cl_mk T 1 (d := d_is_count) rfl rfl rfl rfl (by decide +kernel) (fun _ _ _ _ _ _ us hl => match us, hl with | [_], _ => rfl) fun f fd F => by
    refine fn_ok F sc_is_count rfl fun cdv A outer s E0 B H vs Q hr S E q => ?_
    subst hd
    exact ws_ret S (ev_and2 (ev_call (cl_is_integer T (.int i) rfl) hr (ea1 (ev_v E 0))) fun _ => ev_cmp cm_ge (ev_v E 0) ev_int) q
end
end K3
/-! TEXT M1 -/
set_option Elab.async false
set_option linter.all false
set_option maxRecDepth 100000
set_option maxHeartbeats 1000000
/-! what the defs reckon, as plain functions -/
namespace K3
open PySem
abbrev Lot := List (Int × Int)
abbrev Fam := List Lot
inductive Gk where
  | low | high | sort | copy | add
  deriving DecidableEq
def Gk.s : Gk → Str
  | .low => "low"
  | .high => "high"
  | .sort => "sort"
  | .copy => "copy"
  | .add => "add"
structure Gate where
  kind : Gk
  one : Int
  other : Int
  deriving DecidableEq
def encL (l : Lot) : PyData := .tuple (l.map pairD)
def encF (f : Fam) : PyData := .list (f.map encL)
def encT (t : List Fam) : PyData := .list (t.map encF)
def encG (g : Gate) : PyData := .tuple [.str g.kind.s, .int g.one, .int g.other]
def encI (l : List Int) : PyData := .list (l.map .int)
/-- a lot of lanes below n -/
structure Vl (n : Int) (l : Lot) : Prop where
  ne : l ≠ []
  up : l.Pairwise fun p q => p.1 < q.1
  rg : ∀ p ∈ l, 0 ≤ p.1 ∧ p.1 < n
def under (a b : Lot) : Bool := a.all fun p => match getI b p.1 with
  | none => false
  | some v => decide (p.2 ≤ v)
def srt (f : Fam) : Fam := f.mergeSort (PySem.W.dataLe false encL)
def srtP (l : Lot) : Lot := l.mergeSort (PySem.W.dataLe false pairD)
def srtI (l : List Int) : List Int := l.mergeSort (PySem.W.dataLe false PyData.int)
def keepStep (found : Fam) (lot : Lot) : Fam := if found.any (fun near => under near lot) = true then found else found.filter (fun o => !under lot o) ++ [lot]
def kept (lots : Fam) : Fam := srt (lots.foldl keepStep [])
def joinStep (acc : Lot) (p : Int × Int) : Lot := putI acc p.1 (max p.2 ((getI acc p.1).getD p.2))
def join (a b : Lot) : Lot := srtP (b.foldl joinStep a)
def joinsAll (f g : Fam) : Fam := f.flatMap fun a => g.map (join a)
def joins (f g : Fam) : Fam := kept (joinsAll f g)
def raised (f : Fam) (n : Int) : Fam := f.map fun l => l.map fun p => (p.1, p.2 + n)
def lanesStep (found : List Int) (lot : Lot) : List Int := found ++ (lot.filter fun p => !decide (p.1 ∈ found)).map (·.1)
def lanesRaw (f : Fam) : List Int := f.foldl lanesStep []
def lanesIn (f : Fam) : List Int := srtI (lanesRaw f)
def numsOf (f : Fam) : List Int := f.flatMap fun l => l.map (·.2)
/-- the least, the greatest of some numbers, read from the left -/
def exStep (least : Bool) (found n : Int) : Int := if (if least = true then decide (n < found) else decide (found < n)) = true then n else found
def extr (least : Bool) : List Int → Int
  | [] => 0
  | x :: xs => xs.foldl (exStep least) x
def farOf (f : Fam) : Int := max 1 (1 - extr true (numsOf f))
def setAll (l : Lot) (xs : List Int) : List Int := l.foldl (fun xs p => xs.set p.1.toNat (-p.2)) xs
def cornerV (l : Lot) (f : Fam) (n : Nat) : List Int := setAll l (List.replicate n (farOf f))
def at_ (t : List Fam) (i : Int) : Fam := t.getD i.toNat []
def told0 (n : Nat) : List Fam := (List.range n).map fun (i : Nat) => [[((i : Int), 0)]]
def toldStep (t : List Fam) (g : Gate) : List Fam := match g.kind with
  | .add => t.set g.one.toNat (raised (at_ t g.one) g.other)
  | .copy => t.set g.one.toNat (at_ t g.other)
  | .high => t.set g.one.toNat (joins (at_ t g.one) (at_ t g.other))
  | .low => t.set g.one.toNat (kept (at_ t g.one ++ at_ t g.other))
  | .sort => (t.set g.one.toNat (kept (at_ t g.one ++ at_ t g.other))).set g.other.toNat (joins (at_ t g.one) (at_ t g.other))
def told (n : Nat) (gs : List Gate) : List Fam := gs.foldl toldStep (told0 n)
/-- a gate of n lanes -/
structure Vg (n : Nat) (g : Gate) : Prop where
  one : 0 ≤ g.one ∧ g.one < n
  other : g.kind ≠ .add → 0 ≤ g.other ∧ g.other < n ∧ g.one ≠ g.other
/-- at every moment no family has more than so many lots -/
def few (k : Nat) (t : List Fam) : Prop := ∀ f ∈ t, f.length ≤ k
def FewAll (k n : Nat) (gs : List Gate) : Prop := ∀ i, i ≤ gs.length → few k (told n (gs.take i))
/-! what nets do -/
def doStep (x : List Int) (g : Gate) : List Int :=
  let a := x.getD g.one.toNat 0
  let b := x.getD g.other.toNat 0
  match g.kind with
  | .add => x.set g.one.toNat (a + g.other)
  | .copy => x.set g.one.toNat b
  | .high => x.set g.one.toNat (max a b)
  | .low => x.set g.one.toNat (min a b)
  | .sort => (x.set g.one.toNat (min a b)).set g.other.toNat (max a b)
def runG (gs : List Gate) (x : List Int) : List Int := gs.foldl doStep x
end K3
/-! TEXT F2 -/
set_option Elab.async false
set_option linter.all false
set_option maxRecDepth 100000
set_option maxHeartbeats 1000000
namespace K3
open PySem PySem.Spec L2
section
variable {P : Program} {w : World} {K : PySem.W.Frag} {mg : Str → Option Value} {base : Heap}
/-- a constant of the module -/
theorem ev_gint {m : Option Addr} {X : Cx} {σ : L2.St} {B H : Hp} {pos : Pos} {x : Str} {i : Int} (h : ∃ t, X.mg x = some (.int i t)) (hg : Gl X x := by rfl) (hd : (x == ("__debug__" : Str)) = false := by decide) : Ev m X (.Name x pos) σ B H (K3.IsD (.int i)) := by
  obtain ⟨t, h⟩ := h
  exact ev_glob (v := .int i) hg h ⟨t, rfl⟩ hd fun _ => .int i
theorem ev_gstr {m : Option Addr} {X : Cx} {σ : L2.St} {B H : Hp} {pos : Pos} {x : Str} {i : Str} (h : ∃ t, X.mg x = some (.str i t)) (hg : Gl X x := by rfl) (hd : (x == ("__debug__" : Str)) = false := by decide) : Ev m X (.Name x pos) σ B H (K3.IsD (.str i)) := by
  obtain ⟨t, h⟩ := h
  exact ev_glob (v := .str i) hg h ⟨t, rfl⟩ hd fun _ => .str i
theorem mem_fa {f : He.Fa} {l : List He.Fa} (i : Nat) (h : l[i]? = some f) : f ∈ l := List.mem_of_getElem? h
theorem T_MOST (T : Tx K mg) : ∃ t, mg "MOST" = some (.int 12 t) := T.int _ _ (List.mem_append_right _ (List.mem_append_right _ (List.mem_append_left _ (mem_fa 0 rfl))))
theorem T_MOST_LANES (T : Tx K mg) : ∃ t, mg "MOST_LANES" = some (.int 12 t) := T.int _ _ (List.mem_append_right _ (List.mem_append_right _ (List.mem_append_left _ (mem_fa 1 rfl))))
theorem T_MOST_GIVEN (T : Tx K mg) : ∃ t, mg "MOST_GIVEN" = some (.int 200 t) := T.int _ _ (List.mem_append_right _ (List.mem_append_right _ (List.mem_append_left _ (mem_fa 2 rfl))))
theorem T_MOST_LOTS (T : Tx K mg) : ∃ t, mg "MOST_LOTS" = some (.int 60 t) := T.int _ _ (List.mem_append_right _ (List.mem_append_right _ (List.mem_append_left _ (mem_fa 3 rfl))))
theorem T_LOW (T : Tx K mg) : ∃ t, mg "LOW" = some (.str "low" t) := T.str _ _ (List.mem_append_right _ (List.mem_append_right _ (List.mem_append_left _ (mem_fa 4 rfl))))
theorem T_HIGH (T : Tx K mg) : ∃ t, mg "HIGH" = some (.str "high" t) := T.str _ _ (List.mem_append_right _ (List.mem_append_right _ (List.mem_append_left _ (mem_fa 5 rfl))))
theorem T_SORT (T : Tx K mg) : ∃ t, mg "SORT" = some (.str "sort" t) := T.str _ _ (List.mem_append_right _ (List.mem_append_right _ (List.mem_append_left _ (mem_fa 6 rfl))))
theorem T_COPY (T : Tx K mg) : ∃ t, mg "COPY" = some (.str "copy" t) := T.str _ _ (List.mem_append_right _ (List.mem_append_right _ (List.mem_append_left _ (mem_fa 7 rfl))))
theorem T_ADD (T : Tx K mg) : ∃ t, mg "ADD" = some (.str "add" t) := T.str _ _ (List.mem_append_right _ (List.mem_append_right _ (List.mem_append_left _ (mem_fa 8 rfl))))
def isList : PyData → Bool
  | .list _ => true
  | .tuple _ => true
  | _ => false
theorem kit_list (d : PyData) (hd : isList d = true) : ∃ r r', kitB (tyN d) "list" = some r ∧ kitB (tyN d) "tuple" = some r' ∧ (r || r') = true := by
  cases d with
  | list _ => exact ⟨true, false, (by decide +kernel : kitB "list" "list" = some true), (by decide +kernel : kitB "list" "tuple" = some false), rfl⟩
  | tuple _ => exact ⟨false, true, (by decide +kernel : kitB "tuple" "list" = some false), (by decide +kernel : kitB "tuple" "tuple" = some true), rfl⟩
  | _ => cases hd
theorem noIns_list {d : PyData} (hd : isList d = true) : noIns d = true := by
  cases d <;> first | rfl | cases hd
theorem cl_is_list (T : Tx K mg) (d : PyData) (hd : isList d = true) : Cl P w K mg base "is_list" ["value"] 1 (spD none [K3.IsD d] (K3.IsD (.bool true))) :=
  cl_mk T 2 (d := d_is_list) rfl rfl rfl rfl (by decide +kernel) (fun _ _ _ _ _ _ us hl => match us, hl with | [_], _ => rfl) fun fa fdd FF => by
    refine fn_ok FF sc_is_list rfl fun cdv A outer s E0 B H vs Q hr S E q => ?_
    obtain ⟨r, r', h1, h2, h3⟩ := kit_list d hd
    exact ws_ret S ((ev_isi2 (T_free T) (T_free T) PyProof.Rows.boot_list (T_free T) PyProof.Rows.boot_tuple (ev_v E 0) h1 h2 (noIns_list hd)).cast (by rw [h3])) q
theorem ev_allT {α : Type} {m : Option Addr} {X : Cx} {e : Expr} {σ : L2.St} {B H : Hp} {pos p1 : Pos} {xs : List α} {f : α → Bool} (hm : X.mg "all" = none) (h : EvM m X e σ B H (xs.map fun x => .bool (f x))) (hf : ∀ x ∈ xs, f x = true) (hc : X.calm = true := by rfl) (hg : Gl X "all" := by rfl) (hs : starEach [e] X.env = (false, eval e X.env) :: starEach [] X.env := by rfl) :
    Ev m X (.Call (.Name "all" p1) [e] [] pos) σ B H (K3.IsD (.bool true)) := by
  have e1 : (xs.map fun x => PyData.bool (f x)) = (xs.map f).map .bool := by rw [List.map_map]; rfl
  have e2 : ((xs.map f).all id) = true := by rw [List.all_map, List.all_eq_true]; exact hf
  rw [← e2]
  exact ev_all hm hc (h.ev.cast (by rw [e1])) hg hs
theorem ev_allB {α : Type} {m : Option Addr} {X : Cx} {e : Expr} {σ : L2.St} {B H : Hp} {pos p1 : Pos} {xs : List α} {f : α → Bool} (hm : X.mg "all" = none) (h : EvM m X e σ B H (xs.map fun x => .bool (f x))) (hc : X.calm = true := by rfl) (hg : Gl X "all" := by rfl) (hs : starEach [e] X.env = (false, eval e X.env) :: starEach [] X.env := by rfl) :
    Ev m X (.Call (.Name "all" p1) [e] [] pos) σ B H (K3.IsD (.bool (xs.all f))) := by
  have e1 : (xs.map fun x => PyData.bool (f x)) = (xs.map f).map .bool := by rw [List.map_map]; rfl
  have e2 : ((xs.map f).all id) = xs.all f := by rw [List.all_map]; rfl
  rw [← e2]
  exact ev_all hm hc (h.ev.cast (by rw [e1])) hg hs
theorem ev_anyB {α : Type} {m : Option Addr} {X : Cx} {e : Expr} {σ : L2.St} {B H : Hp} {pos p1 : Pos} {xs : List α} {f : α → Bool} (hm : X.mg "any" = none) (h : EvM m X e σ B H (xs.map fun x => .bool (f x))) (hc : X.calm = true := by rfl) (hg : Gl X "any" := by rfl) (hs : starEach [e] X.env = (false, eval e X.env) :: starEach [] X.env := by rfl) :
    Ev m X (.Call (.Name "any" p1) [e] [] pos) σ B H (K3.IsD (.bool (xs.any f))) := by
  have e1 : (xs.map fun x => PyData.bool (f x)) = (xs.map f).map .bool := by rw [List.map_map]; rfl
  have e2 : ((xs.map f).any id) = xs.any f := by rw [List.any_map]; rfl
  rw [← e2]
  exact ev_any hm hc (h.ev.cast (by rw [e1])) hg hs
theorem cl_is_int (T : Tx K mg) (i : Int) : Cl P w K mg base "is_integer" ["value"] 1 (spD none [K3.IsD (.int i)] (K3.IsD (.bool true))) := cl_is_integer T (.int i) rfl
theorem cl_is_cnt (T : Tx K mg) (i : Int) : Cl P w K mg base "is_count" ["value"] 2 (spD none [K3.IsD (.int i)] (K3.IsD (.bool (decide (0 ≤ i))))) := cl_is_count T (.int i) rfl i rfl
theorem cl_is_content (T : Tx K mg) (xs : List Int) (h1 : 1 ≤ xs.length) (h2 : xs.length ≤ 12) : Cl P w K mg base "is_content" ["value"] 2 (spD none [K3.IsD (encI xs)] (K3.IsD (.bool true))) :=
  cl_mk T 3 (d := d_is_content) rfl rfl rfl rfl (by decide +kernel) (fun _ _ _ _ _ _ us hl => match us, hl with | [_], _ => rfl) fun fa fdd FF => by
    refine fn_ok FF sc_is_content rfl fun cdv A outer s E0 B H vs Q hr S E q => ?_
    refine ws_ret S ((ev_and3 (ev_call (cl_is_list T _ rfl) hr (ea1 (ev_v E 0))) (fun _ => ev_chain cm_le cm_le ev_int (ev_lenL (T_free T) (ev_v E 0)) (ev_gint (T_MOST T))) fun _ _ =>
      ev_allT (f := fun _ => true) (T_free T) (em_lc (own := [("number", 1)]) E (wk_list (ev_v E 0)).s rfl sc_is_content.nd (blkOk_by (own := [("number", 1)]) (N := N_is_content) (sc := defScope s_is_content) (by decide +kernel)) (fun _ _ _ _ _ => pg_name (i := 1) sc_is_content.nd rfl (by first | exact Or.inl rfl | exact Or.inr rfl)) (fun x _ => tg1)
        (fun s0 H0 C cl fp x σ1 B1 H1 hx s1 E1 => ev_call (cl_is_int T x) hr (ea1 (ev_v E1 1))) (by omega)) fun _ _ => rfl).cast ?_) q
    rw [List.length_map, decide_eq_true (by omega), decide_eq_true (by omega)]
    rfl
end
end K3
/-! TEXT F3 -/
set_option Elab.async false
set_option linter.all false
set_option maxRecDepth 100000
set_option maxHeartbeats 1000000
namespace K3
open PySem PySem.Spec L2
section
variable {P : Program} {w : World} {K : PySem.W.Frag} {mg : Str → Option Value} {base : Heap}
theorem cut_from {α : Type} (xs : List α) (k : Nat) : cutD xs (some (k : Int)) none = xs.drop k := by
  unfold cutD
  rw [HT.sIx_nat, HT.sIx_none]
  rcases Nat.le_total k xs.length with h | h
  · rw [Nat.min_eq_left h, List.take_of_length_le (by rw [List.length_drop]; omega)]
  · rw [Nat.min_eq_right h, List.drop_of_length_le (Nat.le_refl _), List.drop_of_length_le h, List.take_nil]
theorem cut_to {α : Type} (xs : List α) (k : Nat) : cutD xs none (some (k : Int)) = xs.take k := by
  unfold cutD
  rw [HT.sIx_nat, HT.sIx_none, List.drop_zero, Nat.sub_zero]
  rcases Nat.le_total k xs.length with h | h
  · rw [Nat.min_eq_left h]
  · rw [Nat.min_eq_right h, List.take_of_length_le (Nat.le_refl _), List.take_of_length_le h]
theorem take_last {α : Type} {xs : List α} {i : Nat} {x : α} (h : xs[i]? = some x) : xs.take (i + 1) = xs.take i ++ [x] := by rw [List.take_succ, h] <;> rfl
theorem vl_len {n : Int} {l : Lot} (h : Vl n l) : (l.length : Int) ≤ n := by
  have key : ∀ (l : Lot) (a : Int), l.Pairwise (fun p q => p.1 < q.1) → (∀ p ∈ l, a ≤ p.1 ∧ p.1 < n) → a ≤ n → (l.length : Int) ≤ n - a := by
    intro l
    induction l with
    | nil => intro a _ _ h; simp; omega
    | cons p l ih =>
      intro a h1 h2 h3
      have h4 := List.pairwise_cons.mp h1
      have h5 := h2 p List.mem_cons_self
      have h6 := ih (p.1 + 1) h4.2 (fun q hq => ⟨by have := h4.1 q hq; omega, (h2 q (List.mem_cons_of_mem _ hq)).2⟩) (by omega)
      rw [List.length_cons]
      omega
  have h0 := h.rg (l.head h.ne) (List.head_mem h.ne)
  have := key l 0 h.up h.rg (by omega)
  omega
theorem Vl.mono {n m : Int} {l : Lot} (h : Vl n l) (hn : n ≤ m) : Vl m l := ⟨h.ne, h.up, fun p hp => ⟨(h.rg p hp).1, Int.lt_of_lt_of_le (h.rg p hp).2 hn⟩⟩
theorem cl_is_lane_b (T : Tx K mg) (n v : Int) : Cl P w K mg base "is_lane_basics" ["lanes", "value"] 3 (spD none [K3.IsD (.int n), K3.IsD (.int v)] (K3.IsD (.bool (decide (0 ≤ v) && decide (v < n))))) :=
  cl_mk T 4 (d := d_is_lane_basics) rfl rfl rfl rfl (by decide +kernel) (fun _ _ _ _ _ _ us hl => match us, hl with | [_, _], _ => rfl) fun fa fdd FF => by
    refine fn_ok FF sc_is_lane_basics rfl fun cdv A outer s E0 B H vs Q hr S E q => ?_
    exact ws_ret S (ev_and2 (ev_call (cl_is_cnt T v) hr (ea1 (ev_v E 1))) fun _ => ev_cmp cm_lt (ev_v E 1) (ev_v E 0)) q
theorem cl_is_lane_l (T : Tx K mg) (v : Int) : Cl P w K mg base "is_lane_lots" ["value"] 2 (spD none [K3.IsD (.int v)] (K3.IsD (.bool (decide (0 ≤ v) && decide (v < 12))))) :=
  cl_mk T 7 (d := d_is_lane_lots) rfl rfl rfl rfl (by decide +kernel) (fun _ _ _ _ _ _ us hl => match us, hl with | [_], _ => rfl) fun fa fdd FF => by
    refine fn_ok FF sc_is_lane_lots rfl fun cdv A outer s E0 B H vs Q hr S E q => ?_
    exact ws_ret S ((ev_and2 (ev_call (cl_is_int T v) hr (ea1 (ev_v E 0))) fun _ => ev_chain cm_le cm_lt ev_int (ev_v E 0) (ev_gint (T_MOST_LANES T))).cast (by rw [Bool.true_and])) q
theorem cl_want_lane (T : Tx K mg) (n v : Int) (h0 : 0 ≤ v) (h1 : v < n) : Cl P w K mg base "want_lane" ["lanes", "value"] 4 (spD none [K3.IsD (.int n), K3.IsD (.int v)] (K3.IsD .none)) :=
  cl_mk T 6 (d := d_want_lane) rfl rfl rfl rfl (by decide +kernel) (fun _ _ _ _ _ _ us hl => match us, hl with | [_, _], _ => rfl) fun fa fdd FF => by
    refine fn_ok FF sc_want_lane rfl fun cdv A outer s E0 B H vs Q hr S E q => ?_
    refine ws_no S ((et_not (et_val (ev_call (cl_is_lane_b T n v) hr (ea2 (ev_v E 0) (ev_v E 1))))).cast ?_) fun B' H' s S => ws_nil (q _ _ _ S .non)
    rw [decide_eq_true h0, decide_eq_true h1]; rfl
theorem cl_want_content_of (T : Tx K mg) (n : Int) (xs : List Int) (h1 : 1 ≤ xs.length) (h2 : xs.length ≤ 12) (hn : (xs.length : Int) = n) : Cl P w K mg base "want_content_of" ["lanes", "value"] 3 (spD none [K3.IsD (.int n), K3.IsD (encI xs)] (K3.IsD .none)) :=
  cl_mk T 5 (d := d_want_content_of) rfl rfl rfl rfl (by decide +kernel) (fun _ _ _ _ _ _ us hl => match us, hl with | [_, _], _ => rfl) fun fa fdd FF => by
    refine fn_ok FF sc_want_content_of rfl fun cdv A outer s E0 B H vs Q hr S E q => ?_
    refine ws_no S ((et_or2 (et_not (et_val (ev_call (cl_is_content T xs h1 h2) hr (ea1 (ev_v E 1))))) fun _ => et_cmp cm_neI (ev_lenL (T_free T) (ev_v E 1)) (ev_v E 0)).cast ?_) fun B' H' s S => ws_nil (q _ _ _ S .non)
    rw [List.length_map, hn]
    simp
theorem et_nT {m : Option Addr} {X : Cx} {e : Expr} {σ : L2.St} {B H : Hp} {pos : Pos} (h : EvT m X e σ B H true) : EvT m X (.UnaryOp .Not e pos) σ B H false := et_not h
theorem et_nF {m : Option Addr} {X : Cx} {e : Expr} {σ : L2.St} {B H : Hp} {pos : Pos} (h : EvT m X e σ B H false) : EvT m X (.UnaryOp .Not e pos) σ B H true := et_not h
theorem kit_tup : kitB "tuple" "tuple" = some true := by decide +kernel
theorem ev_isTup {m : Option Addr} {X : Cx} {e : Expr} {σ : L2.St} {B H : Hp} {pos p1 p2 : Pos} {ds : List PyData} (hm : X.mg "isinstance" = none) (hm2 : X.mg "tuple" = none) (h : Ev m X e σ B H (K3.IsD (.tuple ds))) (hg : Gl X "isinstance" := by rfl) (hg2 : Gl X "tuple" := by rfl)
    (hs : starEach (e :: [.Name "tuple" p2]) X.env = (false, eval e X.env) :: starEach [.Name "tuple" p2] X.env := by rfl) (hs2 : starEach [.Name "tuple" p2] X.env = (false, eval (.Name "tuple" p2) X.env) :: starEach [] X.env := by rfl) (hpl : (backTo pos (starEach [.Name "tuple" p2] X.env)).any (·.1) = false := by rfl) :
    Ev m X (.Call (.Name "isinstance" p1) [e, .Name "tuple" p2] [] pos) σ B H (K3.IsD (.bool true)) := ev_isi (d := .tuple ds) hm hm2 PyProof.Rows.boot_tuple h kit_tup rfl hg hg2 (by decide) (by decide) hs hs2 hpl
theorem cl_is_entry (T : Tx K mg) (p : Int × Int) (h0 : 0 ≤ p.1) (h1 : p.1 < 12) : Cl P w K mg base "is_entry" ["value"] 3 (spD none [K3.IsD (pairD p)] (K3.IsD (.bool true))) :=
  cl_mk T 8 (d := d_is_entry) rfl rfl rfl rfl (by decide +kernel) (fun _ _ _ _ _ _ us hl => match us, hl with | [_], _ => rfl) fun fa fdd FF => by
    refine fn_ok FF sc_is_entry rfl fun cdv A outer s E0 B H vs Q hr S E q => ?_
    refine ws_ret S ((ev_and4 (ev_isTup (T_free T) (T_free T) (ev_v E 0)) (fun _ => ev_cmp cm_eqI (ev_lenT (ds := [.int p.1, .int p.2]) (T_free T) (ev_v E 0)) ev_int)
      (fun _ _ => ev_call (cl_is_lane_l T p.1) hr (ea1 (ev_ixT (ds := [.int p.1, .int p.2]) (ev_v E 0) ev_int rfl))) (fun _ _ _ => ev_call (cl_is_int T p.2) hr (ea1 (ev_ixT (ds := [.int p.1, .int p.2]) (ev_v E 0) ev_int rfl)))).cast ?_) q
    rw [decide_eq_true h0, decide_eq_true h1]
    rfl
theorem zip_lot (l : Lot) : zipD (l.map pairD) (cutD (l.map pairD) (some 1) none) = (l.zip (l.drop 1)).map fun p => .tuple [pairD p.1, pairD p.2] := by
  have e : cutD (l.map pairD) (some 1) none = (l.map pairD).drop 1 := cut_from _ 1
  unfold zipD
  rw [e, ← List.map_drop, List.zip_map, List.map_map]
  rfl
theorem up_zip {l : Lot} (h : l.Pairwise fun p q => p.1 < q.1) : ∀ p ∈ l.zip (l.drop 1), p.1.1 < p.2.1 := by
  intro p hp
  obtain ⟨i, hi, e⟩ := List.mem_iff_getElem.mp hp
  have hl : i < l.length ∧ i + 1 < l.length := by
    rw [List.length_zip, List.length_drop] at hi
    omega
  rw [List.getElem_zip, List.getElem_drop] at e
  have := (List.pairwise_iff_getElem.mp h) i (1 + i) (by omega) (by omega) (by omega)
  rw [← e]
  exact this
theorem cl_is_lot (T : Tx K mg) (l : Lot) (h : Vl 12 l) : Cl P w K mg base "is_lot" ["value"] 4 (spD none [K3.IsD (encL l)] (K3.IsD (.bool true))) :=
  cl_mk T 9 (d := d_is_lot) rfl rfl rfl rfl (by decide +kernel) (fun _ _ _ _ _ _ us hl => match us, hl with | [_], _ => rfl) fun fa fdd FF => by
    refine fn_ok FF sc_is_lot rfl fun cdv A outer s E0 B H vs Q hr S E q => ?_
    have hl := vl_len h
    have h0 : 0 < l.length := List.length_pos_iff.mpr h.ne
    refine ws_no S ((et_or2 (et_not (et_val (ev_isTup (T_free T) (T_free T) (ev_v E 0)))) fun _ => et_not (et_chain cm_le cm_le ev_int (ev_lenT (T_free T) (ev_v E 0)) (ev_gint (T_MOST_LANES T)))).cast ?_) fun B1 H1 s1 S => ?_
    · rw [List.length_map, decide_eq_true (by omega), decide_eq_true (by omega)]; rfl
    have E := E.mono s1.b
    refine ws_no S (et_nT (et_val (ev_allT (f := fun _ => true) (T_free T) (em_lc (own := [("entry", 1)]) E (wk_tup (ev_v E 0)).s rfl sc_is_lot.nd (blkOk_by (own := [("entry", 1)]) (N := N_is_lot) (sc := defScope s_is_lot) (by decide +kernel)) (fun _ _ _ _ _ => pg_name (i := 1) sc_is_lot.nd rfl (by first | exact Or.inl rfl | exact Or.inr rfl)) (fun x _ => tg1)
        (fun s0 H0 C cl fp x σ1 B1 H1 hx s1 E1 => ev_call (cl_is_entry T x (h.rg x hx).1 (h.rg x hx).2) hr (ea1 (ev_v E1 1))) (by omega)) fun _ _ => rfl))) fun B1 H1 s1 S => ?_
    have E := E.mono s1.b
    refine ws_ret S (ev_allT (f := fun p => decide (p.1.1 < p.2.1)) (T_free T) (em_lc (xs := l.zip (l.drop 1)) (own := [("near", 2), ("far", 3)]) E ?_ rfl sc_is_lot.nd (blkOk_by (own := [("near", 2), ("far", 3)]) (N := N_is_lot) (sc := defScope s_is_lot) (by decide +kernel)) (fun _ _ _ _ _ => pg_tup rfl (pgs_cons (pg_name (i := 2) sc_is_lot.nd rfl (by first | exact Or.inl rfl | exact Or.inr rfl)) (pgs_cons (pg_name (i := 3) sc_is_lot.nd rfl (by first | exact Or.inl rfl | exact Or.inr rfl)) pgs_nil))) (fun x _ => tg2 (e1 := pairD x.1) (e2 := pairD x.2))
        (fun s0 H0 C cl fp x σ1 B1 H1 hx s1 E1 => ev_cmp cm_lt (ev_ixT (ds := [.int x.1.1, .int x.1.2]) (ev_v E1 2) ev_int rfl) (ev_ixT (ds := [.int x.2.1, .int x.2.2]) (ev_v E1 3) ev_int rfl)) ?_) fun p hp => decide_eq_true (up_zip h.up p hp)) q
    · rw [← zip_lot]
      exact (wk_zipT (T_free T) (ev_v E 0) (ev_slT (ev_v E 0) (eo_some ev_int) eo_none)).s
    · rw [List.length_zip]; omega
end
end K3
/-! TEXT F4 -/
set_option Elab.async false
set_option linter.all false
set_option maxRecDepth 100000
set_option maxHeartbeats 1000000
namespace K3
open PySem PySem.Spec L2
section
variable {P : Program} {w : World} {K : PySem.W.Frag} {mg : Str → Option Value} {base : Heap}
theorem enum_map {α : Type} (xs : List α) (enc : α → PyData) : enumD (xs.map enc) = (xs.mapIdx fun i x => (i, x)).map fun p => PyData.tuple [.int (p.1 : Int), enc p.2] := by
  unfold enumD
  apply List.ext_getElem?
  intro i
  rw [List.getElem?_mapIdx, List.getElem?_map, List.getElem?_map, List.getElem?_mapIdx]
  cases xs[i]? <;> rfl
theorem mem_enum {α : Type} {xs : List α} {p : Nat × α} (h : p ∈ xs.mapIdx fun i x => (i, x)) : p.2 ∈ xs := by
  obtain ⟨i, hi, e⟩ := List.mem_iff_getElem.mp h
  rw [List.getElem_mapIdx] at e
  rw [← e]
  exact List.getElem_mem _
theorem cl_want_lots (T : Tx K mg) (f : Fam) (hv : ∀ l ∈ f, Vl 12 l) (h0 : f ≠ []) (h1 : f.length ≤ 200) : Cl P w K mg base "want_lots" ["lots"] 5 (spD none [K3.IsD (encF f)] (K3.IsD .none)) :=
  cl_mk T 10 (d := d_want_lots) rfl rfl rfl rfl (by decide +kernel) (fun _ _ _ _ _ _ us hl => match us, hl with | [_], _ => rfl) fun fa fdd FF => by
    refine fn_ok FF sc_want_lots rfl fun cdv A outer s E0 B H vs Q hr S E q => ?_
    have hl : 0 < f.length := List.length_pos_iff.mpr h0
    refine ws_no S ((et_or2 (et_not (et_val (ev_call (cl_is_list T (encF f) rfl) hr (ea1 (ev_v E 0))))) fun _ => et_cmp cm_eqI (ev_lenL (T_free T) (ev_v E 0)) ev_int).cast ?_) fun B1 H1 s1 S => ?_
    · rw [List.length_map, decide_eq_false (by omega)]; rfl
    have E := E.mono s1.b
    refine ws_for (xs := f.mapIdx fun i x => (i, x)) (enc := fun p => .tuple [.int (p.1 : Int), encL p.2]) (u := fun p Γ => (Γ.set 1 (some (K3.IsD (.int (p.1 : Int))))).set 2 (some (K3.IsD (encL p.2)))) S ?_ (pg_tup rfl (pgs_cons (pg_name (i := 1) sc_want_lots.nd rfl (by first | exact Or.inl rfl | exact Or.inr rfl)) (pgs_cons (pg_name (i := 2) sc_want_lots.nd rfl (by first | exact Or.inl rfl | exact Or.inr rfl)) pgs_nil))) (fun x _ => tg2) rfl PassesOwn.never
      (fun _ => [some (K3.IsD (encF f)), none, none]) (fun _ _ _ => True) (fun _ _ _ _ _ _ _ => trivial) (fun B1 H1 s1 S => ⟨E.mono s1.b, trivial⟩) (fun i x σ1 B2 H2 hx S2 sb E2 _ => ?_) (fun σ1 B2 H2 S2 sb E2 _ => ?_)
    · rw [← enum_map]
      exact wk_enum (T_free T) (ev_v E 0)
    · have hm : x.2 ∈ f := mem_enum (List.mem_of_getElem? hx)
      refine ws_no S2 (et_nT (et_val (ev_call (cl_is_lot T x.2 (hv _ hm)) hr (ea1 (ev_v E2 2))))) fun B3 H3 s3 S3 => ws_nil ⟨B3, s3.b, S3, (E2.mono s3.b).to, trivial⟩
    · refine ws_no S2 ((et_cmp cm_gt (ev_lenL (T_free T) (ev_v E2 0)) (ev_gint (T_MOST_GIVEN T))).cast ?_) fun B3 H3 s3 S3 => ws_nil (q _ _ _ S3 .non)
      rw [List.length_map, decide_eq_false (by omega)]
theorem foldl_take {α β : Type} {g : β → α → β} {a : β} {xs : List α} {i : Nat} {x : α} (h : xs[i]? = some x) : (xs.take (i + 1)).foldl g a = g ((xs.take i).foldl g a) x := by
  rw [take_last h, List.foldl_append] <;> rfl
def lfStep (a : Int) (l : Lot) : Int := if a ≤ (l.getLast?.getD (0, 0)).1 then (l.getLast?.getD (0, 0)).1 + 1 else a
def lanesFor (f : Fam) : Int := f.foldl lfStep 0
theorem lanesFor_take {f : Fam} {i : Nat} {l : Lot} (h : f[i]? = some l) : lanesFor (f.take (i + 1)) = lfStep (lanesFor (f.take i)) l := foldl_take h
theorem cl_lanes_for (T : Tx K mg) (f : Fam) (hv : ∀ l ∈ f, l ≠ []) : Cl P w K mg base "lanes_for" ["lots"] 1 (spD none [K3.IsD (encF f)] (K3.IsD (.int (lanesFor f)))) :=
  cl_mk T 11 (d := d_lanes_for) rfl rfl rfl rfl (by decide +kernel) (fun _ _ _ _ _ _ us hl => match us, hl with | [_], _ => rfl) fun fa fdd FF => by
    refine fn_ok FF sc_lanes_for rfl fun cdv A outer s E0 B H vs Q hr S E q => ?_
    refine ws_set S E 1 ev_int (fun v B1 H1 s1 S r E => ?_) sc_lanes_for.nd
    refine ws_for (xs := f) (enc := encL) (u := fun l Γ => Γ.set 2 (some (K3.IsD (encL l)))) S (wk_list (ev_v E 0)) (pg_name (i := 2) sc_lanes_for.nd rfl (by first | exact Or.inl rfl | exact Or.inr rfl)) (fun x _ => tg1) rfl PassesOwn.never
      (fun i => [some (K3.IsD (encF f)), some (K3.IsD (.int (lanesFor (f.take i)))), none]) (fun _ _ _ => True) (fun _ _ _ _ _ _ _ => trivial) (fun B1 H1 s1 S => ⟨(E.mono s1.b).to, trivial⟩) (fun i l σ1 B2 H2 hx S2 sb E2 _ => ?_) (fun σ1 B2 H2 S2 sb E2 _ => ?_)
    · have hm : l ≠ [] := hv l (List.mem_of_getElem? hx)
      have h1 : atI (l.map pairD) (-1) = some (pairD (l.getLast?.getD (0, 0))) := by
        refine atI_map pairD (atI_end ?_)
        rw [List.getLast?_eq_some_getLast hm] <;> rfl
      have h2 : atI [PyData.int (l.getLast?.getD (0, 0)).1, PyData.int (l.getLast?.getD (0, 0)).2] 0 = some (PyData.int (l.getLast?.getD (0, 0)).1) := rfl
      refine ws_set S2 E2 1 (R := K3.IsD (.int (lanesFor (f.take (i + 1))))) ((ev_if (et_cmp cm_ge (ev_ixT (ds := [.int (l.getLast?.getD (0, 0)).1, .int (l.getLast?.getD (0, 0)).2]) (ev_ixT (ev_v E2 2) (ev_neg ev_int) h1) ev_int h2) (ev_v E2 1)) (R := K3.IsD (.int (lanesFor (f.take (i + 1))))) (fun h => (ev_add (ev_ixT (ds := [.int (l.getLast?.getD (0, 0)).1, .int (l.getLast?.getD (0, 0)).2]) (ev_ixT (ev_v E2 2) (ev_neg ev_int) h1) ev_int h2) ev_int).cast ?_) (fun h => (ev_v E2 1).cast ?_))) (fun v B3 H3 s3 S3 r E3 => ws_nil ⟨B3, s3.b, S3, E3.to, trivial⟩) sc_lanes_for.nd
      · rw [lanesFor_take hx, lfStep, if_pos (of_decide_eq_true h)]
      · rw [lanesFor_take hx, lfStep, if_neg (of_decide_eq_false h)]
    · rw [List.take_length] at E2
      exact ws_ret S2 (ev_v E2 1) q
end
end K3
/-! TEXT K9f -/
set_option Elab.async false
set_option linter.all false
set_option maxRecDepth 100000
set_option maxHeartbeats 1000000
namespace K3
open PySem PySem.Spec L2

section
variable {m : Option Addr} {X : Cx} {e a b c o i f : Expr} {es : List Expr} {σ : L2.St} {B H B' H' B0 H0 : Hp} {R R1 R2 : Rt} {Rs : List Rt} {pos p1 p2 p3 apos cpos : Pos} {Γ : List (Option Rt)} {d d1 d2 : PyData} {ds : List PyData} {x y : Str} {k n : Nat} {kvs : List (Int × Int)} {rest : List Stmt} {D : Ends} {p q : Addr}
/-- more is said of a slot -/
theorem Sl.re (E : Sl σ B Γ) (i : Nat) {v : V} (h : Γ[i]? = some (some (IsV v))) [mr : Mn R] (r : R v B) : Sl σ B (Γ.set i (some R)) := by
  refine ⟨by rw [List.length_set]; exact E.1, fun j R' hj => ?_⟩
  by_cases hij : i = j
  · subst hij
    obtain ⟨w, h1, h2⟩ := E.get i h
    obtain rfl : w = v := h2
    have hl : i < Γ.length := by
      rcases Nat.lt_or_ge i Γ.length with z | z
      · exact z
      · rw [List.getElem?_eq_none z] at h; cases h
    rw [List.getElem?_set_self hl] at hj
    cases hj
    exact ⟨w, h1, fun B2 e => mr.mn w _ _ e r⟩
  · rw [List.getElem?_set_ne hij] at hj
    exact E.2 j R' hj
theorem et_if {kc k : Bool} (hc : EvT m X c σ B H kc) (ha : kc = true → EvT m X a σ B H k) (hb : kc = false → EvT m X b σ B H k) : EvT m X (.IfExp c a b pos) σ B H k := fun B1 H1 s1 Q q pins s I =>
  PyProof.Rows.isTrue_IfExp (thn (hc B1 H1 s1 (fun d H2 => d = kc ∧ ∃ B2, Stp m B1 H1 B2 H2) (fun B2 H2 s2 => ⟨rfl, B2, s2⟩) pins s I) fun d s1' ⟨H2, I2, e, B2, s2⟩ => by
    subst e
    cases d with
    | true => exact ha rfl B2 H2 (s1.trans s2) Q (fun B3 H3 s3 => q B3 H3 (s2.trans s3)) pins s1' I2
    | false => exact hb rfl B2 H2 (s1.trans s2) Q (fun B3 H3 s3 => q B3 H3 (s2.trans s3)) pins s1' I2)
theorem ev_or2 {k k' : Bool} (ha : Ev m X a σ B H (K3.IsD (.bool k))) (hb : k = false → Ev m X b σ B H (K3.IsD (.bool k'))) : Ev m X (.BoolOp .Or [a, b] pos) σ B H (K3.IsD (.bool (k || k'))) :=
  ev_by (pe_or pe_w (pe_one pe_w)) fun B1 H1 s1 Q q => ha B1 H1 s1 _ fun x B2 H2 s2 rx => ⟨k, Dq.bl_eq rx, by
    cases k with
    | true => exact q _ B2 H2 s2 (.bl _)
    | false => exact hb rfl B2 H2 (s1.trans s2) _ fun y B3 H3 s3 ry => q y B3 H3 (s2.trans s3) ry⟩
/-! ### x in l -/
def LsAt (m : Option Addr) (B H : Hp) (R : Rt) (ds : List PyData) : Prop := ∀ v B1 H1, Stp m B H B1 H1 → R v B1 → ∃ a xs, v = .ref a ∧ (H1 a = some (.lst xs) ∨ H1 a = some (.tup xs)) ∧ DqAll B1 xs ds
theorem lsL : LsAt m B H (K3.IsD (.list ds)) ds := fun v B1 H1 s r => by
  obtain ⟨a, xs, rfl, h, h2⟩ := Dq.lst_ex r
  exact ⟨a, xs, rfl, .inl (s.s _ _ h), h2⟩
theorem lsT : LsAt m B H (K3.IsD (.tuple ds)) ds := fun v B1 H1 s r => by
  obtain ⟨a, xs, rfl, h, h2⟩ := Dq.tup_ex r
  exact ⟨a, xs, rfl, .inr (s.s _ _ h), h2⟩
theorem lsM (M : Mu m B H p ds) : LsAt m B H (IsV (.ref p)) ds := fun v B1 H1 s r => by
  obtain ⟨zs, h1, h2⟩ := (M.mono s).ex
  exact ⟨p, zs, r, .inl h1, h2⟩
theorem flat_ints (ns : List Int) : (ns.map V.int).all flatV = true := by rw [List.all_map, List.all_eq_true]; intro _ _; rfl
theorem in_ints (i : Int) (ns : List Int) : inV (.int i) (ns.map V.int) = decide (i ∈ ns) := by
  unfold inV
  rw [List.any_map]
  induction ns with
  | nil => rfl
  | cons n ns ih =>
    rw [List.any_cons, ih]
    have e : ((fun y => eqV y (V.int i)) ∘ V.int) n = decide (i = n) := by
      show eqV (V.int n) (V.int i) = _
      unfold eqV
      by_cases h : i = n
      · subst h; simp
      · simp [h, Ne.symm h]
    rw [e]
    by_cases h : i = n <;> simp [h]
theorem flat_strs (ns : List Str) : (ns.map V.str).all flatV = true := by rw [List.all_map, List.all_eq_true]; intro _ _; rfl
theorem in_strs (i : Str) (ns : List Str) : inV (.str i) (ns.map V.str) = decide (i ∈ ns) := by
  unfold inV
  rw [List.any_map]
  induction ns with
  | nil => rfl
  | cons n ns ih =>
    rw [List.any_cons, ih]
    have e : ((fun y => eqV y (V.str i)) ∘ V.str) n = decide (i = n) := by
      show eqV (V.str n) (V.str i) = _
      unfold eqV
      by_cases h : i = n
      · subst h; simp
      · simp [h, Ne.symm h]
    rw [e]
    by_cases h : i = n <;> simp [h]
theorem cm_inI {j : Int} {ns : List Int} (L : LsAt m B H R (ns.map .int)) : Cm m X .In B H (K3.IsD (.int j)) R (decide (j ∈ ns)) :=
  ⟨_, op_in_seq, fun x y B1 H1 Q s1 rx ry q => by
    obtain ⟨a, xs, rfl, h1, h2⟩ := L y B1 H1 s1 ry
    have e := dq_ints h2
    subst e
    cases Dq.int_eq rx
    exact ⟨a, _, rfl, h1.imp SqL.of SqT.of, rfl, flat_ints ns, by
      have e := in_ints j ns
      simp only [Bool.false_eq_true, if_false]
      rw [e]; exact q B1 H1 s1.here⟩⟩
theorem cm_notInI {j : Int} {ns : List Int} (L : LsAt m B H R (ns.map .int)) : Cm m X .NotIn B H (K3.IsD (.int j)) R (!decide (j ∈ ns)) :=
  ⟨_, op_notIn_seq, fun x y B1 H1 Q s1 rx ry q => by
    obtain ⟨a, xs, rfl, h1, h2⟩ := L y B1 H1 s1 ry
    have e := dq_ints h2
    subst e
    cases Dq.int_eq rx
    exact ⟨a, _, rfl, h1.imp SqL.of SqT.of, rfl, flat_ints ns, by
      have e := in_ints j ns
      simp only [if_true]
      rw [e]; exact q B1 H1 s1.here⟩⟩
theorem cm_inS {j : Str} {ns : List Str} (L : LsAt m B H R (ns.map .str)) : Cm m X .In B H (K3.IsD (.str j)) R (decide (j ∈ ns)) :=
  ⟨_, op_in_seq, fun x y B1 H1 Q s1 rx ry q => by
    obtain ⟨a, xs, rfl, h1, h2⟩ := L y B1 H1 s1 ry
    have e := dq_strs h2
    subst e
    cases Dq.str_eq rx
    exact ⟨a, _, rfl, h1.imp SqL.of SqT.of, rfl, flat_strs ns, by
      have e := in_strs j ns
      simp only [Bool.false_eq_true, if_false]
      rw [e]; exact q B1 H1 s1.here⟩⟩
/-! ### list * number, tuple + tuple -/
theorem dqAll_rep {xs : List V} (h : DqAll B xs ds) : ∀ k : Nat, DqAll B (List.replicate k xs).flatten (List.replicate k ds).flatten
  | 0 => .nil
  | k + 1 => by
    rw [List.replicate_succ, List.replicate_succ, List.flatten_cons, List.flatten_cons]
    exact h.app (dqAll_rep h k)
theorem em_rep {j : Int} (h1 : 0 ≤ j) (h2 : j < 100000) (hz : ds.length * j.toNat ≤ 100000) (ha : Ev m X a σ B H (K3.IsD (.list ds))) (hb : Ev m X b σ B H (K3.IsD (.int j))) : EvM m X (.BinOp a .Mult b pos) σ B H (List.replicate j.toNat ds).flatten := fun B1 H1 s1 Q q =>
  wE.of (pe_op op_rep pe_w pe_w) (ha B1 H1 s1 _ fun x B2 H2 s2 rx => hb B2 H2 (s1.trans s2) _ fun y B3 H3 s3 ry => by
    obtain ⟨p, xs, rfl, h3, h4⟩ := Dq.lst_ex (rx.mono s3.b)
    refine ⟨p, j, xs, rfl, Dq.int_eq ry, s3.s _ _ h3, by omega, by omega, by rw [h4.len]; exact Nat.le_trans hz (by decide), fun l hl => ?_⟩
    exact q l _ B3 _ ((s2.trans s3).mnew hl) ((s2.trans s3).t l hl) (s3.s.free hl) upd_same (dqAll_rep h4 _))
theorem ev_catT {es2 : List PyData} (hz : ds.length + es2.length ≤ 100000) (ha : Ev m X a σ B H (K3.IsD (.tuple ds))) (hb : Ev m X b σ B H (K3.IsD (.tuple es2))) : Ev m X (.BinOp a .Add b pos) σ B H (K3.IsD (.tuple (ds ++ es2))) :=
  ev_by (pe_op op_catA pe_w pe_w) fun B1 H1 s1 Q q => ha B1 H1 s1 _ fun x B2 H2 s2 rx => hb B2 H2 (s1.trans s2) _ fun y B3 H3 s3 ry => by
    obtain ⟨p, xs, rfl, h1, h2⟩ := Dq.tup_ex (rx.mono s3.b)
    obtain ⟨p', ys, rfl, h3, h4⟩ := Dq.tup_ex ry
    have z : xs.length + ys.length ≤ sizeLine := by rw [h2.len, h4.len]; exact Nat.le_trans hz (by decide)
    refine ⟨p, p', xs, ys, rfl, rfl, SqT.of (s3.s _ _ h1), SqT.of (s3.s _ _ h3), z, fun e => ?_, fun _ e => ?_, fun _ _ l hl => ?_⟩
    · subst e
      cases h2
      exact q _ B3 H3 (s2.trans s3) (.tup h3 h4)
    · subst e
      cases h4
      rw [List.append_nil] at q
      exact q _ B3 H3 (s2.trans s3) (.tup h1 h2)
    · exact q _ _ _ ((s2.trans s3).new hl) (.tup upd_same ((h2.app h4).mono (same_upd (s3.s.free hl))))
/-! ### one's own dict changed: d[i] = j -/
theorem MuO.put {h : HO} (M : MuO m B H p h) {h' : HO} : MuO m B (upd H p h') p h' := ⟨M.ne, M.b, upd_same⟩
theorem ws_dput {u v : Int} (hr : Room n X.A) (S : Stp m B0 H0 B H) (M : MuO m B H p (.dK (toK kvs))) (h0 : H0 p = none) (ha : Ev m X e σ B H (K3.IsD (.int v))) (ho : Ev m X o σ B H (IsV (.ref p))) (hi : Ev m X i σ B H (K3.IsD (.int u))) (hz : kvs.length < 100000)
    (k : ∀ B' H', Same B B' → Stp m B0 H0 B' H' → MuO m B' H' p (.dK (toK (putI kvs u v))) → wSs X rest D σ H')
    (hs : swapsWith e (some (.Subscript o i p1)) pos.line X.env = pure false := by rfl) : wSs X (.Assign [.Subscript o i p1] e pos :: rest) D σ H := by
  refine ws_cons (ps_dput (hu_of hr) pe_w pe_w pe_w hs) ?_
  refine ha B H S.here _ fun v B1 H1 s1 r1 => ?_
  refine ho B1 H1 s1 _ fun w B2 H2 s2 r2 => ?_
  obtain rfl : w = .ref p := r2
  refine hi B2 H2 (s1.trans s2) _ fun u B3 H3 s3 r3 => ?_
  have s := (s1.trans s2).trans s3
  have M2 := M.mono s
  cases Dq.int_eq r1
  cases Dq.int_eq r3
  have hl : (toK kvs).length < sizeLine := by rw [len_toK]; exact Nat.lt_trans hz (by decide)
  refine ⟨p, _, rfl, DPut.k (k := Sum.inl _) M2.at_ hl, ?_⟩
  rw [show (Sum.inl _ : L2.Key) = Sum.inl _ from rfl, show putK (toK kvs) (Sum.inl _) (V.int _) = toK (putI kvs _ _) from putK_toK kvs _ _]
  exact k B3 _ s.b ((S.trans s).mut h0 M2.b M2.ne) M2.put
end
end K3
/-! TEXT E1 -/
set_option Elab.async false
set_option linter.all false
set_option maxRecDepth 100000
set_option maxHeartbeats 1000000
namespace K3
open PySem PySem.W
/-! encodings are data that can be compared -/
theorem canAll {α : Type} {f : α → PyData} : ∀ l : List α, (∀ x ∈ l, (f x).canLay0 = true) → PyData.canLayAll0 (l.map f) = true
  | [], _ => by simp [PyData.canLayAll0]
  | x :: l, h => by
    rw [List.map_cons, PyData.canLayAll0, h x List.mem_cons_self, canAll l fun y hy => h y (List.mem_cons_of_mem _ hy)]
    rfl
theorem depAll {α : Type} {f : α → PyData} {k : Nat} : ∀ l : List α, (∀ x ∈ l, (f x).depth ≤ k) → PyData.depthAll (l.map f) ≤ k
  | [], _ => by simp [PyData.depthAll]
  | x :: l, h => by
    rw [List.map_cons, PyData.depthAll]
    exact Nat.max_le.mpr ⟨h x List.mem_cons_self, depAll l fun y hy => h y (List.mem_cons_of_mem _ hy)⟩
theorem alikeAl {α : Type} {f : α → PyData} (h : ∀ x y, alike (f x) (f y) = true) : ∀ l l' : List α, alikeAll (l.map f) (l'.map f) = true
  | [], _ => by simp [alikeAll]
  | _ :: _, [] => by simp [alikeAll]
  | x :: l, y :: l' => by
    rw [List.map_cons, List.map_cons, alikeAll, h, alikeAl h l l']
    rfl
theorem eqvAl {α : Type} [DecidableEq α] {f : α → PyData} (h : ∀ x y, PyData.eqv (f x) (f y) = decide (x = y)) : ∀ l l' : List α, PyData.eqvAll (l.map f) (l'.map f) = decide (l = l')
  | [], [] => by simp [PyData.eqvAll]
  | [], _ :: _ => by simp [PyData.eqvAll]
  | _ :: _, [] => by simp [PyData.eqvAll]
  | x :: l, y :: l' => by
    rw [List.map_cons, List.map_cons, PyData.eqvAll, h, eqvAl h l l']
    simp
theorem pr_can (p : Int × Int) : (pairD p).canLay0 = true := by simp [pairD, PyData.canLay0, PyData.canLayAll0]
theorem pr_dep (p : Int × Int) : (pairD p).depth ≤ 1 := by simp [pairD, PyData.depth, PyData.depthAll]
theorem pr_alike (p q : Int × Int) : alike (pairD p) (pairD q) = true := by simp [pairD, alike, alikeAll]
theorem pr_eqv (p q : Int × Int) : PyData.eqv (pairD p) (pairD q) = decide (p = q) := by
  obtain ⟨a, b⟩ := p
  obtain ⟨c, d⟩ := q
  simp [pairD, PyData.eqv, PyData.eqvAll, Bool.beq_eq_decide_eq]
theorem l_can (l : Lot) : (encL l).canLay0 = true := by rw [encL, PyData.canLay0]; exact canAll l fun p _ => pr_can p
theorem l_dep (l : Lot) : (encL l).depth ≤ 2 := by rw [encL, PyData.depth]; have := depAll l fun p _ => pr_dep p; omega
theorem l_alike (l m : Lot) : alike (encL l) (encL m) = true := by rw [encL, encL, alike]; exact alikeAl pr_alike l m
theorem l_eqv (l m : Lot) : PyData.eqv (encL l) (encL m) = decide (l = m) := by rw [encL, encL, PyData.eqv]; exact eqvAl pr_eqv l m
theorem f_can (l : Fam) : (encF l).canLay0 = true := by rw [encF, PyData.canLay0]; exact canAll l fun p _ => l_can p
theorem f_dep (l : Fam) : (encF l).depth ≤ 3 := by rw [encF, PyData.depth]; have := depAll l fun p _ => l_dep p; omega
theorem f_eqv (l m : Fam) : PyData.eqv (encF l) (encF m) = decide (l = m) := by rw [encF, encF, PyData.eqv]; exact eqvAl l_eqv l m
theorem t_can (l : List Fam) : (encT l).canLay0 = true := by rw [encT, PyData.canLay0]; exact canAll l fun p _ => f_can p
theorem t_dep (l : List Fam) : (encT l).depth ≤ 4 := by rw [encT, PyData.depth]; have := depAll l fun p _ => f_dep p; omega
theorem t_eqv (l m : List Fam) : PyData.eqv (encT l) (encT m) = decide (l = m) := by rw [encT, encT, PyData.eqv]; exact eqvAl f_eqv l m
theorem in_eqv (a b : Int) : PyData.eqv (.int a) (.int b) = decide (a = b) := by simp [PyData.eqv, Bool.beq_eq_decide_eq]
theorem i_can (l : List Int) : (encI l).canLay0 = true := by rw [encI, PyData.canLay0]; exact canAll l fun p _ => by simp [PyData.canLay0]
theorem i_dep (l : List Int) : (encI l).depth ≤ 1 := by
  rw [encI, PyData.depth]
  have := depAll (f := PyData.int) (k := 0) l fun p _ => by simp [PyData.depth]
  omega
theorem i_eqv (l m : List Int) : PyData.eqv (encI l) (encI m) = decide (l = m) := by rw [encI, encI, PyData.eqv]; exact eqvAl in_eqv l m
theorem shp {d : PyData} (h : d.canLay0 = true) {k : Nat} (h2 : d.depth ≤ k) (hk : k ≤ 64 := by decide) : SeqAt.shaped d = true := by
  unfold SeqAt.shaped
  rw [h, decide_eq_true (Nat.le_trans h2 hk)]; rfl
theorem l_shp (l : Lot) : SeqAt.shaped (encL l) = true := shp (l_can l) (l_dep l)
theorem f_shp (l : Fam) : SeqAt.shaped (encF l) = true := shp (f_can l) (f_dep l)
theorem t_shp (l : List Fam) : SeqAt.shaped (encT l) = true := shp (t_can l) (t_dep l)
theorem i_shp (l : List Int) : SeqAt.shaped (encI l) = true := shp (i_can l) (i_dep l)
/-! .. and sorted -/
theorem l_alls (f : Fam) : AllAlike (f.map encL) := AllAlike.of l_alike
theorem l_sort {f : Fam} (h : ∀ l ∈ f, l ≠ []) : Sortable (f.map encL) := .inl fun d hd => by
  obtain ⟨b, hb, rfl⟩ := List.mem_map.mp hd
  cases b with
  | nil => exact absurd rfl (h _ hb)
  | cons p r => exact ⟨_, _, rfl⟩
theorem p_alls (l : Lot) : AllAlike (l.map pairD) := AllAlike.of pr_alike
theorem p_sort (l : Lot) : Sortable (l.map pairD) := Sortable.tuples fun p => ⟨_, _, rfl⟩
theorem i_alls (l : List Int) : AllAlike (l.map PyData.int) := AllAlike.of fun _ _ => by simp [alike]
theorem i_sort (l : List Int) : Sortable (l.map PyData.int) := Sortable.others fun _ => ⟨nofun, nofun⟩
end K3
/-! TEXT F5 -/
set_option Elab.async false
set_option linter.all false
set_option maxRecDepth 100000
set_option maxHeartbeats 1000000
namespace K3
open PySem PySem.Spec L2
section
variable {P : Program} {w : World} {K : PySem.W.Frag} {mg : Str → Option Value} {base : Heap}
theorem cl_extreme (T : Tx K mg) (b : Bool) (x0 : Int) (r : List Int) : Cl P w K mg base "extreme" ["numbers", "is_least"] 1 (spD none [K3.IsD (encI (x0 :: r)), K3.IsD (.bool b)] (K3.IsD (.int (extr b (x0 :: r))))) :=
  cl_mk T 12 (d := d_extreme) rfl rfl rfl rfl (by decide +kernel) (fun _ _ _ _ _ _ us hl => match us, hl with | [_, _], _ => rfl) fun fa fdd FF => by
    refine fn_ok FF sc_extreme rfl fun cdv A outer s E0 B H vs Q hr S E q => ?_
    refine ws_set S E 2 (ev_ixL (ev_v E 0) ev_int (i := 0) (d := .int x0) (atI_ok (Int.le_refl 0) rfl)) (fun v B1 H1 s1 S r1 E => ?_) sc_extreme.nd
    refine ws_for (xs := r) (enc := PyData.int) (u := fun l Γ => Γ.set 3 (some (K3.IsD (.int l)))) S (wk_list ((em_slL (ev_v E 0) (eo_some ev_int) eo_none).ev.cast ?_)) (pg_name (i := 3) sc_extreme.nd rfl (by first | exact Or.inl rfl | exact Or.inr rfl)) (fun x _ => tg1) rfl PassesOwn.never
      (fun i => [some (K3.IsD (encI (x0 :: r))), some (K3.IsD (.bool b)), some (K3.IsD (.int ((r.take i).foldl (exStep b) x0))), none]) (fun _ _ _ => True) (fun _ _ _ _ _ _ _ => trivial) (fun B1 H1 s1 S => ⟨(E.mono s1.b).to, trivial⟩) (fun i n σ1 B2 H2 hx S2 sb E2 _ => ?_) (fun σ1 B2 H2 S2 sb E2 _ => ?_)
    · rw [show (List.map PyData.int (x0 :: r)) = PyData.int x0 :: r.map .int from rfl, show cutD (PyData.int x0 :: r.map .int) (some (1 : Int)) none = r.map .int from cut_from _ 1]
    · rw [foldl_take hx]
      refine ws_if S2 (kb := (if b = true then decide (n < (r.take i).foldl (exStep b) x0) else decide ((r.take i).foldl (exStep b) x0 < n))) (et_if (et_val (ev_v E2 1)) (fun h => (et_cmp cm_lt (ev_v E2 3) (ev_v E2 2)).cast (by rw [if_pos h])) (fun h => (et_cmp cm_gt (ev_v E2 3) (ev_v E2 2)).cast (by rw [h, if_neg Bool.false_ne_true]))) (fun h B3 H3 s3 S3 => ?_) (fun h B3 H3 s3 S3 => ?_)
      · have E3 := E2.mono s3.b
        refine ws_set S3 E3 2 (ev_v E3 3) (fun v B4 H4 s4 S4 r4 E4 => ws_nil (ws_nil ⟨B4, s3.b.trans s4.b, S4, ?_, trivial⟩)) sc_extreme.nd
        rw [exStep, if_pos h]
        exact E4.to
      · refine ws_nil (ws_nil ⟨B3, s3.b, S3, ?_, trivial⟩)
        have E3 := E2.mono s3.b
        rw [exStep, if_neg (by rw [h]; exact Bool.false_ne_true)]
        exact E3.to
    · rw [List.take_length] at E2
      exact ws_ret S2 (ev_v E2 2) q
theorem under_take {a b : Lot} {i : Nat} {x : Int × Int} (h : a[i]? = some x) : under (a.take (i + 1)) b = (under (a.take i) b && under [x] b) := by
  unfold under
  rw [take_last h, List.all_append]
theorem under_of_take {a b : Lot} {i : Nat} (h : under (a.take i) b = false) : under a b = false := by
  unfold under at h ⊢
  rw [← List.take_append_drop i a, List.all_append, h, Bool.false_and]
theorem under1 (x : Int × Int) (b : Lot) : under [x] b = match getI b x.1 with | none => false | some v => decide (x.2 ≤ v) := by
  exact Bool.and_true _
theorem cl_is_ahead (T : Tx K mg) (a b : Lot) : Cl P w K mg base "is_ahead" ["lot", "told", "is_co"] 1 (spD none [K3.IsD (encL a), K3.IsD (dictD b), K3.IsD (.bool false)] (K3.IsD (.bool (under a b)))) :=
  cl_mk T 13 (d := d_is_ahead) rfl rfl rfl rfl (by decide +kernel) (fun _ _ _ _ _ _ us hl => match us, hl with | [_, _, _], _ => rfl) fun fa fdd FF => by
    refine fn_ok FF sc_is_ahead rfl fun cdv A outer s E0 B H vs Q hr S E q => ?_
    refine ws_for (xs := a) (enc := pairD) (u := fun p Γ => (Γ.set 3 (some (K3.IsD (.int p.1)))).set 4 (some (K3.IsD (.int p.2)))) S (wk_tup (ev_v E 0)) (pg_tup rfl (pgs_cons (pg_name (i := 3) sc_is_ahead.nd rfl (by first | exact Or.inl rfl | exact Or.inr rfl)) (pgs_cons (pg_name (i := 4) sc_is_ahead.nd rfl (by first | exact Or.inl rfl | exact Or.inr rfl)) pgs_nil))) (fun x _ => tg2) rfl PassesOwn.never
      (fun i => [some (K3.IsD (encL a)), some (K3.IsD (dictD b)), some (K3.IsD (.bool false)), none, none]) (fun i _ _ => under (a.take i) b = true) (fun _ _ _ _ _ _ h => h) (fun B1 H1 s1 S => ⟨E.mono s1.b, rfl⟩) (fun i p σ1 B2 H2 hx S2 sb E2 hu => ?_) (fun σ1 B2 H2 S2 sb E2 hu => ?_)
    · refine ws_if S2 (et_dnotin hr dkD (ev_v E2 3) (ev_v E2 1)) (fun h B3 H3 s3 S3 => ?_) (fun h B3 H3 s3 S3 => ws_nil ?_)
      · refine ws_ret S3 ev_bl fun v B4 H4 s4 r4 => q v B4 H4 s4 ?_
        have e : under a b = false := under_of_take (i := i + 1) (by
          rw [under_take hx, hu, under1]
          cases g : getI b p.1 with
          | none => rfl
          | some v => rw [g] at h; cases h)
        rw [e]; exact r4
      · have E3 := E2.mono s3.b
        obtain ⟨w, hw⟩ : ∃ w, getI b p.1 = some w := by
          cases g : getI b p.1 with
          | none => rw [g] at h; cases h
          | some v => exact ⟨v, rfl⟩
        refine ws_if S3 (kb := decide (w < p.2)) (et_if (kc := false) (et_val (ev_v E3 2)) (fun h => nomatch h) (fun _ => et_cmp cm_lt (ev_dget hr dkD (ev_v E3 1) (ev_v E3 3) hw) (ev_v E3 4))) (fun h B4 H4 s4 S4 => ?_) (fun h B4 H4 s4 S4 => ws_nil (ws_nil ⟨B4, s3.b.trans s4.b, S4, (E3.mono s4.b).to, ?_⟩))
        · refine ws_ret S4 ev_bl fun v B5 H5 s5 r5 => q v B5 H5 s5 ?_
          have e : under a b = false := under_of_take (i := i + 1) (by
            rw [under_take hx, hu, under1, hw]
            have := of_decide_eq_true h
            exact decide_eq_false (by omega))
          rw [e]; exact r5
        · rw [under_take hx, hu, under1, hw]
          have := of_decide_eq_false h
          exact decide_eq_true (by omega)
    · rw [List.take_length] at hu
      rw [hu] at q
      exact ws_ret S2 ev_bl q
end
end K3
/-! TEXT M2 -/
set_option Elab.async false
set_option linter.all false
set_option maxRecDepth 100000
set_option maxHeartbeats 1000000
namespace K3
open PySem PySem.W
/-! tables -/
theorem getI_cons (p : Int × Int) (l : Lot) (k : Int) : getI (p :: l) k = if p.1 = k then some p.2 else getI l k := by
  unfold getI
  by_cases h : p.1 = k
  · rw [List.find?_cons_of_pos (by simpa using h), if_pos h]; rfl
  · rw [List.find?_cons_of_neg (by simpa using h), if_neg h]
theorem getI_nil (k : Int) : getI [] k = none := rfl
theorem getI_none {l : Lot} {k : Int} (h : ∀ p ∈ l, p.1 ≠ k) : getI l k = none := by
  induction l with
  | nil => rfl
  | cons p l ih => rw [getI_cons, if_neg (h p List.mem_cons_self), ih fun q hq => h q (List.mem_cons_of_mem _ hq)]
theorem getI_mem {l : Lot} {k v : Int} (h : getI l k = some v) : (k, v) ∈ l := by
  induction l with
  | nil => cases h
  | cons p l ih =>
    rw [getI_cons] at h
    by_cases e : p.1 = k
    · rw [if_pos e] at h
      cases h
      subst e
      exact List.mem_cons_self
    · rw [if_neg e] at h
      exact List.mem_cons_of_mem _ (ih h)
/-- keys all different -/
def Nk (l : Lot) : Prop := l.Pairwise fun p q => p.1 ≠ q.1
theorem up_nk {l : Lot} (h : l.Pairwise fun p q => p.1 < q.1) : Nk l := h.imp fun h e => by omega
theorem getI_of_mem {l : Lot} (hn : Nk l) {p : Int × Int} (h : p ∈ l) : getI l p.1 = some p.2 := by
  induction l with
  | nil => cases h
  | cons q l ih =>
    have hn := List.pairwise_cons.mp hn
    rw [getI_cons]
    rcases List.mem_cons.mp h with rfl | h
    · rw [if_pos rfl]
    · rw [if_neg (hn.1 p h), ih hn.2 h]
theorem getI_some {l : Lot} {k : Int} : (getI l k).isSome = true ↔ ∃ p ∈ l, p.1 = k := by
  constructor
  · intro h
    obtain ⟨v, hv⟩ := Option.isSome_iff_exists.mp h
    exact ⟨_, getI_mem hv, rfl⟩
  · rintro ⟨p, hp, e⟩
    cases g : getI l k with
    | some _ => rfl
    | none =>
      exfalso
      induction l with
      | nil => cases hp
      | cons q l ih =>
        rw [getI_cons] at g
        by_cases e2 : q.1 = k
        · rw [if_pos e2] at g; cases g
        · rw [if_neg e2] at g
          rcases List.mem_cons.mp hp with rfl | hp
          · exact e2 e
          · exact ih hp g
theorem any_key (l : Lot) (k : Int) : (l.any fun p => decide (p.1 = k)) = (getI l k).isSome := by
  rw [Bool.eq_iff_iff, getI_some, List.any_eq_true]
  constructor
  · rintro ⟨p, h, e⟩; exact ⟨p, h, of_decide_eq_true e⟩
  · rintro ⟨p, h, e⟩; exact ⟨p, h, decide_eq_true e⟩
theorem getI_put (l : Lot) (k v j : Int) : getI (putI l k v) j = if k = j then some v else getI l j := by
  unfold putI
  rw [any_key]
  by_cases h : (getI l k).isSome = true
  · rw [if_pos h]
    have key : ∀ l : Lot, getI (l.map fun p => if p.1 = k then (p.1, v) else p) j = if k = j then (getI l j).map (fun _ => v) else getI l j := by
      intro l
      induction l with
      | nil => by_cases e : k = j <;> simp [e, getI_nil]
      | cons p l ih =>
        rw [List.map_cons, getI_cons, ih, getI_cons]
        by_cases e : p.1 = k
        · rw [if_pos e]
          by_cases e2 : k = j
          · have e3 : p.1 = j := by omega
            rw [if_pos e2, if_pos (show (p.1, v).1 = j from e3), if_pos e3, if_pos e2]; rfl
          · have e3 : ¬ p.1 = j := by omega
            rw [if_neg e2, if_neg (show ¬ (p.1, v).1 = j from e3), if_neg e2, if_neg e3]
        · rw [if_neg e]
          by_cases e2 : k = j
          · rw [if_pos e2, if_pos e2, if_neg (by omega), if_neg (by omega)]
          · rw [if_neg e2, if_neg e2]
    rw [key]
    by_cases e : k = j
    · subst e
      obtain ⟨w, hw⟩ := Option.isSome_iff_exists.mp h
      rw [if_pos rfl, if_pos rfl, hw]; rfl
    · rw [if_neg e, if_neg e]
  · rw [if_neg h]
    have hn : getI l k = none := by
      cases g : getI l k with
      | none => rfl
      | some _ => rw [g] at h; exact absurd rfl h
    have key : ∀ l : Lot, getI l k = none → getI (l ++ [(k, v)]) j = if k = j then some v else getI l j := by
      intro l hl
      induction l with
      | nil => rw [List.nil_append, getI_cons]
      | cons p l ih =>
        rw [getI_cons] at hl
        by_cases e : p.1 = k
        · rw [if_pos e] at hl; cases hl
        · rw [if_neg e] at hl
          rw [List.cons_append, getI_cons, ih hl, getI_cons]
          by_cases e2 : k = j
          · rw [if_pos e2, if_pos e2, if_neg (by omega)]
          · rw [if_neg e2, if_neg e2]
    exact key l hn
theorem putI_keys (l : Lot) (k v : Int) : (∀ p ∈ putI l k v, p.1 = k ∨ ∃ q ∈ l, q.1 = p.1) := by
  intro p hp
  unfold putI at hp
  split at hp
  · obtain ⟨q, hq, rfl⟩ := List.mem_map.mp hp
    by_cases e : q.1 = k
    · rw [if_pos e]; exact .inl e
    · rw [if_neg e]; exact .inr ⟨q, hq, rfl⟩
  · rcases List.mem_append.mp hp with h | h
    · exact .inr ⟨p, h, rfl⟩
    · rw [List.mem_singleton.mp h]; exact .inl rfl
theorem putI_nk {l : Lot} (h : Nk l) (k v : Int) : Nk (putI l k v) := by
  unfold putI
  rw [any_key]
  by_cases g : (getI l k).isSome = true
  · rw [if_pos g]
    unfold Nk
    rw [List.pairwise_map]
    refine h.imp fun {p q} h => ?_
    have e : ∀ p : Int × Int, (if p.1 = k then (p.1, v) else p).1 = p.1 := fun p => by by_cases e : p.1 = k <;> simp [e]
    rw [e, e]; exact h
  · rw [if_neg g]
    refine List.pairwise_append.mpr ⟨h, List.pairwise_singleton _ _, fun p hp q hq e => ?_⟩
    rw [List.mem_singleton.mp hq] at e
    exact g (getI_some.mpr ⟨p, hp, e⟩)
theorem putI_len (l : Lot) (k v : Int) : (putI l k v).length ≤ l.length + 1 := by
  unfold putI
  split <;> simp
theorem putI_new {l : Lot} {k v : Int} (h : ∀ p ∈ l, p.1 ≠ k) : putI l k v = l ++ [(k, v)] := by
  unfold putI
  rw [any_key, getI_none h, if_neg (by simp)]
theorem mergeI_nk {l : Lot} (h : Nk l) : mergeI l = l := by
  have key : ∀ (l acc : Lot), Nk (acc ++ l) → l.foldl (fun acc p => putI acc p.1 p.2) acc = acc ++ l := by
    intro l
    induction l with
    | nil => intro acc _; rw [List.append_nil]; rfl
    | cons p l ih =>
      intro acc h
      rw [List.foldl_cons, putI_new fun q hq => (List.pairwise_append.mp h).2.2 q hq p List.mem_cons_self]
      have e : acc ++ p :: l = (acc ++ [(p.1, p.2)]) ++ l := by simp
      rw [e] at h ⊢
      exact ih _ h
  exact key l [] h
theorem Vl.merge {n : Int} {l : Lot} (h : Vl n l) : mergeI l = l := mergeI_nk (up_nk h.up)
/-! join -/
theorem foldl_getI (b : Lot) : ∀ (acc : Lot), Nk acc → Nk (b.foldl joinStep acc) ∧ (b.foldl joinStep acc).length ≤ acc.length + b.length ∧ (∀ p ∈ b.foldl joinStep acc, (∃ q ∈ acc, q.1 = p.1) ∨ ∃ q ∈ b, q.1 = p.1) := by
  induction b with
  | nil => intro acc h; exact ⟨h, by simp, fun p hp => .inl ⟨p, hp, rfl⟩⟩
  | cons p b ih =>
    intro acc h
    rw [List.foldl_cons]
    obtain ⟨h1, h2, h3⟩ := ih (joinStep acc p) (putI_nk h _ _)
    refine ⟨h1, ?_, fun r hr => ?_⟩
    · have := putI_len acc p.1 (max p.2 ((getI acc p.1).getD p.2))
      have e : joinStep acc p = putI acc p.1 (max p.2 ((getI acc p.1).getD p.2)) := rfl
      rw [e] at h2 ⊢
      rw [List.length_cons]
      omega
    · rcases h3 r hr with ⟨q, hq, e⟩ | ⟨q, hq, e⟩
      · rcases putI_keys acc _ _ q hq with e2 | ⟨q2, hq2, e2⟩
        · exact .inr ⟨p, List.mem_cons_self, by omega⟩
        · exact .inl ⟨q2, hq2, by omega⟩
      · exact .inr ⟨q, List.mem_cons_of_mem _ hq, e⟩
def omax : Option Int → Option Int → Option Int
  | none, none => none
  | some x, none => some x
  | none, some y => some y
  | some x, some y => some (max x y)
/-- the values that a key has -/
theorem foldl_join (b : Lot) : ∀ (acc : Lot), Nk b → ∀ k, getI (b.foldl joinStep acc) k = omax (getI acc k) (getI b k) := by
  induction b with
  | nil =>
    intro acc _ k
    rw [getI_nil, List.foldl_nil]
    cases getI acc k <;> rfl
  | cons p b ih =>
    intro acc hb k
    have hb := List.pairwise_cons.mp hb
    rw [List.foldl_cons, ih _ hb.2, getI_cons]
    unfold joinStep
    rw [getI_put]
    by_cases e : p.1 = k
    · subst e
      rw [if_pos rfl, if_pos rfl, getI_none (l := b) (fun q hq e2 => hb.1 q hq e2.symm)]
      cases g : getI acc p.1 with
      | none => simp [omax]
      | some x => simp [omax, Int.max_comm]
    · rw [if_neg e, if_neg e]
end K3
/-! TEXT F6 -/
set_option Elab.async false
set_option linter.all false
set_option maxRecDepth 100000
set_option maxHeartbeats 1000000
namespace K3
open PySem PySem.Spec L2
section
variable {P : Program} {w : World} {K : PySem.W.Frag} {mg : Str → Option Value} {base : Heap}
def optL : Option Lot → PyData
  | none => .none
  | some l => encL l
theorem find_take {f : Fam} {p : Lot → Bool} {i : Nat} {l : Lot} (hn : (f.take i).find? p = none) (hx : f[i]? = some l) (hp : p l = true) : f.find? p = some l := by
  have e : f = f.take i ++ f.drop i := (List.take_append_drop i f).symm
  have hd : f.drop i = l :: f.drop (i + 1) := by
    rw [List.drop_eq_getElem?_toList_append, hx] <;> rfl
  rw [e, List.find?_append, hn, hd, List.find?_cons_of_pos hp] <;> rfl
theorem cl_first_ahead (T : Tx K mg) (f : Fam) (l : Lot) {n : Int} (hl : Vl n l) : Cl P w K mg base "first_ahead" ["lots", "lot", "is_co"] 2 (spD none [K3.IsD (encF f), K3.IsD (encL l), K3.IsD (.bool false)] (K3.IsD (optL (f.find? fun n => under n l)))) :=
  cl_mk T 14 (d := d_first_ahead) rfl rfl rfl rfl (by decide +kernel) (fun _ _ _ _ _ _ us hl => match us, hl with | [_, _, _], _ => rfl) fun fa fdd FF => by
    refine fn_ok FF sc_first_ahead rfl fun cdv A outer s E0 B H vs Q hr S E q => ?_
    refine ws_set S E 3 (ev_dict (T_free T) rfl (kvs := l) (em_listT (T_free T) (ev_v E 1)).ev) (fun v B1 H1 s1 S r E => ?_) sc_first_ahead.nd
    rw [hl.merge] at E
    refine ws_for (xs := f) (enc := encL) (u := fun p Γ => Γ.set 4 (some (K3.IsD (encL p)))) S (wk_list (ev_v E 0)) (pg_name (i := 4) sc_first_ahead.nd rfl (by first | exact Or.inl rfl | exact Or.inr rfl)) (fun x _ => tg1) rfl PassesOwn.never
      (fun i => [some (K3.IsD (encF f)), some (K3.IsD (encL l)), some (K3.IsD (.bool false)), some (K3.IsD (dictD l)), none]) (fun i _ _ => (f.take i).find? (fun n => under n l) = none) (fun _ _ _ _ _ _ h => h) (fun B1 H1 s1 S => ⟨(E.mono s1.b).to, rfl⟩) (fun i p σ1 B2 H2 hx S2 sb E2 hu => ?_) (fun σ1 B2 H2 S2 sb E2 hu => ?_)
    · refine ws_if S2 (et_val (ev_call (cl_is_ahead T p l) hr (ea3 (ev_v E2 4) (ev_v E2 3) (ev_v E2 2)))) (fun h B3 H3 s3 S3 => ?_) (fun h B3 H3 s3 S3 => ws_nil (ws_nil ⟨B3, s3.b, S3, (E2.mono s3.b).to, ?_⟩))
      · rw [find_take hu hx h] at q
        exact ws_ret S3 (ev_v (E2.mono s3.b) 4) q
      · rw [take_last hx, List.find?_append, hu, List.find?_cons_of_neg (by rw [h]; exact Bool.false_ne_true)] <;> rfl
    · rw [List.take_length] at hu
      rw [hu] at q
      exact ws_ret S2 ev_non q
def pairE (l : Lot) : PyData := .tuple [encL l, dictD l]
theorem keepStep_sub {found : Fam} {lot : Lot} : ∀ l ∈ keepStep found lot, l ∈ found ∨ l = lot := by
  intro l h
  unfold keepStep at h
  split at h
  · exact .inl h
  · rcases List.mem_append.mp h with h | h
    · exact .inl (List.mem_filter.mp h).1
    · exact .inr (List.mem_singleton.mp h)
theorem keepStep_len (found : Fam) (lot : Lot) : (keepStep found lot).length ≤ found.length + 1 := by
  unfold keepStep
  split
  · omega
  · rw [List.length_append]
    have := List.length_filter_le (fun o => !under lot o) found
    simp only [List.length_singleton]
    omega
theorem keep_sub (f : Fam) : ∀ acc : Fam, ∀ l ∈ f.foldl keepStep acc, l ∈ acc ∨ l ∈ f := by
  induction f with
  | nil => intro acc l h; exact .inl h
  | cons a f ih =>
    intro acc l h
    rcases ih _ l h with h | h
    · rcases keepStep_sub l h with h | h
      · exact .inl h
      · exact .inr (by rw [h]; exact List.mem_cons_self)
    · exact .inr (List.mem_cons_of_mem _ h)
theorem keep_len (f : Fam) : ∀ acc : Fam, (f.foldl keepStep acc).length ≤ acc.length + f.length := by
  induction f with
  | nil => intro acc; exact Nat.le_refl _
  | cons a f ih =>
    intro acc
    have := ih (keepStep acc a)
    have := keepStep_len acc a
    rw [List.foldl_cons, List.length_cons]
    omega
theorem cl_kept_lots (T : Tx K mg) (f : Fam) {n : Int} (hv : ∀ l ∈ f, Vl n l) (hz : f.length ≤ 90000) : Cl P w K mg base "kept_lots" ["lots", "is_co"] 2 (spM [K3.IsD (encF f), K3.IsD (.bool false)] ((kept f).map encL)) :=
  cl_mk T 15 (d := d_kept_lots) rfl rfl rfl rfl (by decide +kernel) (fun _ _ _ _ _ _ us hl => match us, hl with | [_, _], _ => rfl) fun fa fdd FF => by
    refine fn_okM FF sc_kept_lots rfl fun cdv A outer s E0 B H vs Q hr S E q => ?_
    have fl : ∀ i, ((f.take i).foldl keepStep []).length ≤ 90000 := fun i => by
      have h1 := keep_len (f.take i) []
      have h2 := List.length_take_le' i f
      rw [List.length_nil] at h1
      omega
    have fs : ∀ i, ∀ l ∈ (f.take i).foldl keepStep [], l ∈ f := fun i l h => by
      rcases keep_sub _ _ l h with h | h
      · cases h
      · exact List.mem_of_mem_take h
    refine ws_set S E 2 (em_lst [] ea_nil).ev (fun v B1 H1 s1 S r E => ?_) sc_kept_lots.nd
    refine ws_for (xs := f) (enc := encL) (u := fun p Γ => Γ.set 3 (some (K3.IsD (encL p)))) S (wk_list (ev_v E 0)) (pg_name (i := 3) sc_kept_lots.nd rfl (by first | exact Or.inl rfl | exact Or.inr rfl)) (fun x _ => tg1) rfl PassesOwn.never
      (fun i => [some (K3.IsD (encF f)), some (K3.IsD (.bool false)), some (K3.IsD (.list (((f.take i).foldl keepStep []).map pairE))), none, none, none, none, none]) (fun i _ _ => True) (fun _ _ _ _ _ _ h => h) (fun B1 H1 s1 S => ⟨(E.mono s1.b).to, trivial⟩) (fun i l σ1 B2 H2 hx S2 sb E2 hu => ?_) (fun σ1 B2 H2 S2 sb E2 hu => ?_)
    · have hl := hv l (List.mem_of_getElem? hx)
      rw [foldl_take hx]
      generalize hfd : (f.take i).foldl keepStep [] = fd at E2
      have hz2 : fd.length ≤ 90000 := by rw [← hfd]; exact fl i
      refine ws_set S2 E2 4 (ev_dict (T_free T) rfl (kvs := l) (em_listT (T_free T) (ev_v E2 3)).ev) (fun v B3 H3 s3 S3 r E3 => ?_) sc_kept_lots.nd
      rw [hl.merge] at E3
      refine ws_if S3 (et_not (et_val (ev_anyB (f := fun n => under n l) (T_free T) (em_lc (xs := fd) (enc := pairE) (own := [("near", 5), ("other", 6)]) E3 (wk_list (ev_v E3 2)).s rfl sc_kept_lots.nd (blkOk_by (own := [("near", 5), ("other", 6)]) (N := N_kept_lots) (sc := defScope s_kept_lots) (by decide +kernel)) (fun _ _ _ _ _ => pg_tup rfl (pgs_cons (pg_name (i := 5) sc_kept_lots.nd rfl (by first | exact Or.inl rfl | exact Or.inr rfl)) (pgs_cons (pg_name (i := 6) sc_kept_lots.nd rfl (by first | exact Or.inl rfl | exact Or.inr rfl)) pgs_nil))) (fun x _ => tg2 (e1 := encL x) (e2 := dictD x))
        (fun s0 H0 C cl fp x σ1 B1 H1 hx s1 E1 => ev_call (cl_is_ahead T x l) hr (ea3 (ev_v E1 5) (ev_v E1 4) (ev_v E1 1))) (by omega))))) (fun h B4 H4 s4 S4 => ?_) (fun h B4 H4 s4 S4 => ws_nil (ws_nil ⟨B4, s3.b.trans s4.b, S4, ?_, trivial⟩))
      · have E4 := E3.mono s4.b
        refine ws_lcF (xs := fd) (enc := pairE) (p := fun o => !under l o) (f := pairE) (own := [("pair", 7)]) S4 E4 2 (wk_list (ev_v E4 2)).s rfl sc_kept_lots.nd (blkOk_by (own := [("pair", 7)]) (N := N_kept_lots) (sc := defScope s_kept_lots) (by decide +kernel)) (fun _ _ _ _ _ => pg_name (i := 7) sc_kept_lots.nd rfl (by first | exact Or.inl rfl | exact Or.inr rfl)) (fun x _ => tg1)
          (fun s0 H0 C cl fp x σ1 B1 H1 hx s1 E1 => et_not (et_val (ev_call (cl_is_ahead T l x) hr (ea3 (ev_v E1 3) (ev_ixT (ds := [encL x, dictD x]) (ev_v E1 7) ev_int (i := 1) rfl) (ev_v E1 1))))) (fun s0 H0 C cl fp x σ1 B1 H1 hx hp s1 E1 => ev_v E1 7) (by omega) (fun p B5 H5 s5 S5 n1 n2 M E5 => ?_)
        have hlen : (fd.filter fun o => !under l o).length ≤ 90000 := Nat.le_trans (List.length_filter_le _ _) hz2
        refine ws_app S5 M n2 (ev_v E5 2) (ev_tup [encL l, dictD l] (ea2 (ev_v E5 3) (ev_v E5 4)) (by simp)) (by rw [List.length_map]; omega) (fun B6 H6 sb6 S6 M6 _ => ?_)
        obtain ⟨B7, sb7, S7, r7⟩ := M6.frz S6 n2
        refine ws_nil (ws_nil ⟨B7, s3.b.trans (s4.b.trans (s5.b.trans (sb6.trans sb7))), S7, ?_, trivial⟩)
        have E7 := (E5.mono (sb6.trans sb7)).re (R := K3.IsD _) 2 rfl r7
        have e : keepStep fd l = (fd.filter fun o => !under l o) ++ [l] := by
          unfold keepStep
          rw [if_neg (by rw [Bool.not_eq_true', ] at h; rw [h]; exact Bool.false_ne_true)]
        rw [e, List.map_append]
        exact E7.to
      · have E4 := E3.mono s4.b
        have e : keepStep fd l = fd := by
          unfold keepStep
          rw [if_pos (by simpa using h)]
        rw [e]
        exact E4.to
    · rw [List.take_length] at E2
      have f1 := fl f.length
      have f2 := fs f.length
      rw [List.take_length] at f1 f2
      refine ws_retM S2 (em_sorted (bs := f.foldl keepStep []) (enc := encL) hr (T_free T) (em_lc (xs := f.foldl keepStep []) (enc := pairE) (own := [("lot", 3), ("told", 4)]) E2 (wk_list (ev_v E2 2)).s rfl sc_kept_lots.nd (blkOk_by (own := [("lot", 3), ("told", 4)]) (N := N_kept_lots) (sc := defScope s_kept_lots) (by decide +kernel)) (fun _ _ _ _ _ => pg_tup rfl (pgs_cons (pg_name (i := 3) sc_kept_lots.nd rfl (by first | exact Or.inl rfl | exact Or.inr rfl)) (pgs_cons (pg_name (i := 4) sc_kept_lots.nd rfl (by first | exact Or.inl rfl | exact Or.inr rfl)) pgs_nil))) (fun x _ => tg2 (e1 := encL x) (e2 := dictD x))
        (fun s0 H0 C cl fp x σ1 B1 H1 hx s1 E1 => ev_v E1 3) (by omega)).ev (l_alls _) (l_sort fun l hl => (hv l (f2 l hl)).ne) (by omega) (fun l hl => ⟨Nat.le_trans (l_dep l) (by decide), l_can l⟩)) q
end
end K3
/-! TEXT M3 -/
set_option Elab.async false
set_option linter.all false
set_option maxRecDepth 100000
set_option maxHeartbeats 1000000
namespace K3
open PySem PySem.W
/-! sorted pairs -/
theorem leP_eq : (dataLe false pairD : Int × Int → Int × Int → Bool) = fun p q => decide (p.1 < q.1 ∨ (p.1 = q.1 ∧ p.2 ≤ q.2)) := dataLe_ii (fun p : Int × Int => p.1) (fun p : Int × Int => p.2)
theorem srtP_perm (l : Lot) : (srtP l).Perm l := List.mergeSort_perm _ _
theorem srtP_up {l : Lot} (h : Nk l) : (srtP l).Pairwise fun p q => p.1 < q.1 := by
  have h1 : (srtP l).Pairwise fun a b => dataLe false pairD a b = true := sort_pairwise (sortLe_total _ _ _) l
  have h2 : Nk (srtP l) := (List.Perm.pairwise_iff (fun h e => h e.symm) (srtP_perm l)).mpr h
  refine (h1.and h2).imp fun {p q} ⟨h3, h4⟩ => ?_
  rw [leP_eq] at h3
  have := of_decide_eq_true h3
  omega
theorem getI_perm {a b : Lot} (h : a.Perm b) (hn : Nk a) (k : Int) : getI a k = getI b k := by
  have hb : Nk b := (List.Perm.pairwise_iff (fun h e => h e.symm) h).mp hn
  cases g : getI a k with
  | none =>
    cases g2 : getI b k with
    | none => rfl
    | some v =>
      have := getI_of_mem hn (h.mem_iff.mpr (getI_mem g2))
      rw [g] at this; cases this
  | some v =>
    have := getI_of_mem hb (h.mem_iff.mp (getI_mem g))
    exact this.symm
theorem getI_join {a b : Lot} (ha : Nk a) (hb : Nk b) (k : Int) : getI (join a b) k = omax (getI a k) (getI b k) := by
  have h1 := foldl_join b a hb k
  have h2 := (foldl_getI b a ha).1
  rw [← h1]
  unfold join
  exact (getI_perm (srtP_perm _).symm h2 k).symm
theorem Vl.join {n : Int} {a b : Lot} (ha : Vl n a) (hb : Vl n b) : Vl n (join a b) := by
  obtain ⟨h1, h2, h3⟩ := foldl_getI b a (up_nk ha.up)
  refine ⟨fun e => ?_, srtP_up h1, fun p hp => ?_⟩
  · obtain ⟨p, r, rfl⟩ := List.exists_cons_of_ne_nil ha.ne
    have g := getI_join (up_nk ha.up) (up_nk hb.up) p.1
    rw [e, getI_nil, getI_cons, if_pos rfl] at g
    cases q : getI b p.1 with
    | none => rw [q] at g; cases g
    | some _ => rw [q] at g; cases g
  · rcases h3 p ((srtP_perm _).mem_iff.mp hp) with ⟨q, hq, e⟩ | ⟨q, hq, e⟩
    · rw [← e]; exact ha.rg q hq
    · rw [← e]; exact hb.rg q hq
theorem srt_perm (f : Fam) : (srt f).Perm f := List.mergeSort_perm _ _
theorem kept_sub {f : Fam} {l : Lot} (h : l ∈ kept f) : l ∈ f := by
  have h := (srt_perm _).mem_iff.mp h
  have key : ∀ (f acc : Fam), ∀ l ∈ f.foldl keepStep acc, l ∈ acc ∨ l ∈ f := by
    intro f
    induction f with
    | nil => intro acc l h; exact .inl h
    | cons a f ih =>
      intro acc l h
      rcases ih _ l h with h | h
      · unfold keepStep at h
        split at h
        · exact .inl h
        · rcases List.mem_append.mp h with h | h
          · exact .inl (List.mem_filter.mp h).1
          · exact .inr (by rw [List.mem_singleton.mp h]; exact List.mem_cons_self)
      · exact .inr (List.mem_cons_of_mem _ h)
  rcases key f [] l h with h | h
  · cases h
  · exact h
theorem mem_joinsAll {f g : Fam} {l : Lot} : l ∈ joinsAll f g ↔ ∃ a ∈ f, ∃ b ∈ g, join a b = l := by
  unfold joinsAll
  rw [List.mem_flatMap]
  exact ⟨fun ⟨a, h, h2⟩ => let ⟨b, h3, h4⟩ := List.mem_map.mp h2; ⟨a, h, b, h3, h4⟩, fun ⟨a, h, b, h3, h4⟩ => ⟨a, h, List.mem_map.mpr ⟨b, h3, h4⟩⟩⟩
theorem joinsAll_len (f g : Fam) : (joinsAll f g).length = f.length * g.length := by
  unfold joinsAll
  induction f with
  | nil => simp
  | cons a f ih => rw [List.flatMap_cons, List.length_append, ih, List.length_map, List.length_cons, Nat.succ_mul]; omega
theorem Vl.all_join {n : Int} {f g : Fam} (hf : ∀ l ∈ f, Vl n l) (hg : ∀ l ∈ g, Vl n l) : ∀ l ∈ joinsAll f g, Vl n l := by
  intro l h
  obtain ⟨a, h1, b, h2, rfl⟩ := mem_joinsAll.mp h
  exact (hf a h1).join (hg b h2)
theorem Vl.raise {n : Int} {l : Lot} (h : Vl n l) (c : Int) : Vl n (l.map fun p => (p.1, p.2 + c)) := by
  refine ⟨fun e => h.ne (List.map_eq_nil_iff.mp e), ?_, fun p hp => ?_⟩
  · rw [List.pairwise_map]; exact h.up
  · obtain ⟨q, hq, rfl⟩ := List.mem_map.mp hp
    exact h.rg q hq
theorem Vl.all_raise {n : Int} {f : Fam} (h : ∀ l ∈ f, Vl n l) (c : Int) : ∀ l ∈ raised f c, Vl n l := by
  intro l hl
  obtain ⟨a, h1, rfl⟩ := List.mem_map.mp hl
  exact (h a h1).raise c
end K3
/-! TEXT F7 -/
set_option Elab.async false
set_option linter.all false
set_option maxRecDepth 100000
set_option maxHeartbeats 1000000
namespace K3
open PySem PySem.Spec L2
section
variable {P : Program} {w : World} {K : PySem.W.Frag} {mg : Str → Option Value} {base : Heap}
theorem extr_max (x y : Int) : extr false [x, y] = max x y := by
  show (if (if false = true then decide (y < x) else decide (x < y)) = true then y else x) = _
  rw [if_neg Bool.false_ne_true]
  by_cases h : x < y
  · rw [if_pos (decide_eq_true h)]; omega
  · rw [if_neg (by simpa using h)]; omega
theorem cl_joined (T : Tx K mg) {n : Int} (a b : Lot) (ha : Vl n a) (hz : a.length ≤ 1000) (hz2 : b.length ≤ 1000) : Cl P w K mg base "joined" ["one", "other", "is_co"] 2 (spD none [K3.IsD (encL a), K3.IsD (encL b), K3.IsD (.bool false)] (K3.IsD (encL (join a b)))) :=
  cl_mk T 16 (d := d_joined) rfl rfl rfl rfl (by decide +kernel) (fun _ _ _ _ _ _ us hl => match us, hl with | [_, _, _], _ => rfl) fun fa fdd FF => by
    refine fn_ok FF sc_joined rfl fun cdv A outer s E0 B H vs Q hr S E q => ?_
    refine ws_setN S E 3 (en_dict (T_free T) rfl (kvs := a) (em_listT (T_free T) (ev_v E 0)).ev) (fun p B1 H1 s1 S n1 n2 M E => ?_) sc_joined.nd
    rw [ha.merge] at M
    refine ws_for (xs := b) (enc := pairD) (u := fun q Γ => (Γ.set 4 (some (K3.IsD (.int q.1)))).set 5 (some (K3.IsD (.int q.2)))) S (wk_tup (ev_v E 1)) (pg_tup rfl (pgs_cons (pg_name (i := 4) sc_joined.nd rfl (by first | exact Or.inl rfl | exact Or.inr rfl)) (pgs_cons (pg_name (i := 5) sc_joined.nd rfl (by first | exact Or.inl rfl | exact Or.inr rfl)) pgs_nil))) (fun x _ => tg2) rfl PassesOwn.never
      (fun i => [some (K3.IsD (encL a)), some (K3.IsD (encL b)), some (K3.IsD (.bool false)), some (IsV (.ref p)), none, none]) (fun i B H => MuO none B H p (.dK (toK ((b.take i).foldl joinStep a)))) (fun _ _ _ _ _ s M => M.mono s) (fun B1 H1 s1 S => ⟨(E.mono s1.b).to, M.mono s1⟩) (fun i x σ1 B2 H2 hx S2 sb E2 M2 => ?_) (fun σ1 B2 H2 S2 sb E2 M2 => ?_)
    · have hl := (foldl_getI (b.take i) a (up_nk ha.up)).2.1
      have hl2 := List.length_take_le' i b
      refine ws_dput hr S2 M2 n2 (ev_call (cl_extreme T false x.2 [(getI ((b.take i).foldl joinStep a) x.1).getD x.2]) hr (ea2 ((em_lst [.int x.2, .int ((getI ((b.take i).foldl joinStep a) x.1).getD x.2)] (ea2 (ev_v E2 5) (ev_dget2 hr (dkM M2) (ev_v E2 3) (ev_v E2 4) (ev_v E2 5))) (Nat.le_of_ble_eq_true rfl)).ev) (ev_v E2 2))) (ev_v E2 3) (ev_v E2 4) (by omega) (fun B3 H3 sb3 S3 M3 => ws_nil ⟨B3, sb3, S3, (E2.mono sb3).to, ?_⟩)
      rw [foldl_take hx]
      rw [extr_max] at M3
      exact M3
    · rw [List.take_length] at M2
      have hl := (foldl_getI b a (up_nk ha.up)).2.1
      exact ws_ret S2 (ev_tupleL (T_free T) ((em_sorted (bs := b.foldl joinStep a) (enc := pairD) hr (T_free T) ((em_items (T_free T) rfl (dkM M2) (ev_v E2 3)).ev) (p_alls _) (p_sort _) (by omega) (fun p _ => ⟨Nat.le_trans (pr_dep p) (by decide), pr_can p⟩)).ev)) q
theorem cl_all_joined (T : Tx K mg) (f g : Fam) (hf : ∀ l ∈ f, Vl 12 l) (hg : ∀ l ∈ g, Vl 12 l) (hz : f.length ≤ 60) (hz2 : g.length ≤ 60) : Cl P w K mg base "all_joined" ["ones", "others", "is_co"] 3 (spM [K3.IsD (encF f), K3.IsD (encF g), K3.IsD (.bool false)] ((joins f g).map encL)) :=
  cl_mk T 17 (d := d_all_joined) rfl rfl rfl rfl (by decide +kernel) (fun _ _ _ _ _ _ us hl => match us, hl with | [_, _, _], _ => rfl) fun fa fdd FF => by
    refine fn_okM FF sc_all_joined rfl fun cdv A outer s E0 B H vs Q hr S E q => ?_
    have lz : ∀ {l : Lot}, Vl 12 l → l.length ≤ 1000 := fun h => by have := vl_len h; omega
    have hq : ∀ i, (joinsAll (f.take i) g).length ≤ 3600 := fun i => by
      rw [joinsAll_len]
      have := List.length_take_le' i f
      exact Nat.le_trans (Nat.mul_le_mul (Nat.le_trans this hz) hz2) (by decide)
    refine ws_setM S E 3 (em_lst [] ea_nil) (fun p B1 H1 s1 S n1 n2 M E => ?_) sc_all_joined.nd
    refine ws_for (xs := f) (enc := encL) (u := fun q Γ => Γ.set 4 (some (K3.IsD (encL q)))) S (wk_list (ev_v E 0)) (pg_name (i := 4) sc_all_joined.nd rfl (by first | exact Or.inl rfl | exact Or.inr rfl)) (fun x _ => tg1) rfl PassesOwn.never
      (fun i => [some (K3.IsD (encF f)), some (K3.IsD (encF g)), some (K3.IsD (.bool false)), some (IsV (.ref p)), none, none]) (fun i B H => Mu none B H p ((joinsAll (f.take i) g).map encL)) (fun _ _ _ _ _ s M => M.mono s) (fun B1 H1 s1 S => ⟨(E.mono s1.b).to, M.mono s1⟩) (fun i x σ1 B2 H2 hx S2 sb E2 M2 => ?_) (fun σ1 B2 H2 S2 sb E2 M2 => ?_)
    · have hm := hf x (List.mem_of_getElem? hx)
      have h1 := hq i
      refine ws_ext S2 M2 n2 (ev_v E2 3) (EvM.ev (em_lc (xs := g) (enc := encL) (f := fun y => encL (join x y)) (own := [("other", 5)]) E2 (wk_list (ev_v E2 1)).s rfl sc_all_joined.nd (blkOk_by (own := [("other", 5)]) (N := N_all_joined) (sc := defScope s_all_joined) (by decide +kernel)) (fun _ _ _ _ _ => pg_name (i := 5) sc_all_joined.nd rfl (by first | exact Or.inl rfl | exact Or.inr rfl)) (fun x _ => tg1)
        (fun s0 H0 C cl fp y σ1 B1 H1 hy s1 E1 => ev_call (cl_joined T x y hm (lz hm) (lz (hg y hy))) hr (ea3 (ev_v E1 4) (ev_v E1 5) (ev_v E1 2))) (by omega))) (by rw [List.length_map, List.length_map]; omega) (fun B3 H3 sb3 S3 M3 _ => ws_nil ⟨B3, sb3, S3, (E2.mono sb3).to, ?_⟩)
      rw [take_last hx]
      unfold joinsAll at M3 ⊢
      rw [List.flatMap_append, List.map_append]
      simpa [Function.comp_def] using M3
    · rw [List.take_length] at M2
      have h1 := hq f.length
      rw [List.take_length] at h1
      obtain ⟨B3, sb3, S3, r3⟩ := M2.frz S2 n2
      have E3 := (E2.mono sb3).re (R := K3.IsD _) 3 rfl r3
      exact ws_retM S3 (em_call (cl_kept_lots T (joinsAll f g) (Vl.all_join hf hg) (by omega)) hr (ea2 (ev_v E3 3) (ev_v E3 2))) q
theorem cl_limited (T : Tx K mg) (f : Fam) (hz : f.length ≤ 60) : Cl P w K mg base "limited" ["lots"] 1 (spD none [K3.IsD (encF f)] (K3.IsD (encF f))) :=
  cl_mk T 18 (d := d_limited) rfl rfl rfl rfl (by decide +kernel) (fun _ _ _ _ _ _ us hl => match us, hl with | [_], _ => rfl) fun fa fdd FF => by
    refine fn_ok FF sc_limited rfl fun cdv A outer s E0 B H vs Q hr S E q => ?_
    refine ws_no S ((et_cmp cm_gt (ev_lenL (T_free T) (ev_v E 0)) (ev_gint (T_MOST_LOTS T))).cast ?_) fun B1 H1 s1 S => ws_ret S (ev_v (E.mono s1.b) 0) q
    rw [List.length_map, decide_eq_false (by omega)]
theorem lanesRaw_take {f : Fam} {i : Nat} {l : Lot} (h : f[i]? = some l) : lanesRaw (f.take (i + 1)) = lanesStep (lanesRaw (f.take i)) l := foldl_take h
theorem lanesRaw_len {k : Nat} (f : Fam) (h : ∀ l ∈ f, l.length ≤ k) : (lanesRaw f).length ≤ f.length * k := by
  have key : ∀ (f : Fam) (acc : List Int), (∀ l ∈ f, l.length ≤ k) → (f.foldl lanesStep acc).length ≤ acc.length + f.length * k := by
    intro f
    induction f with
    | nil => intro acc _; simp
    | cons l f ih =>
      intro acc h
      rw [List.foldl_cons]
      have h1 := ih (lanesStep acc l) fun x hx => h x (List.mem_cons_of_mem _ hx)
      have h2 : (lanesStep acc l).length ≤ acc.length + k := by
        unfold lanesStep
        rw [List.length_append, List.length_map]
        have := List.length_filter_le (fun p : Int × Int => !decide (p.1 ∈ acc)) l
        have := h l List.mem_cons_self
        omega
      rw [List.length_cons, Nat.succ_mul]
      omega
  have h1 := key f [] h
  rw [List.length_nil, Nat.zero_add] at h1
  exact h1
theorem cl_lanes_in (T : Tx K mg) (f : Fam) {k : Nat} (h : ∀ l ∈ f, l.length ≤ k) (hk : k ≤ 12) (hz : f.length ≤ 1000) : Cl P w K mg base "lanes_in" ["lots"] 1 (spM [K3.IsD (encF f)] ((lanesIn f).map .int)) :=
  cl_mk T 19 (d := d_lanes_in) rfl rfl rfl rfl (by decide +kernel) (fun _ _ _ _ _ _ us hl => match us, hl with | [_], _ => rfl) fun fa fdd FF => by
    refine fn_okM FF sc_lanes_in rfl fun cdv A outer s E0 B H vs Q hr S E q => ?_
    have hq : ∀ i, (lanesRaw (f.take i)).length ≤ 12000 := fun i => by
      have h1 := lanesRaw_len (f.take i) fun l hl => h l (List.mem_of_mem_take hl)
      have h2 := List.length_take_le' i f
      have h3 : (f.take i).length * k ≤ 1000 * 12 := Nat.mul_le_mul (by omega) hk
      omega
    refine ws_setM S E 1 (em_lst [] ea_nil) (fun p B1 H1 s1 S n1 n2 M E => ?_) sc_lanes_in.nd
    refine ws_for (xs := f) (enc := encL) (u := fun q Γ => Γ.set 2 (some (K3.IsD (encL q)))) S (wk_list (ev_v E 0)) (pg_name (i := 2) sc_lanes_in.nd rfl (by first | exact Or.inl rfl | exact Or.inr rfl)) (fun x _ => tg1) rfl PassesOwn.never
      (fun i => [some (K3.IsD (encF f)), some (IsV (.ref p)), none, none, none]) (fun i B H => Mu none B H p ((lanesRaw (f.take i)).map .int)) (fun _ _ _ _ _ s M => M.mono s) (fun B1 H1 s1 S => ⟨(E.mono s1.b).to, M.mono s1⟩) (fun i x σ1 B2 H2 hx S2 sb E2 M2 => ?_) (fun σ1 B2 H2 S2 sb E2 M2 => ?_)
    · have hm := h x (List.mem_of_getElem? hx)
      have h1 := hq i
      have h2 := List.length_filter_le (fun p : Int × Int => !decide (p.1 ∈ lanesRaw (f.take i))) x
      refine ws_ext S2 M2 n2 (ev_v E2 1) (EvM.ev (em_lcF (xs := x) (enc := pairD) (p := fun q => !decide (q.1 ∈ lanesRaw (f.take i))) (f := fun q => .int q.1) (own := [("lane", 3), ("number", 4)]) E2 (wk_tup (ev_v E2 2)).s rfl sc_lanes_in.nd (blkOk_by (own := [("lane", 3), ("number", 4)]) (N := N_lanes_in) (sc := defScope s_lanes_in) (by decide +kernel)) (fun _ _ _ _ _ => pg_tup rfl (pgs_cons (pg_name (i := 3) sc_lanes_in.nd rfl (by first | exact Or.inl rfl | exact Or.inr rfl)) (pgs_cons (pg_name (i := 4) sc_lanes_in.nd rfl (by first | exact Or.inl rfl | exact Or.inr rfl)) pgs_nil))) (fun x _ => tg2 (e1 := .int x.1) (e2 := .int x.2))
        (fun s0 H0 C cl fp y σ1 B1 H1 hy s1 E1 => et_cmp (cm_notInI (lsM (M2.mono s1))) (ev_v E1 3) (ev_v E1 1)) (fun s0 H0 C cl fp y σ1 B1 H1 hy _ s1 E1 => ev_v E1 3) (by omega))) (by rw [List.length_map, List.length_map]; omega) (fun B3 H3 sb3 S3 M3 _ => ws_nil ⟨B3, sb3, S3, (E2.mono sb3).to, ?_⟩)
      rw [lanesRaw_take hx, lanesStep, List.map_append, List.map_map]
      exact M3
    · rw [List.take_length] at M2
      have h1 := hq f.length
      rw [List.take_length] at h1
      obtain ⟨B3, sb3, S3, r3⟩ := M2.frz S2 n2
      have E3 := (E2.mono sb3).re (R := K3.IsD _) 1 rfl r3
      exact ws_retM S3 (em_sorted (bs := lanesRaw f) (enc := PyData.int) hr (T_free T) (ev_v E3 1) (i_alls _) (i_sort _) (by omega) (fun p _ => ⟨by simp [PyData.depth], by simp [PyData.canLay0]⟩)) q
end
end K3
/-! TEXT F8 -/
set_option Elab.async false
set_option linter.all false
set_option maxRecDepth 100000
set_option maxHeartbeats 1000000
namespace K3
open PySem PySem.Spec L2
section
variable {P : Program} {w : World} {K : PySem.W.Frag} {mg : Str → Option Value} {base : Heap}
theorem cl_more_by (T : Tx K mg) (f : Fam) (n : Int) (hz : f.length ≤ 100000) (hl : ∀ l ∈ f, l.length ≤ 1000) : Cl P w K mg base "more_by" ["lots", "number"] 2 (spM [K3.IsD (encF f), K3.IsD (.int n)] ((raised f n).map encL)) :=
  cl_mk T 20 (d := d_more_by) rfl rfl rfl rfl (by decide +kernel) (fun _ _ _ _ _ _ us hl => match us, hl with | [_, _], _ => rfl) fun fa fdd FF => by
    refine fn_okM FF sc_more_by rfl fun cdv A outer s E0 B H vs Q hr S E q => ?_
    refine ws_no S (et_nT (et_val (ev_call (cl_is_int T n) hr (ea1 (ev_v E 1))))) fun B1 H1 s1 S => ?_
    have E := E.mono s1.b
    refine ws_retM (ds := (raised f n).map encL) S ?_ q
    rw [show (raised f n).map encL = f.map fun l => encL (l.map fun p => (p.1, p.2 + n)) from by unfold raised; rw [List.map_map]; rfl]
    refine em_lc (xs := f) (enc := encL) (own := [("lot", 4)]) E (wk_list (ev_v E 0)).s rfl sc_more_by.nd (blkOk_by (own := [("lot", 4)]) (N := N_more_by) (sc := defScope s_more_by) (by decide +kernel)) (fun _ _ _ _ _ => pg_name (i := 4) sc_more_by.nd rfl (by first | exact Or.inl rfl | exact Or.inr rfl)) (fun x _ => tg1)
      (fun s0 H0 C cl fp l σ1 B1 H1 hx s1 E1 => ev_tupleL (T_free T) (EvM.ev ?_)) hz
    rw [show (l.map fun p => (p.1, p.2 + n)).map pairD = l.map fun p => .tuple [.int p.1, .int (p.2 + n)] from by rw [List.map_map]; rfl]
    exact em_lc (xs := l) (enc := pairD) (own := [("lane", 2), ("own", 3)]) E1 (wk_tup (ev_v E1 4)).s rfl sc_more_by.nd (blkOk_by (own := [("lane", 2), ("own", 3)]) (by rfl)) (fun _ _ _ _ _ => pg_tup rfl (pgs_cons (pg_name (i := 2) sc_more_by.nd rfl (by first | exact Or.inl rfl | exact Or.inr rfl)) (pgs_cons (pg_name (i := 3) sc_more_by.nd rfl (by first | exact Or.inl rfl | exact Or.inr rfl)) pgs_nil))) (fun x _ => tg2 (e1 := .int x.1) (e2 := .int x.2))
      (fun s0 H0 C cl fp p σ1 B1 H1 hp s1 E1 => ev_tup [.int p.1, .int (p.2 + n)] (ea2 (ev_v E1 2) (ev_add (ev_v E1 3) (ev_v E1 1))) (Nat.le_of_ble_eq_true rfl)) (by have := hl l hx; omega)
theorem numsOf_take {f : Fam} {i : Nat} {l : Lot} (h : f[i]? = some l) : numsOf (f.take (i + 1)) = numsOf (f.take i) ++ l.map (·.2) := by
  unfold numsOf
  rw [take_last h, List.flatMap_append]
  simp
theorem numsOf_len {k : Nat} (f : Fam) (h : ∀ l ∈ f, l.length ≤ k) : (numsOf f).length ≤ f.length * k := by
  unfold numsOf
  induction f with
  | nil => simp
  | cons l f ih =>
    rw [List.flatMap_cons, List.length_append, List.length_map, List.length_cons, Nat.succ_mul]
    have h1 := ih fun x hx => h x (List.mem_cons_of_mem _ hx)
    have h2 := h l List.mem_cons_self
    omega
theorem cl_numbers_of (T : Tx K mg) (f : Fam) {k : Nat} (h : ∀ l ∈ f, l.length ≤ k) (hk : k ≤ 12) (hz : f.length ≤ 1000) : Cl P w K mg base "numbers_of" ["lots"] 1 (spD none [K3.IsD (encF f)] (K3.IsD (encI (numsOf f)))) :=
  cl_mk T 21 (d := d_numbers_of) rfl rfl rfl rfl (by decide +kernel) (fun _ _ _ _ _ _ us hl => match us, hl with | [_], _ => rfl) fun fa fdd FF => by
    refine fn_ok FF sc_numbers_of rfl fun cdv A outer s E0 B H vs Q hr S E q => ?_
    have hq : ∀ i, (numsOf (f.take i)).length ≤ 12000 := fun i => by
      have h1 := numsOf_len (f.take i) fun l hl => h l (List.mem_of_mem_take hl)
      have h2 := List.length_take_le' i f
      have h3 : (f.take i).length * k ≤ 1000 * 12 := Nat.mul_le_mul (by omega) hk
      omega
    refine ws_setM S E 1 (em_lst [] ea_nil) (fun p B1 H1 s1 S n1 n2 M E => ?_) sc_numbers_of.nd
    refine ws_for (xs := f) (enc := encL) (u := fun q Γ => Γ.set 2 (some (K3.IsD (encL q)))) S (wk_list (ev_v E 0)) (pg_name (i := 2) sc_numbers_of.nd rfl (by first | exact Or.inl rfl | exact Or.inr rfl)) (fun x _ => tg1) rfl PassesOwn.never
      (fun i => [some (K3.IsD (encF f)), some (IsV (.ref p)), none, none, none]) (fun i B H => Mu none B H p ((numsOf (f.take i)).map .int)) (fun _ _ _ _ _ s M => M.mono s) (fun B1 H1 s1 S => ⟨(E.mono s1.b).to, M.mono s1⟩) (fun i x σ1 B2 H2 hx S2 sb E2 M2 => ?_) (fun σ1 B2 H2 S2 sb E2 M2 => ?_)
    · have hm := h x (List.mem_of_getElem? hx)
      have h1 := hq i
      refine ws_ext S2 M2 n2 (ev_v E2 1) (EvM.ev (em_lc (xs := x) (enc := pairD) (f := fun q => .int q.2) (own := [("lane", 3), ("number", 4)]) E2 (wk_tup (ev_v E2 2)).s rfl sc_numbers_of.nd (blkOk_by (own := [("lane", 3), ("number", 4)]) (N := N_numbers_of) (sc := defScope s_numbers_of) (by decide +kernel)) (fun _ _ _ _ _ => pg_tup rfl (pgs_cons (pg_name (i := 3) sc_numbers_of.nd rfl (by first | exact Or.inl rfl | exact Or.inr rfl)) (pgs_cons (pg_name (i := 4) sc_numbers_of.nd rfl (by first | exact Or.inl rfl | exact Or.inr rfl)) pgs_nil))) (fun x _ => tg2 (e1 := .int x.1) (e2 := .int x.2))
        (fun s0 H0 C cl fp y σ1 B1 H1 hy s1 E1 => ev_v E1 4) (by omega))) (by rw [List.length_map, List.length_map]; omega) (fun B3 H3 sb3 S3 M3 _ => ws_nil ⟨B3, sb3, S3, (E2.mono sb3).to, ?_⟩)
      rw [numsOf_take hx, List.map_append, List.map_map]
      exact M3
    · rw [List.take_length] at M2
      obtain ⟨B3, sb3, S3, r3⟩ := M2.frz S2 n2
      have E3 := (E2.mono sb3).re (R := K3.IsD _) 1 rfl r3
      exact ws_ret S3 (ev_v E3 1) q
theorem setAll_take {l : Lot} {i : Nat} {p : Int × Int} {xs : List Int} (h : l[i]? = some p) : setAll (l.take (i + 1)) xs = (setAll (l.take i) xs).set p.1.toNat (-p.2) := foldl_take h
theorem setAll_len (l : Lot) : ∀ xs : List Int, (setAll l xs).length = xs.length := by
  unfold setAll
  induction l with
  | nil => intro xs; rfl
  | cons p l ih => intro xs; rw [List.foldl_cons, ih, List.length_set]
theorem flat_rep {α : Type} (k : Nat) (x : α) : (List.replicate k [x]).flatten = List.replicate k x := by
  induction k with
  | zero => rfl
  | succ k ih => rw [List.replicate_succ, List.flatten_cons, ih, List.replicate_succ]; rfl
theorem cl_corner (T : Tx K mg) (l : Lot) (f : Fam) (n : Nat) (hn : n ≤ 12) (hl : Vl n l) {k : Nat} (h : ∀ l ∈ f, l.length ≤ k) (hk : k ≤ 12) (hz : f.length ≤ 1000) (h0 : numsOf f ≠ []) : Cl P w K mg base "corner" ["lot", "lots", "lanes", "is_co"] 2 (spM [K3.IsD (encL l), K3.IsD (encF f), K3.IsD (.int n), K3.IsD (.bool false)] ((cornerV l f n).map .int)) :=
  cl_mk T 22 (d := d_corner) rfl rfl rfl rfl (by decide +kernel) (fun _ _ _ _ _ _ us hl => match us, hl with | [_, _, _, _], _ => rfl) fun fa fdd FF => by
    refine fn_okM FF sc_corner rfl fun cdv A outer s E0 B H vs Q hr S E q => ?_
    obtain ⟨x0, xr, hx0⟩ := List.exists_cons_of_ne_nil h0
    have hfar : farOf f = max 1 (1 - extr true (x0 :: xr)) := by rw [farOf, hx0]
    refine ws_set S E 4 (R := K3.IsD (.int (1 - extr true (x0 :: xr)))) (ev_if (k := false) (et_val (ev_v E 3)) (fun h => nomatch h) (fun _ => ev_sub ev_int (ev_call (cl_extreme T true x0 xr) hr (ea2 (Ev.cast (ev_call (cl_numbers_of T f h hk hz) hr (ea1 (ev_v E 1))) (by rw [hx0])) ev_bl)))) (fun v B1 H1 s1 S r E => ?_) sc_corner.nd
    refine ws_setM S E 5 (ds := (List.replicate n (farOf f)).map .int) ?_ (fun p B2 H2 s2 S n1 n2 M E => ?_) sc_corner.nd
    · have e : (List.replicate n (farOf f)).map PyData.int = (List.replicate ((n : Int).toNat) [PyData.int (extr false [1 - extr true (x0 :: xr), 1])]).flatten := by
        rw [flat_rep, extr_max, List.map_replicate, Int.toNat_natCast, Int.max_comm, hfar]
      rw [e]
      exact em_rep (ds := [.int (extr false [1 - extr true (x0 :: xr), 1])]) (by omega) (by omega) (by simp; omega) (EvM.ev (em_lst [.int (extr false [1 - extr true (x0 :: xr), 1])] (ea1 (ev_call (cl_extreme T false (1 - extr true (x0 :: xr)) [1]) hr (ea2 (EvM.ev (em_lst [.int (1 - extr true (x0 :: xr)), .int 1] (ea2 (ev_v E 4) (ev_if (k := false) (et_val (ev_v E 3)) (fun h => nomatch h) (fun _ => ev_int))) (Nat.le_of_ble_eq_true rfl))) (ev_v E 3)))) (Nat.le_of_ble_eq_true rfl))) (ev_v E 2)
    refine ws_for (xs := l) (enc := pairD) (u := fun q Γ => (Γ.set 6 (some (K3.IsD (.int q.1)))).set 7 (some (K3.IsD (.int q.2)))) S (wk_tup (ev_v E 0)) (pg_tup rfl (pgs_cons (pg_name (i := 6) sc_corner.nd rfl (by first | exact Or.inl rfl | exact Or.inr rfl)) (pgs_cons (pg_name (i := 7) sc_corner.nd rfl (by first | exact Or.inl rfl | exact Or.inr rfl)) pgs_nil))) (fun x _ => tg2) rfl PassesOwn.never
      (fun i => [some (K3.IsD (encL l)), some (K3.IsD (encF f)), some (K3.IsD (.int n)), some (K3.IsD (.bool false)), none, some (IsV (.ref p)), none, none]) (fun i B H => Mu none B H p ((setAll (l.take i) (List.replicate n (farOf f))).map .int)) (fun _ _ _ _ _ s M => M.mono s) (fun B1 H1 s1 S => ⟨(E.mono s1.b).to, M.mono s1⟩) (fun i x σ1 B2 H2 hx S2 sb E2 M2 => ?_) (fun σ1 B2 H2 S2 sb E2 M2 => ?_)
    · have hm := hl.rg x (List.mem_of_getElem? hx)
      refine ws_setix S2 M2 n2 (ev_neg (ev_v E2 7)) (ev_v E2 5) (ev_v E2 6) (ixN_int hm.1 (by rw [List.length_map, setAll_len, List.length_replicate]; exact hm.2)) (fun B3 H3 sb3 S3 M3 _ => ws_nil ⟨B3, sb3, S3, (E2.mono sb3).to, ?_⟩)
      rw [setAll_take hx, List.map_set]
      exact M3
    · rw [List.take_length] at M2
      obtain ⟨zs, h1, h2⟩ := M2.ex
      refine ws_cons (ps_ret pe_w) ((ev_v E2 5) B2 H2 S2.here _ fun v B3 H3 s3 r3 => ?_)
      obtain rfl : v = .ref p := r3
      obtain ⟨zs, h1, h2⟩ := (M2.mono s3).ex
      exact q p zs B3 H3 (S2.trans s3) n2 (M2.mono s3).b h1 h2
end
end K3
/-! TEXT K10f -/
set_option Elab.async false
set_option linter.all false
set_option maxRecDepth 100000
set_option maxHeartbeats 1000000
namespace K3
open PySem PySem.Spec L2

section
variable {m : Option Addr} {X : Cx} {e a b c o i : Expr} {es : List Expr} {σ : L2.St} {B H B' H' B0 H0 : Hp} {R R1 R2 : Rt} {Rs : List Rt} {pos p1 p2 p3 apos cpos : Pos} {Γ : List (Option Rt)} {d d1 d2 : PyData} {ds : List PyData} {x y f mt : Str} {k n : Nat} {rest : List Stmt} {D : Ends} {p q C : Addr} {fs : List Str}
/-! ### fields -/
theorem lookup_zip : ∀ {fs : List Str} {vs : List V} {ds : List PyData}, DqAll B vs ds → (fs.zip ds).lookup f = some d → ∃ v, (fs.zip vs).lookup f = some v ∧ Dq B v d
  | [], _, _, _, e => by simp at e
  | g :: fs, _, _, .nil, e => by simp at e
  | g :: fs, _, _, .cons h t, e => by
    rw [List.zip_cons_cons, List.lookup_cons] at e ⊢
    cases hg : (f == g) with
    | true => rw [hg] at e; cases e; exact ⟨_, rfl, h⟩
    | false => rw [hg] at e; exact lookup_zip t e
theorem lookup_no : ∀ {fs : List Str} {vs : List V}, fs.contains mt = false → (fs.zip vs).lookup mt = none
  | [], _, _ => by simp
  | g :: fs, [], _ => by simp
  | g :: fs, v :: vs, h => by
    rw [List.contains_cons, Bool.or_eq_false_iff] at h
    rw [List.zip_cons_cons, List.lookup_cons, h.1]
    exact lookup_no h.2
theorem ev_fld (cl : Cls X.K C) (na : NoAttr X.K C f) (h : Ev m X e σ B H (K3.IsD (insD C fs ds))) (hl : (fs.zip ds).lookup f = some d) (hlen : fs.length = ds.length := by rfl) (hb : attributeBase e f X.env (eval e X.env) = eval e X.env := by rfl) : Ev m X (.Attribute e f pos) σ B H (K3.IsD d) :=
  ev_by (pe_fld pe_w hb) fun B1 H1 s1 Q q => h B1 H1 s1 _ fun x B2 H2 s2 rx => by
    obtain ⟨a, dx, vs, rfl, h1, h2⟩ := Dq.ins_ex hlen rx
    obtain ⟨v, e1, e2⟩ := lookup_zip h2 hl
    exact ⟨a, C, dx, _, v, rfl, s2.s _ _ h1, cl, na, e1, q v B2 H2 s2 e2⟩
theorem ev_gref {a : Addr} (h : X.mg x = some (.ref a)) (hg : Gl X x := by rfl) (hd : (x == ("__debug__" : Str)) = false := by decide) : Ev m X (.Name x pos) σ B H (IsV (.ref a)) :=
  ev_glob (v := .ref a) hg h rfl hd fun _ => rfl
/-- a constant of a class -/
theorem ev_cval {cI : Int} {mc : Value} (hm : X.mg x = some (.ref C)) (hr : ClX.CRead X.K C mc) (hv : ∃ t, ClX.CVal X.K C mc f (.int cI) (.int cI t)) (hg : Gl X x := by rfl) (hd : (x == ("__debug__" : Str)) = false := by decide) (hb : attributeBase (.Name x p1) f X.env (eval (.Name x p1) X.env) = eval (.Name x p1) X.env := by rfl) :
    Ev m X (.Attribute (.Name x p1) f pos) σ B H (K3.IsD (.int cI)) := by
  obtain ⟨t, hv⟩ := hv
  exact ev_by (ClX.pe_cval (pe_glob (v := .ref C) hg hm rfl hd) hb) fun B1 H1 s1 Q q => ⟨C, mc, .int cI, .int cI t, rfl, hr, hv, q _ B1 H1 s1.here (.int cI)⟩
/-! ### methods -/
structure CM (P : Program) (w : World) (K : PySem.W.Frag) (mg : Str → Option Value) (base : Heap) (C : Addr) (mt : Str) (ps : List Str) (k : Nat) (sp : Sp) : Prop where
  ex : ∃ (g : Addr) (fd : FuncData), Meth K C mt g ∧ Binds K fd ps [] ∧ FnOk P w K mg base CX0 k g fd ps sp
variable {ps : List Str} {pl : Sem Bool}
theorem ev_meth (cl : Cls X.K C) (G : CM X.prog X.w X.K X.mg X.base C mt ps k (spD none (K3.IsD (insD C fs ds) :: Rs) R)) (hr : Room n X.A) (ho : Ev m X o σ B H (K3.IsD (insD C fs ds))) (ha : EvA m X (e :: es) σ B H Rs) (hk : k ≤ n := by decide) (hlen : fs.length = ds.length := by rfl) (hno : fs.contains mt = false := by decide)
    (hst : starEach (e :: es) X.env = (false, eval e X.env) :: starEach es X.env := by rfl) (hpl : (backTo cpos (starEach es X.env)).any (·.1) = false := by rfl)
    (ht : eval (.Call (.Attribute o mt apos) (e :: es) [] cpos) X.env = (do
      let ov ← eval o X.env
      standAt apos.atName
      let (f, first) ← holding [ov] (getMethod ov mt pl)
      callWith cpos f first (backTo cpos (starEach (e :: es) X.env)) (backToKw cpos (keywordEach [] X.env))) := by rfl) :
    Ev m X (.Call (.Attribute o mt apos) (e :: es) [] cpos) σ B H R := by
  obtain ⟨g, fd, h1, h2, h3⟩ := G.ex
  refine ev_by (pe_meth pe_w cl h1 h3 (hr.mono hk) h2 .nil pass0 pa_w hst hpl ht) fun B1 H1 s1 Q q => ho B1 H1 s1 _ fun v B2 H2 s2 rv => ?_
  obtain ⟨a, dx, vs, rfl, k1, k2⟩ := Dq.ins_ex hlen rv
  refine ⟨a, dx, _, rfl, s2.s _ _ k1, lookup_no hno, ha B2 H2 (s1.trans s2) _ fun ws B3 H3 s3 ra => ?_⟩
  refine ⟨B3, s3.s, pot0, ⟨Dq.mono rv s3.b, by rw [List.append_nil]; exact ra⟩, fun v B4 H4 s4 rv => ?_⟩
  exact q v B4 H4 ((s2.trans s3).trans (s4.up (s2.trans s3).p)) rv
theorem em_meth0 {es2 : List PyData} (cl : Cls X.K C) (G : CM X.prog X.w X.K X.mg X.base C mt ps k (spM [K3.IsD (insD C fs ds)] es2)) (hr : Room n X.A) (ho : Ev m X o σ B H (K3.IsD (insD C fs ds))) (hk : k ≤ n := by decide) (hlen : fs.length = ds.length := by rfl) (hno : fs.contains mt = false := by decide)
    (ht : eval (.Call (.Attribute o mt apos) [] [] cpos) X.env = (do
      let ov ← eval o X.env
      standAt apos.atName
      let (f, first) ← holding [ov] (getMethod ov mt pl)
      callWith cpos f first (backTo cpos (starEach [] X.env)) (backToKw cpos (keywordEach [] X.env))) := by rfl) :
    EvM m X (.Call (.Attribute o mt apos) [] [] cpos) σ B H es2 := by
  obtain ⟨g, fd, h1, h2, h3⟩ := G.ex
  refine fun B1 H1 s1 Q q => wE.of (pe_meth0 pe_w cl h1 h3 (hr.mono hk) h2 .nil pass0 ht) (ho B1 H1 s1 _ fun v B2 H2 s2 rv => ?_)
  obtain ⟨a, dx, vs, rfl, k1, k2⟩ := Dq.ins_ex hlen rv
  refine ⟨a, dx, _, rfl, s2.s _ _ k1, lookup_no hno, ?_⟩
  refine ⟨B2, s2.s, ⟨rv, trivial⟩, fun p zs B3 H3 s3 n1 n2 hz hd => ?_⟩
  exact q p zs B3 H3 (s2.trans (s3.up s2.p)) (s2.t p n1) n2 hz hd
/-! ### instances made -/
/-- __init__'s promise: the fields fs stand as ds -/
def spI (C : Addr) (Rs : List Rt) (fs : List Str) (ds : List PyData) : Sp := fun vs H Q _ => ∃ Bb Hb B x dx us, vs = V.ref x :: us ∧ Stp none Bb Hb B H ∧ Hb x = none ∧ MuO none B H x (.ins C dx []) ∧ Args Rs us B ∧
  ∀ zs B' H', Stp none Bb Hb B' H' → MuO none B' H' x (.ins C dx (fs.zip zs)) → DqAll B' zs ds → Q .non H'
structure CI (P : Program) (w : World) (K : PySem.W.Frag) (mg : Str → Option Value) (base : Heap) (x : Str) (C : Addr) (ps : List Str) (k : Nat) (sp : Sp) : Prop where
  ex : ∃ (g : Addr) (fd : FuncData), mg x = some (.ref C) ∧ Mk K C g ∧ Binds K fd ps [] ∧ FnOk P w K mg base CX0 k g fd ps sp
theorem zip_fst : ∀ {fs : List Str} {zs : List V}, fs.length = zs.length → (fs.zip zs).map (·.1) = fs
  | [], _, _ => by simp
  | f :: fs, [], h => by cases h
  | f :: fs, z :: zs, h => by rw [List.zip_cons_cons, List.map_cons, zip_fst (Nat.succ.inj h)]
theorem zip_snd : ∀ {fs : List Str} {zs : List V}, fs.length = zs.length → (fs.zip zs).map (·.2) = zs
  | [], [], _ => rfl
  | [], _ :: _, h => by cases h
  | f :: fs, [], h => by cases h
  | f :: fs, z :: zs, h => by rw [List.zip_cons_cons, List.map_cons, zip_snd (Nat.succ.inj h)]
theorem dq_ins {zs : List V} {dx : Addr} (hl : fs.length = ds.length) (h : B p = some (.ins C dx (fs.zip zs))) (hd : DqAll B zs ds) : Dq B (.ref p) (insD C fs ds) := by
  have hz : fs.length = zs.length := by rw [hd.len]; exact hl
  have h1 := Dq.ins (ds := ds) h (by rw [zip_snd hz]; exact hd)
  rw [zip_fst hz] at h1
  exact h1
theorem ev_make (G : CI X.prog X.w X.K X.mg X.base x C ps k (spI C Rs fs ds)) (hr : Room n X.A) (ha : EvA m X (e :: es) σ B H Rs) (hk : k + 1 ≤ n := by decide) (hlen : fs.length = ds.length := by rfl) (hg : Gl X x := by rfl) (hdb : (x == ("__debug__" : Str)) = false := by decide)
    (he : starEach (e :: es) X.env = (false, eval e X.env) :: starEach es X.env := by rfl) (hpl : (backTo pos (starEach es X.env)).any (·.1) = false := by rfl) : Ev m X (.Call (.Name x p1) (e :: es) [] pos) σ B H (K3.IsD (insD C fs ds)) := by
  obtain ⟨g, fd, h1, h2, h3, h4⟩ := G.ex
  refine ev_by (pe_make h2 h4 (hr.mono hk) hg h1 h3 .nil pass0 pa_w hdb he hpl) fun B1 H1 s1 Q q => ha B1 H1 s1 _ fun vs B2 H2 s2 r => ?_
  intro x dx hx hdx hne
  have hx2 : (upd H2 dx (.own x)) x = none := by rw [upd_ne (Ne.symm hne)]; exact hx
  have hbx : B2 x = none := s2.s.free hx
  refine ⟨B2, H2, B2, x, dx, vs ++ [], rfl, ((Stp.refl s2.s pot0).mnew hdx).mnew hx2, hx, ⟨(fun z => nomatch z), hbx, upd_same⟩, by rw [List.append_nil]; exact r, fun zs B3 H3 s3 M3 hd => ⟨rfl, ?_⟩⟩
  have s4 := s3.up s2.p
  refine q (.ref x) (upd B3 x (.ins C dx (fs.zip zs))) H3 (s2.trans (s4.frz hx M3.b M3.at_ (s2.p.ne hx))) (dq_ins hlen upd_same (hd.mono (same_upd M3.b)))
/-- THE RULE of an __init__ -/
theorem fn_okI {P : Program} {w : World} {K : PySem.W.Frag} {mg : Str → Option Value} {base : Heap} {xn qual : Str} {st : Stmt} {fa : Addr} {fd : FuncData} {dvs : List V} {kws : List (Str × V)} {N : List Str} [Mns Rs] (F : FunD K xn qual (defArgs st) (defBody st) (defScope st) dvs kws fa fd) (S : FnScope N ps (defScope st)) (hl : Rs.length + 1 = ps.length)
    (body : ∀ cdv A outer s E Bb Hb B H x dx vs (Q : VK), Room k (XO P w K mg base N qual st fa cdv A outer s H E).A → Stp none Bb Hb B H → Hb x = none → MuO none B H x (.ins C dx []) → Sl (L2.start N vs) B ((IsV (.ref x) :: Rs).map some ++ List.replicate (N.length - (Rs.length + 1)) none) →
      (∀ zs B' H', Stp none Bb Hb B' H' → MuO none B' H' x (.ins C dx (fs.zip zs)) → DqAll B' zs ds → Q .non H') →
      wSs (XO P w K mg base N qual st fa cdv A outer s H E) (defBody st) { nx := fun _ H' => Q .non H', rt := Q } (L2.start N vs) H) : FnOk P w K mg base CX0 (k + 1) fa fd ps (spI C Rs fs ds) := by
  refine F.ok S (fun vs H Q E h => ?_) (fun cdv A outer s H vs Q E hr h => ?_)
  · obtain ⟨Bb, Hb, B, x, dx, us, rfl, _, _, _, a, _⟩ := h
    rw [List.length_cons, a.len, hl]
  · obtain ⟨Bb, Hb, B, x, dx, us, rfl, S1, hx, M, a, q⟩ := h
    exact ⟨_, PSs.nox pss_w, body cdv A outer s E Bb Hb B H x dx _ Q hr S1 hx M (sl_start (Rs := IsV (.ref x) :: Rs) ⟨rfl, a⟩) q⟩
/-- self.f = e -/
theorem ws_fld {dx : Addr} {fs0 : List (Str × V)} (cl : Cls X.K C) (na : NoAttr X.K C f) (S : Stp m B0 H0 B H) (M : MuO m B H p (.ins C dx fs0)) (h0 : H0 p = none) [mr : Mn R] (ha : Ev m X e σ B H R) (ho : Ev m X o σ B H (IsV (.ref p))) (hz : fs0.length < 1000)
    (k : ∀ v B' H', Same B B' → Stp m B0 H0 B' H' → MuO m B' H' p (.ins C dx (putF f v fs0)) → R v B' → wSs X rest D σ H')
    (hs : swapsWith e (some (.Attribute o f p1)) pos.line X.env = pure false := by rfl) : wSs X (.Assign [.Attribute o f p1] e pos :: rest) D σ H := by
  refine ws_cons (ps_fld pe_w pe_w hs) ?_
  refine ha B H S.here _ fun v B1 H1 s1 r1 => ?_
  refine ho B1 H1 s1 _ fun w B2 H2 s2 r2 => ?_
  obtain rfl : w = .ref p := r2
  have s := s1.trans s2
  have M2 := M.mono s
  exact ⟨p, C, dx, fs0, rfl, M2.at_, cl, na, hz, k v B2 _ s.b ((S.trans s).mut h0 M2.b M2.ne) M2.put (mr.mn v _ _ s2.b r1)⟩
/-! ### net(..), len(net), repr(net), isinstance -/
theorem ev_callO {g : Addr} {fd : FuncData} {es2 : List PyData} (cc : StX.CallO X.K C g) (hb : Binds X.K fd ps []) (F : FnOk X.prog X.w X.K X.mg X.base CX0 k g fd ps (spM (K3.IsD (insD C fs ds) :: Rs) es2)) (hr : Room n X.A) (ho : Ev m X o σ B H (K3.IsD (insD C fs ds))) (ha : EvA m X (e :: es) σ B H Rs) (hk : k ≤ n := by decide) (hlen : fs.length = ds.length := by rfl)
    (ht : eval (.Call o (e :: es) [] pos) X.env = (do callWith pos (← eval o X.env) [] (backTo pos (starEach (e :: es) X.env)) (backToKw pos (keywordEach [] X.env))) := by rfl)
    (he : starEach (e :: es) X.env = (false, eval e X.env) :: starEach es X.env := by rfl) (hpl : (backTo pos (starEach es X.env)).any (·.1) = false := by rfl) : EvM m X (.Call o (e :: es) [] pos) σ B H es2 :=
  fun B1 H1 s1 Q q => wE.of (StX.pe_callO pe_w cc (FnOk.raw F hb .nil) (hr.mono hk) pass0 pa_w ht he hpl) (ho B1 H1 s1 _ fun v B2 H2 s2 rv => by
    obtain ⟨a, dx, vs, rfl, k1, k2⟩ := Dq.ins_ex hlen rv
    refine ⟨a, rfl, ha B2 H2 (s1.trans s2) _ fun ws B3 H3 s3 ra => ⟨.inr ⟨dx, _, s3.s _ _ (s3.b _ _ k1)⟩, ?_⟩⟩
    refine ⟨B3, s3.s, ⟨Dq.mono rv s3.b, by rw [show ws.append [] = ws from List.append_nil ws]; exact ra⟩, fun p zs B4 H4 s4 n1 n2 hz hd => ?_⟩
    exact q p zs B4 H4 ((s2.trans s3).trans (s4.up (s2.trans s3).p)) ((s2.trans s3).t p n1) n2 hz hd)
/-- a method that a builtin calls -/
theorem run_in1 {pins : List (Addr × Obj)} {s : Shared} {g : Addr} {sp : Sp} {Q : VK} {us : List Value} {vs : List V} {E : XK} (F : FnR X.prog X.w X.K X.mg X.base CX0 k g sp) (hr : Room (k + 1) X.A) (I : Inv X pins σ H s) (r : Vals vs us) (h : sp vs H Q E) :
    wpAny (model X.prog X.w) X.A.in1 (call (.ref g) us) (EP X pins σ Q) X.xe s := by
  refine wpAny_call (codeAny_mono (F X.A.in1 X.stack s H us vs Q E hr.in1 I.env0.in1 r h) fun r s' hq => ?_)
  cases r with
  | error er => exact False.elim hq
  | ok fl =>
    cases fl with
    | ret u => exact I.after hq
    | next => exact False.elim hq
    | brk => exact False.elim hq
    | cont => exact False.elim hq
theorem call_lenO {g : Addr} {fd : FuncData} {j : Int} (hs : PySem.W.findIn X.K (.ref C) "__len__" = some (some (.ref g))) (hf : PySem.W.isFn X.K (.ref g) = true) (hb : Binds X.K fd ps []) (F : FnOk X.prog X.w X.K X.mg X.base CX0 k g fd ps (spD none [K3.IsD (insD C fs ds)] (K3.IsD (.int j)))) (hr : Room (k + 1) X.A) (hlen : fs.length = ds.length) (h0 : 0 ≤ j) (h1 : j < 2 ^ 63) :
    CallR X (.builtin "len") (fun vs H Q => ∃ v B, vs = [v] ∧ Same B H ∧ Dq B v (insD C fs ds) ∧ ∀ B' H', Stp none B H B' H' → Q (.int j) H') := by
  intro pins s σ H xs us Q I r h
  obtain ⟨v, B, rfl, sb, rv, q⟩ := h
  obtain ⟨a, dx, vs, rfl, k1, k2⟩ := Dq.ins_ex hlen rv
  obtain ⟨u, rfl, rx⟩ := vals1 r
  obtain rfl : u = Value.ref a := rx
  obtain ⟨mA, O, _⟩ := ins_get I.hok (sb _ _ k1)
  obtain ⟨od, J, _⟩ := O.look
  obtain ⟨mm, hF⟩ := I.fr
  refine PySem.W.len_K hF I.ok.mod.kin J hs hf ?_
  refine thn (run_in1 (FnOk.raw F hb .nil) hr I (us := [.ref a]) (vs := [.ref a]) (Q := fun v H' => v = .int j ∧ Q (.int j) H') (E := fun _ _ _ => False) (.cons rfl .nil) ⟨B, sb, pot0, ⟨rv, trivial⟩, fun v B' H' s' r' => ⟨Dq.int_eq r', q B' H' s'⟩⟩) fun u s' z => ?_
  obtain ⟨v, H', I', rv', e, qq⟩ := z
  subst e
  obtain ⟨t, rfl⟩ := rv'
  exact ⟨⟨h0, h1⟩, .int j, H', I'.tok _, ⟨_, rfl⟩, qq⟩
theorem ev_lenO {g : Addr} {fd : FuncData} {j : Int} (hs : PySem.W.findIn X.K (.ref C) "__len__" = some (some (.ref g))) (hf : PySem.W.isFn X.K (.ref g) = true) (hb : Binds X.K fd ps []) (F : FnOk X.prog X.w X.K X.mg X.base CX0 k g fd ps (spD none [K3.IsD (insD C fs ds)] (K3.IsD (.int j)))) (hr : Room n X.A) (h0 : 0 ≤ j) (h1 : j < 2 ^ 63)
    (hm : X.mg "len" = none) (h : Ev m X e σ B H (K3.IsD (insD C fs ds))) (hk : k + 1 ≤ n := by decide) (hlen : fs.length = ds.length := by rfl) (hg : Gl X "len" := by rfl) (hst : starEach [e] X.env = (false, eval e X.env) :: starEach [] X.env := by rfl) : Ev m X (.Call (.Name "len" p1) [e] [] pos) σ B H (K3.IsD (.int j)) :=
  ev_blt (call_lenO hs hf hb F (hr.mono hk) hlen h0 h1) hm boot_len (ea1 h hst) (fun vs B1 H1 Q s1 r q => by
    obtain ⟨v, rfl, r5⟩ := args1 r
    exact ⟨v, B1, rfl, s1.s, r5, fun B' H' s' => q _ B' H' (s'.up s1.p) (.int _)⟩) hg (he := hst)
theorem call_reprO {g : Addr} {fd : FuncData} {j : Str} (hs : PySem.W.findIn X.K (.ref C) "__repr__" = some (some (.ref g))) (hf : PySem.W.isFn X.K (.ref g) = true) (hb : Binds X.K fd ps []) (F : FnOk X.prog X.w X.K X.mg X.base CX0 k g fd ps (spD none [K3.IsD (insD C fs ds)] (K3.IsD (.str j)))) (hr : Room (k + 1) X.A) (hlen : fs.length = ds.length) :
    CallR X (.builtin "repr") (fun vs H Q => ∃ v B, vs = [v] ∧ Same B H ∧ Dq B v (insD C fs ds) ∧ ∀ B' H', Stp none B H B' H' → Q (.str j) H') := by
  intro pins s σ H xs us Q I r h
  obtain ⟨v, B, rfl, sb, rv, q⟩ := h
  obtain ⟨a, dx, vs, rfl, k1, k2⟩ := Dq.ins_ex hlen rv
  obtain ⟨u, rfl, rx⟩ := vals1 r
  obtain rfl : u = Value.ref a := rx
  obtain ⟨mA, O, _⟩ := ins_get I.hok (sb _ _ k1)
  obtain ⟨od, J, _⟩ := O.look
  obtain ⟨mm, hF⟩ := I.fr
  refine PySem.W.repr_K (by have := hr.un; show X.A.units + 1 < _; omega) hF I.ok.mod.kin J hs hf ?_
  refine thn (run_in1 (FnOk.raw F hb .nil) hr I (us := [.ref a]) (vs := [.ref a]) (Q := fun v H' => v = .str j ∧ Q (.str j) H') (E := fun _ _ _ => False) (.cons rfl .nil) ⟨B, sb, pot0, ⟨rv, trivial⟩, fun v B' H' s' r' => ⟨Dq.str_eq r', q B' H' s'⟩⟩) fun u s' z => ?_
  obtain ⟨v, H', I', rv', e, qq⟩ := z
  subst e
  obtain ⟨t, rfl⟩ := rv'
  exact ⟨.str j, H', I', ⟨_, rfl⟩, qq⟩
theorem ev_reprO {g : Addr} {fd : FuncData} {j : Str} (hs : PySem.W.findIn X.K (.ref C) "__repr__" = some (some (.ref g))) (hf : PySem.W.isFn X.K (.ref g) = true) (hb : Binds X.K fd ps []) (F : FnOk X.prog X.w X.K X.mg X.base CX0 k g fd ps (spD none [K3.IsD (insD C fs ds)] (K3.IsD (.str j)))) (hr : Room n X.A)
    (hm : X.mg "repr" = none) (h : Ev m X e σ B H (K3.IsD (insD C fs ds))) (hk : k + 1 ≤ n := by decide) (hlen : fs.length = ds.length := by rfl) (hg : Gl X "repr" := by rfl) (hst : starEach [e] X.env = (false, eval e X.env) :: starEach [] X.env := by rfl) : Ev m X (.Call (.Name "repr" p1) [e] [] pos) σ B H (K3.IsD (.str j)) :=
  ev_blt (call_reprO hs hf hb F (hr.mono hk) hlen) hm PyProof.Rows.boot_repr (ea1 h hst) (fun vs B1 H1 Q s1 r q => by
    obtain ⟨v, rfl, r5⟩ := args1 r
    exact ⟨v, B1, rfl, s1.s, r5, fun B' H' s' => q _ B' H' (s'.up s1.p) (.str _)⟩) hg (he := hst)
/-- isinstance(x, C) of an instance of C -/
theorem ev_isiO (cl : Cls X.K C) (ha : PySem.W.findIn X.K (.ref C) "__class__" = some (some (.builtin "object.__class__"))) (hn : PySem.W.specialIn X.K (.builtin "object.__class__") "__get__" = some (some (.builtin "getset_descriptor.__get__"))) (htk : PySem.W.takesIn X.K (.builtin "object.__class__") = some true) (hmr : PySem.W.mroIn X.K C (.type "object") = some true)
    (hm : X.mg "isinstance" = none) (hx : X.mg x = some (.ref C)) (h : Ev m X e σ B H (K3.IsD (insD C fs ds))) (hlen : fs.length = ds.length := by rfl) (hg : Gl X "isinstance" := by rfl) (hg2 : Gl X x := by rfl) (hd : (x == ("__debug__" : Str)) = false := by decide)
    (hs : starEach (e :: [.Name x p2]) X.env = (false, eval e X.env) :: starEach [.Name x p2] X.env := by rfl) (hs2 : starEach [.Name x p2] X.env = (false, eval (.Name x p2) X.env) :: starEach [] X.env := by rfl) (hpl : (backTo pos (starEach [.Name x p2] X.env)).any (·.1) = false := by rfl) :
    Ev m X (.Call (.Name "isinstance" p1) [e, .Name x p2] [] pos) σ B H (K3.IsD (.bool true)) :=
  ev_blt call_isi hm PyProof.Rows.boot_isinstance (ea2 (R1 := IsV (.ref C)) h (ev_c (t := tC .non) (pe_glob (v := .ref C) hg2 hx rfl hd) fun _ => rfl) hs hs2) (fun vs B1 H1 Q s1 r q => by
    obtain ⟨v, u, rfl, r1, r2⟩ := args2 r
    obtain rfl : u = .ref C := r2
    obtain ⟨a, dx, vs, rfl, k1, k2⟩ := Dq.ins_ex hlen r1
    refine ⟨.ref a, .ref C, .ref C, .ref C, true, rfl, .own C, .base (.ins (s1.s _ _ k1) cl ha hn htk hmr), ?_, q _ B1 H1 s1.here (.bl _)⟩
    unfold PySem.W.kitOne
    rw [if_pos (by first | exact beq_self_eq_true _ | rfl | simp)]) hg (he := hs) (hpl := hpl)
end
end K3
/-! TEXT K11f -/
set_option Elab.async false
set_option linter.all false
set_option maxRecDepth 100000
set_option maxHeartbeats 1000000
/-! == of lists and instances with an own ==, either answer -/
namespace GQ2
open PySem PySem.SeqAt
open AutoSeq1 (wpAny_loadPart')
open MeetsSeq MeetsSeq2 MeetsSeq3 SeqRoads2
open GQ (FinOf)
section
variable {prog : Program} {w : World} {A : Around} {R : Result → Shared → Prop}
/-- at each turn the two lists are read anew; b i: the i-th items are equal -/
def ListI (prog : Program) (w : World) (A : Around) (E : Value → Shared → Prop) (l b : Addr) (N : Nat) (eq : Nat → Bool) (I : Nat → Shared → Prop) : Prop :=
  ∀ i s, I i s → ∃ (items items2 : Array Value) (n n2 : Nat), s.heap.get? l = some { cls := .type "list", data := .seq items n } ∧ s.heap.get? b = some { cls := .type "list", data := .seq items2 n2 } ∧ items.size = N ∧ items2.size = N ∧
    ∀ (h1 : i < items.size) (h2 : i < items2.size), wpAny (model prog w) A.in1 (eqBool items[i] items2[i]) (fun r s' => r = eq i ∧ I (i + 1) s') E s
theorem eq_loopG (l b : Addr) (N : Nat) (eq : Nat → Bool) (I : Nat → Shared → Prop) (hl : ListI prog w A (fun e s' => R (.error e) s') l b N eq I)
    (fin : ∀ s, I N s → (∀ j, j < N → eq j = true) → R (.ok (.ret (.bool true))) s) (no : ∀ i s, I (i + 1) s → i < N → eq i = false → R (.ok (.ret (.bool false))) s) (k : Nat) :
    ∀ i : Nat, N - i = k → i ≤ N → ∀ s, I i s → (∀ j, j < i → eq j = true) →
      wpAny (model prog w) A.in1 (Builtin.«list.__eq__.loop» ⟨[.ref l, .ref b, rawInt i, rawInt 2], []⟩) (FinOf prog w A R) (fun e s' => R (.error e) s') s := by
  induction k with
  | zero =>
    intro i hk hi s h hj
    obtain ⟨items, items2, n, n2, hl1, hb1, hs1, hs2, _⟩ := hl _ _ h
    have hi' : i = N := by omega
    have hR : R (.ok (.ret (.bool true))) s := fin s (hi' ▸ h) (hi' ▸ hj)
    obtain ⟨hp, g, d, tk, os⟩ := s
    wp_walk using wpAny_loadPart' hl1, wpAny_loadPart' hb1
    have hi1 : items[((i : Nat) : Int).toNat]? = none := by simp; omega
    have hi2 : items2[((i : Nat) : Int).toNat]? = none := by simp; omega
    rw [hi1, hi2]
    wp_walk using wpAny_loadPart' hl1, wpAny_loadPart' hb1
    show R (.ok (.ret (.bool (items.size == items2.size)))) _
    rw [hs1, hs2]
    simpa using hR
  | succ k ih =>
    intro i hk hi s h hj
    obtain ⟨items, items2, n, n2, hl1, hb1, hs1, hs2, turn⟩ := hl _ _ h
    have hlt : i < items.size := by omega
    have hlt2 : i < items2.size := by omega
    have ht := turn hlt hlt2
    obtain ⟨hp, g, d, tk, os⟩ := s
    wp_walk using wpAny_loadPart' hl1, wpAny_loadPart' hb1
    have hi1 : items[((i : Nat) : Int).toNat]? = some items[i] := by simp [hlt]
    have hi2 : items2[((i : Nat) : Int).toNat]? = some items2[i] := by simp [hlt2]
    have hc : ((i : Int) + 1) = ((i + 1 : Nat) : Int) := by omega
    rw [hi1, hi2]
    refine wpAny_bind (wpAny_mono ht (fun r s2 h2 => ?_) fun _ _ x => x)
    obtain ⟨hr, h2⟩ := h2
    subst hr
    cases he : eq i with
    | true =>
      have hrec := ih (i + 1) (by omega) (by omega) s2 h2 (fun j h => by
        rcases Nat.lt_or_ge j i with z | z
        · exact hj j z
        · have : j = i := by omega
          subst this; exact he)
      obtain ⟨hp2, g2, d2, tk2, os2⟩ := s2
      wp_walk
      rw [hc]
      exact ⟨plainId_quiet plain_eq_loop _, codeAny_builtin entry_eq_loop (by
        rw [Around.under_plainId plain_eq_loop _]
        exact hrec)⟩
    | false =>
      have hR : R (.ok (.ret (.bool false))) s2 := no i s2 h2 (by omega) he
      obtain ⟨items', items2', n', n2', hl1', hb1', hs1', hs2', _⟩ := hl _ _ h2
      have hi1' : items'[((i : Nat) : Int).toNat]? = some items'[i] := by simp [hs1', show i < N by omega]
      have hi2' : items2'[((i : Nat) : Int).toNat]? = some items2'[i] := by simp [hs2', show i < N by omega]
      obtain ⟨hp2, g2, d2, tk2, os2⟩ := s2
      wp_walk using wpAny_loadPart' hl1', wpAny_loadPart' hb1'
      rw [hi1', hi2']
      wp_walk
      exact hR
theorem list_eqG (l b : Addr) (N : Nat) (eq : Nat → Bool) (I : Nat → Shared → Prop) (hl : ListI prog w A (fun e s' => R (.error e) s') l b N eq I)
    (fin : ∀ s, I N s → (∀ j, j < N → eq j = true) → R (.ok (.ret (.bool true))) s) (no : ∀ i s, I (i + 1) s → i < N → eq i = false → R (.ok (.ret (.bool false))) s) {s : Shared} (h : I 0 s) :
    wpAny (model prog w) A.in1 (Builtin.«list.__eq__» ⟨[.ref l, .ref b], []⟩) (FinOf prog w A R) (fun e s' => R (.error e) s') s := by
  obtain ⟨items, items2, n, n2, hl1, hb1, hs1, hs2, _⟩ := hl _ _ h
  have hrec := eq_loopG (A := A) (R := R) l b N eq I hl fin no _ 0 rfl (Nat.zero_le _) s h (fun j hj => absurd hj (Nat.not_lt_zero j))
  obtain ⟨hp, g, d, tk, os⟩ := s
  have f3 := AutoSeq1.sub_list_list
  have hne : ¬ (items.size != items2.size) = true := by simp [hs1, hs2]
  wp_walk using wpAny_loadPart' hl1, wpAny_loadPart' hb1
  exact ⟨plainId_quiet plain_eq_loop _, codeAny_builtin entry_eq_loop (by
    rw [Around.under_plainId plain_eq_loop _]
    exact hrec)⟩
end
section
variable {prog : Program} {w : World} {A : Around} {E : Value → Shared → Prop} {s : Shared}
theorem rc_listG {l b : Addr} {N : Nat} {Q : Value → Shared → Prop} (hu : A.units < cLine) (eq : Nat → Bool) (I : Nat → Shared → Prop) (hl : ListI prog w A E l b N eq I)
    (fin : ∀ s, I N s → (∀ j, j < N → eq j = true) → Q (.bool true) s) (no : ∀ i s, I (i + 1) s → i < N → eq i = false → Q (.bool false) s) (h : I 0 s) : wpAny (model prog w) A (richCompare .Eq (.ref l) (.ref b)) Q E s := by
  obtain ⟨items, items2, n, n2, hl1, hb1, _, _, _⟩ := hl _ _ h
  refine wpAny_richCompare_same_room (op := .Eq) ⟨_, hl1, rfl⟩ ⟨_, hb1, rfl⟩ F.slot_list_eq (GQ.call_here F.slot_list_eq ⟨_, hl1, rfl⟩ F.entry_list_eq (F.args_list_eq_2 _ _) ?_) hu
  exact list_eqG (R := wants (fun v s' => v ≠ .notImplemented ∧ Q v s') E) l b N eq I hl (fun s' q hj => ⟨(fun x => nomatch x), fin s' q hj⟩) (fun i s' q hi he => ⟨(fun x => nomatch x), no i s' q hi he⟩) h
end
end GQ2
namespace L2
open PySem PySem.Spec PyProof.Rows
/-- how two values compare, by the abstract heap -/
abbrev Eqb := V → V → Hp → Bool → Prop
def Monb (D : Eqb) : Prop := ∀ x y H H' r, Ext H H' → D x y H r → D x y H' r
def EqGb (X : Cx) (n : Nat) (D : Eqb) : Prop :=
  ∀ (A : Around) (pins : List (Addr × Obj)) (s : Shared) (σ : St) (H : Hp) (x y : V) (u v : Value) (b : Bool), Sub X n A → Inv X pins σ H s → RelV x u → RelV y v → D x y H b →
    wpAny (model X.prog X.w) A (eqBool u v) (fun r s' => r = b ∧ ∃ H', Inv X pins σ H' s' ∧ Ext H H') X.xe s
def RcGb (X : Cx) (n : Nat) (D : Eqb) : Prop :=
  ∀ (A : Around) (pins : List (Addr × Obj)) (s : Shared) (σ : St) (H : Hp) (x y : V) (u v : Value) (b : Bool), Sub X n A → Inv X pins σ H s → RelV x u → RelV y v → D x y H b →
    wpAny (model X.prog X.w) A (richCompare .Eq u v) (fun r s' => r = .bool b ∧ ∃ H', Inv X pins σ H' s' ∧ Ext H H') X.xe s
section
variable {X : Cx} {n m : Nat} {D : Eqb}
/-- lists, item by item: eq i says of the i-th -/
def DListb (D : Eqb) : Eqb := fun x y H r => ∃ (a b : Addr) (xs ys : List V) (eq : Nat → Bool), x = .ref a ∧ y = .ref b ∧ H a = some (.lst xs) ∧ H b = some (.lst ys) ∧ xs.length = ys.length ∧ (∀ (i : Nat) x y, xs[i]? = some x → ys[i]? = some y → D x y H (eq i)) ∧ r = decide (∀ j, j < xs.length → eq j = true)
theorem rcGb_list (hD : Monb D) (h : EqGb X n D) : RcGb X (n + 1) (DListb D) := by
  intro A pins s σ H x y u v r sb I rx ry d
  obtain ⟨a, b, xs, ys, eq, rfl, rfl, ha, hb, hl, p, hr⟩ := d
  cases rx
  cases ry
  refine GQ2.rc_listG (N := xs.length) sb.room.units0 eq (fun _ s' => LoopI X pins σ H s') (fun i s' q => ?_) (fun s' q hj => ⟨by rw [hr, decide_eq_true hj], q⟩) (fun i s' q hi he => ⟨by rw [hr, decide_eq_false (fun z => by have := z i hi; rw [he] at this; cases this)], q⟩) ⟨H, I, Ext.rfl'⟩
  obtain ⟨H1, I1, e1⟩ := id q
  obtain ⟨z, its, k, r, e⟩ := I1.hok a _ (e1 _ _ ha)
  obtain ⟨z2, its2, k2, r2, e2⟩ := I1.hok b _ (e1 _ _ hb)
  refine ⟨its.toArray, its2.toArray, k, k2, e, e2, by rw [List.size_toArray, ← r.length], by rw [List.size_toArray, ← r2.length, ← hl], fun h1 h2 => ?_⟩
  have g1 : its[i]? = some its.toArray[i] := by
    have h1' : i < its.length := by simpa using h1
    rw [List.getElem?_eq_getElem h1'] <;> simp
  have g2 : its2[i]? = some its2.toArray[i] := by
    have h2' : i < its2.length := by simpa using h2
    rw [List.getElem?_eq_getElem h2'] <;> simp
  have k1 : i < xs.length := by rw [r.length]; simpa using h1
  have k2 : i < ys.length := by rw [r2.length]; simpa using h2
  obtain ⟨u, hu, ru⟩ := r.get (List.getElem?_eq_getElem k1)
  obtain ⟨v, hv, rv⟩ := r2.get (List.getElem?_eq_getElem k2)
  rw [g1] at hu
  rw [g2] at hv
  rw [Option.some.inj hu, Option.some.inj hv]
  refine wpAny_mono (h A.in1 pins s' σ H1 _ _ u v _ sb.in1 I1 ru rv (hD _ _ _ _ _ e1 (p i _ _ (List.getElem?_eq_getElem k1) (List.getElem?_eq_getElem k2)))) (fun r s2 q => ?_) fun _ _ x => x
  obtain ⟨hr, H2, I2, e2⟩ := q
  exact ⟨hr, H2, I2, e1.trans e2⟩
/-- instances of C with an own ==: what R says of the two -/
def DInsb (C : Addr) (R : Addr → Addr → Hp → Bool → Prop) : Eqb := fun x y H r => ∃ a b dx dy fs gs, x = .ref a ∧ y = .ref b ∧ H a = some (.ins C dx fs) ∧ H b = some (.ins C dy gs) ∧ R a b H r
def spEqb (R : Addr → Addr → Hp → Bool → Prop) : Sp := fun vs H Q _ => ∃ a b r, vs = [.ref a, .ref b] ∧ R a b H r ∧ ∀ H', Ext H H' → Q (.bl r) H'
theorem rcGb_ins {CX : CXT} {C f : Addr} {fd : FuncData} {ps : List Str} {R : Addr → Addr → Hp → Bool → Prop} {E : XK} (F : FnOk X.prog X.w X.K X.mg X.base CX n f fd ps (spEqb R))
    (hs : PySem.W.findIn X.K (.ref C) "__eq__" = some (some (.ref f))) (hf : PySem.W.isFn X.K (.ref f) = true) (hb : Binds X.K fd ps []) (hx : Passes CX X E) : RcGb X n (DInsb C R) := by
  intro A pins s σ H x y u v rr sb I rx ry d
  obtain ⟨a, b, dx, dy, fs, gs, rfl, rfl, ha, hb', hr⟩ := d
  cases rx
  cases ry
  obtain ⟨mA, J, _⟩ := ins_get I.hok ha
  obtain ⟨mB, J', _⟩ := ins_get I.hok hb'
  obtain ⟨od, J, _⟩ := J.look
  obtain ⟨od', J', _⟩ := J'.look
  obtain ⟨m, hF⟩ := I.fr
  refine PySem.W.cmp_K (op := .Eq) (tb := .ref C) sb.room.units0 hF I.ok.mod.kin J J'.type (by simp [PySem.W.notFirst]) hs hf ?_
  have hsp : spEqb R [.ref a, .ref b] H (fun v H' => v = .bl rr ∧ Ext H H') E := ⟨a, b, rr, rfl, hr, fun H' e => ⟨rfl, e⟩⟩
  have e0 : Env0 X.prog X.w X.K X.mg X.base A X.stack s H := by
    have e := I.env0
    exact ⟨by rw [sb.fr]; exact e.frames, e.mod, e.bs, e.bsz, e.funs, e.frf, e.hok, e.bare⟩
  have hl := F.len _ _ _ _ hsp
  have r2 : Vals [V.ref a, V.ref b] [Value.ref a, Value.ref b] := .cons rfl (.cons rfl .nil)
  refine wpAny_call (codeAny_mono (F.run A X.stack s H ⟨[.ref a, .ref b], []⟩ [.ref a, .ref b] [.ref a, .ref b] _ E sb.room e0 (by
    have := hb s [.ref a, .ref b] I.kIn (by simpa using hl)
    simpa using this) r2 hsp) fun r s' hq => ?_)
  cases r with
  | error e => exact hx pins σ H s e s' I hq
  | ok fl =>
    cases fl with
    | ret w =>
      obtain ⟨z, H', I', rz, ez, ex⟩ := I.after hq
      subst ez
      cases rz
      exact ⟨rfl, H', I', ex⟩
    | next => exact False.elim hq
    | brk => exact False.elim hq
    | cont => exact False.elim hq
/-- from a rich comparison of references to == inside a list: the same object is equal to itself -/
theorem RcGb.eqG (h : RcGb X n D) (hr : ∀ x y H r, D x y H r → ∃ a b, x = .ref a ∧ y = .ref b) (hs : ∀ x H r, D x x H r → r = true) : EqGb X n D := by
  intro A pins s σ H x y u v r sb I rx ry d
  obtain ⟨a, b, rfl, rfl⟩ := hr _ _ _ _ d
  cases rx
  cases ry
  by_cases hab : a = b
  · subst hab
    obtain rfl := hs _ _ _ d
    exact SeqAt.EqAt.same (A := A) (s := s) (.ref a) X.prog X.w X.xe _ ⟨rfl, H, I, Ext.rfl'⟩
  · refine GQ.eqBool_refG hab (wpAny_mono (h A pins s σ H (.ref a) (.ref b) _ _ r sb I rfl rfl d) (fun r' s' q => ?_) fun _ _ x => x)
    obtain ⟨hr', q⟩ := q
    exact ⟨r, hr', rfl, q⟩
/-- x == y as an expression -/
def rEqGb (D : Eqb) : R2 := fun x y H Q => ∃ r, D x y H r ∧ ∀ H', Ext H H' → Q (.bl r) H'
theorem op_eqGb (h : RcGb X n D) (hr : Room n X.A) : OpR X (compareOp .Eq) (rEqGb D) := by
  intro pins s σ H x y v u Q I rx ry hq
  obtain ⟨r, d, q⟩ := hq
  show wpAny (model X.prog X.w) X.A (richCompare .Eq v u) (EP X pins σ Q) X.xe s
  refine wpAny_mono (h X.A pins s σ H x y v u r ⟨hr, rfl⟩ I rx ry d) (fun r' s' z => ?_) fun _ _ x => x
  obtain ⟨hr', H', I', e⟩ := z
  subst hr'
  exact ⟨.bl r, H', I', rfl, q H' e⟩
end
end L2
namespace K3
open PySem PySem.Spec L2
theorem toK_inj' : ∀ {l l' : List (Int × Int)}, l.map (fun p => (Sum.inl p.1, V.int p.2) : Int × Int → L2.Key × V) = l'.map (fun p => (Sum.inl p.1, V.int p.2)) → l = l'
  | [], [], _ => rfl
  | [], _ :: _, e => by cases e
  | _ :: _, [], e => by cases e
  | p :: l, q :: l', e => by
    simp only [List.map_cons, List.cons.injEq, Prod.mk.injEq, Sum.inl.injEq, V.int.injEq] at e
    obtain ⟨⟨e1, e2⟩, e3⟩ := e
    rw [toK_inj' e3, Prod.ext e1 e2]
theorem dq_uniq {H : Hp} {v : V} {d : PyData} (h : Dq H v d) : ∀ d', Dq H v d' → d = d' := by
  refine Dq.rec (motive_1 := fun v d _ => ∀ d', Dq H v d' → d = d') (motive_2 := fun vs ds _ => ∀ ds', DqAll H vs ds' → ds = ds') ?_ ?_ ?_ ?_ ?_ ?_ ?_ ?_ ?_ ?_ h
  · intro d' h; cases h; rfl
  · intro b d' h; cases h; rfl
  · intro i d' h; cases h; rfl
  · intro x d' h; cases h; rfl
  · intro a xs ds h1 _ ih d' h
    cases h with
    | lst h2 h3 => rw [h1] at h2; cases h2; rw [ih _ h3]
    | tup h2 _ => rw [h1] at h2; cases h2
    | dic h2 => rw [h1] at h2; cases h2
    | ins h2 _ => rw [h1] at h2; cases h2
  · intro a xs ds h1 _ ih d' h
    cases h with
    | lst h2 _ => rw [h1] at h2; cases h2
    | tup h2 h3 => rw [h1] at h2; cases h2; rw [ih _ h3]
    | dic h2 => rw [h1] at h2; cases h2
    | ins h2 _ => rw [h1] at h2; cases h2
  · intro a kvs h1 d' h
    cases h with
    | lst h2 _ => rw [h1] at h2; cases h2
    | tup h2 _ => rw [h1] at h2; cases h2
    | dic h2 =>
      rw [h1] at h2
      rw [toK_inj' (HO.dK.inj (Option.some.inj h2))]
    | ins h2 _ => rw [h1] at h2; cases h2
  · intro a C dx fs ds h1 _ ih d' h
    cases h with
    | lst h2 _ => rw [h1] at h2; cases h2
    | tup h2 _ => rw [h1] at h2; cases h2
    | dic h2 => rw [h1] at h2; cases h2
    | ins h2 h3 => rw [h1] at h2; cases h2; rw [ih _ h3]
  · intro ds' h; cases h; rfl
  · intro v vs d ds _ _ h1 h2 ds' h
    cases h with
    | cons h3 h4 => rw [h1 _ h3, h2 _ h4]
theorem stp_ext {m : Option Addr} {B H H' : Hp} (s : Same B H) (p : PotOk m B H) (e : Ext H H') : Stp m B H B H' :=
  ⟨Same.refl _, fun a o h => e _ _ (s _ _ h), fun a o _ h => e _ _ h, fun a h => (by
    cases z : H a with
    | none => rfl
    | some o => rw [e _ _ z] at h; cases h), fun _ _ _ h => h, fun q hq => by
    obtain ⟨⟨x, y, h1, h2⟩, h3⟩ := p q hq
    exact ⟨⟨x, y, e _ _ h1, h2⟩, h3⟩⟩
section
variable {m : Option Addr} {X : Cx} {B H : Hp} {R1 R2 : Rt} {n k : Nat} {C : Addr} {ps : List Str} {fd : FuncData} {f : Addr}
theorem cm_gb {D : Eqb} {r : Bool} (h : RcGb X n D) (hr : Room n X.A) (hd : ∀ x y B1 H1, Same B1 H1 → R1 x B1 → R2 y B1 → D x y H1 r) : Cm m X .Eq B H R1 R2 r :=
  ⟨_, op_eqGb h hr, fun x y B1 H1 Q s1 rx ry q => ⟨r, hd x y B1 H1 s1.s rx ry, fun H' e => q B1 H' (stp_ext s1.s s1.p e)⟩⟩
/-- what two instances of C say to each other, by their data -/
def RIns {α : Type} [DecidableEq α] (ok : α → α → Prop) (enc : α → PyData) : Addr → Addr → Hp → Bool → Prop := fun a b H r => ∃ (B : Hp) (x y : α), Same B H ∧ Dq B (.ref a) (enc x) ∧ Dq B (.ref b) (enc y) ∧ ok x y ∧ r = decide (x = y)
theorem rc_ins {α : Type} [DecidableEq α] {ok : α → α → Prop} {enc : α → PyData} (hb : Binds X.K fd ps []) (F : ∀ x y, ok x y → FnOk X.prog X.w X.K X.mg X.base CX0 n f fd ps (spD none [K3.IsD (enc x), K3.IsD (enc y)] (K3.IsD (.bool (decide (x = y))))))
    (hs : PySem.W.findIn X.K (.ref C) "__eq__" = some (some (.ref f))) (hf : PySem.W.isFn X.K (.ref f) = true) : RcGb X n (DInsb C (RIns ok enc)) := by
  have F2 : FnOk X.prog X.w X.K X.mg X.base CX0 n f fd ps (spEqb (RIns ok enc)) := by
    refine ⟨fun vs H Q E h => ?_, fun A outer s H args us vs Q E hr he hbt hv h => ?_⟩
    · obtain ⟨a, b, r, rfl, ⟨B, x, y, sb, h1, h2, o, e⟩, q⟩ := h
      exact (F x y o).len _ H (fun _ _ => True) E ⟨B, sb, pot0, ⟨h1, h2, trivial⟩, fun _ _ _ _ _ => trivial⟩
    · obtain ⟨a, b, r, rfl, ⟨B, x, y, sb, h1, h2, o, e⟩, q⟩ := h
      refine (F x y o).run A outer s H args us _ Q E hr he hbt hv ⟨B, sb, pot0, ⟨h1, h2, trivial⟩, fun v B' H' s' rv => ?_⟩
      rw [Dq.bl_eq rv, ← e]
      exact q H' fun a o h => s'.same a o h
  exact rcGb_ins F2 hs hf hb (E := fun _ _ _ => False) pass0
theorem eq_ins {α : Type} [DecidableEq α] {ok : α → α → Prop} {enc : α → PyData} (inj : ∀ x y, enc x = enc y → x = y) (h : RcGb X n (DInsb C (RIns ok enc))) : EqGb X n (DInsb C (RIns ok enc)) :=
  h.eqG (fun x y H r d => let ⟨a, b, _, _, _, _, e1, e2, _⟩ := d; ⟨a, b, e1, e2⟩) fun x H r d => by
    obtain ⟨a, b, _, _, _, _, e1, e2, _, _, B, u, v, sb, h1, h2, _, e⟩ := d
    rw [e1] at e2
    cases e2
    rw [e, inj _ _ (dq_uniq h1 _ h2)]
    simp
/-- lists of such instances -/
theorem cm_eqIns {α : Type} [DecidableEq α] {ok : α → α → Prop} {enc : α → PyData} {fs : List Str} {xs ys : List α} {fv : α → List PyData} (he : ∀ x, enc x = insD C fs (fv x)) (hl : ∀ x, fs.length = (fv x).length) (inj : ∀ x y, enc x = enc y → x = y) (h : RcGb X n (DInsb C (RIns ok enc))) (hr : Room (n + 1) X.A) (hlen : xs.length = ys.length) (hok : ∀ x ∈ xs, ∀ y ∈ ys, ok x y) :
    Cm m X .Eq B H (K3.IsD (.list (xs.map enc))) (K3.IsD (.list (ys.map enc))) (decide (xs = ys)) := by
  refine cm_gb (rcGb_list (fun x y H H' r e d => ?_) (eq_ins inj h)) hr fun x y B1 H1 s1 rx ry => ?_
  · obtain ⟨a, b, dx, dy, fs, gs, e1, e2, h1, h2, B, u, v, sb, h3, h4, h5⟩ := d
    exact ⟨a, b, dx, dy, fs, gs, e1, e2, e _ _ h1, e _ _ h2, B, u, v, fun p o hp => e _ _ (sb _ _ hp), h3, h4, h5⟩
  · obtain ⟨a, us, rfl, h1, h2⟩ := Dq.lst_ex rx
    obtain ⟨b, vs, rfl, h3, h4⟩ := Dq.lst_ex ry
    have l1 := h2.len
    have l2 := h4.len
    rw [List.length_map] at l1 l2
    refine ⟨a, b, us, vs, fun i => decide (xs[i]? = ys[i]?), rfl, rfl, s1 _ _ h1, s1 _ _ h3, by omega, fun i x y hx hy => ?_, ?_⟩
    · obtain ⟨d, e1, e2⟩ := h2.get hx
      obtain ⟨d', e3, e4⟩ := h4.get hy
      rw [List.getElem?_map] at e1 e3
      cases g : xs[i]? with
      | none => rw [g] at e1; cases e1
      | some u =>
        cases g' : ys[i]? with
        | none => rw [g'] at e3; cases e3
        | some v =>
          rw [g] at e1; rw [g'] at e3
          cases e1; cases e3
          have e2' := e2; have e4' := e4
          rw [he] at e2' e4'
          obtain ⟨a1, dx, w1, rfl, k1, _⟩ := Dq.ins_ex (hl u) e2'
          obtain ⟨a2, dy, w2, rfl, k2, _⟩ := Dq.ins_ex (hl v) e4'
          refine ⟨a1, a2, dx, dy, _, _, rfl, rfl, s1 _ _ k1, s1 _ _ k2, B1, u, v, s1, e2, e4, hok u (List.mem_of_getElem? g) v (List.mem_of_getElem? g'), ?_⟩
          simp [g, g']
    · rw [Bool.eq_iff_iff, decide_eq_true_iff, decide_eq_true_iff]
      constructor
      · intro e j hj
        rw [e]; simp
      · intro hj
        refine List.ext_getElem? fun i => ?_
        rcases Nat.lt_or_ge i xs.length with z | z
        · exact of_decide_eq_true (hj i (by omega))
        · rw [List.getElem?_eq_none z, List.getElem?_eq_none (by omega)]
/-- two such instances -/
theorem cm_eqIns1 {α : Type} [DecidableEq α] {ok : α → α → Prop} {enc : α → PyData} {fs : List Str} {x y : α} {fv : α → List PyData} (he : ∀ x, enc x = insD C fs (fv x)) (hl : ∀ x, fs.length = (fv x).length) (h : RcGb X n (DInsb C (RIns ok enc))) (hr : Room n X.A) (hok : ok x y) :
    Cm m X .Eq B H (K3.IsD (enc x)) (K3.IsD (enc y)) (decide (x = y)) := by
  refine cm_gb h hr fun u v B1 H1 s1 rx ry => ?_
  have rx' := rx; have ry' := ry
  rw [he] at rx' ry'
  obtain ⟨a1, dx, w1, rfl, k1, _⟩ := Dq.ins_ex (hl x) rx'
  obtain ⟨a2, dy, w2, rfl, k2, _⟩ := Dq.ins_ex (hl y) ry'
  exact ⟨a1, a2, dx, dy, _, _, rfl, rfl, s1 _ _ k1, s1 _ _ k2, B1, x, y, s1, rx, ry, hok, rfl⟩
end
end K3
/-! TEXT F9 -/
set_option Elab.async false
set_option linter.all false
set_option maxRecDepth 100000
set_option maxHeartbeats 1000000
namespace K3
open PySem PySem.Spec L2
section
variable {P : Program} {w : World} {K : PySem.W.Frag} {mg : Str → Option Value} {base : Heap}
/-! facts of the classes -/
abbrev cN (K : PySem.W.Frag) : Addr := He.ga K "Net"
abbrev cF (K : PySem.W.Frag) : Addr := He.ga K "Family"
abbrev cM (K : PySem.W.Frag) : Addr := He.ga K "Map"
def cfN : List He.Fa := cfa "Net" ["gates", "__len__", "__call__", "__repr__", "with_gate", "exchanged", "__init__"] ["own_lanes", "own_gates"]
def cfF : List He.Fa := cfa "Family" ["__eq__", "__init__"] ["own_lots"]
def cfM : List He.Fa := cfa "Map" ["__eq__", "__init__"] ["own_families"]
theorem in_N (T : Tx K mg) (i : Nat) {f : He.Fa} (h : cfN[i]? = some f := by rfl) : f.ok K = true := facts_mem T.c.d (List.mem_append_right _ (List.mem_append_right _ (List.mem_append_right _ (List.mem_append_left _ (mem_fa i h)))))
theorem in_F (T : Tx K mg) (i : Nat) {f : He.Fa} (h : cfF[i]? = some f := by rfl) : f.ok K = true := facts_mem T.c.d (List.mem_append_right _ (List.mem_append_right _ (List.mem_append_right _ (List.mem_append_right _ (List.mem_append_left _ (mem_fa i h))))))
theorem in_M (T : Tx K mg) (i : Nat) {f : He.Fa} (h : cfM[i]? = some f := by rfl) : f.ok K = true := facts_mem T.c.d (List.mem_append_right _ (List.mem_append_right _ (List.mem_append_right _ (List.mem_append_right _ (List.mem_append_right _ (mem_fa i h))))))
theorem cls_N (T : Tx K mg) : Cls K (cN K) := He.cls_ok (in_N T 0)
theorem mk_N (T : Tx K mg) : Mk K (cN K) (He.ma K (cN K) "__init__") := He.mkr_ok (in_N T 1)
theorem m_gates (T : Tx K mg) : Meth K (cN K) "gates" (He.ma K (cN K) "gates") := He.meth_ok (in_N T 3)
theorem m_len (T : Tx K mg) : Meth K (cN K) "__len__" (He.ma K (cN K) "__len__") := He.meth_ok (in_N T 4)
theorem m_call (T : Tx K mg) : Meth K (cN K) "__call__" (He.ma K (cN K) "__call__") := He.meth_ok (in_N T 5)
theorem m_repr (T : Tx K mg) : Meth K (cN K) "__repr__" (He.ma K (cN K) "__repr__") := He.meth_ok (in_N T 6)
theorem m_with (T : Tx K mg) : Meth K (cN K) "with_gate" (He.ma K (cN K) "with_gate") := He.meth_ok (in_N T 7)
theorem m_exch (T : Tx K mg) : Meth K (cN K) "exchanged" (He.ma K (cN K) "exchanged") := He.meth_ok (in_N T 8)
theorem na_lanes (T : Tx K mg) : NoAttr K (cN K) "own_lanes" := He.noat_ok (in_N T 10)
theorem na_gates (T : Tx K mg) : NoAttr K (cN K) "own_gates" := He.noat_ok (in_N T 11)
theorem cls_F (T : Tx K mg) : Cls K (cF K) := He.cls_ok (in_F T 0)
theorem mk_F (T : Tx K mg) : Mk K (cF K) (He.ma K (cF K) "__init__") := He.mkr_ok (in_F T 1)
theorem m_eqF (T : Tx K mg) : Meth K (cF K) "__eq__" (He.ma K (cF K) "__eq__") := He.meth_ok (in_F T 3)
theorem na_lots (T : Tx K mg) : NoAttr K (cF K) "own_lots" := He.noat_ok (in_F T 5)
theorem cls_M (T : Tx K mg) : Cls K (cM K) := He.cls_ok (in_M T 0)
theorem mk_M (T : Tx K mg) : Mk K (cM K) (He.ma K (cM K) "__init__") := He.mkr_ok (in_M T 1)
theorem m_eqM (T : Tx K mg) : Meth K (cM K) "__eq__" (He.ma K (cM K) "__eq__") := He.meth_ok (in_M T 3)
theorem na_fams (T : Tx K mg) : NoAttr K (cM K) "own_families" := He.noat_ok (in_M T 5)
theorem g_Net (T : Tx K mg) : mg "Net" = some (.ref (cN K)) := T.glo "Net" (by decide +kernel)
theorem g_Family (T : Tx K mg) : mg "Family" = some (.ref (cF K)) := T.glo "Family" (by decide +kernel)
theorem g_Map (T : Tx K mg) : mg "Map" = some (.ref (cM K)) := T.glo "Map" (by decide +kernel)
theorem g_PAIRED (T : Tx K mg) : mg "PAIRED" = some (.ref (He.ga K "PAIRED")) := T.glo "PAIRED" (by decide +kernel)
structure ExP (K : PySem.W.Frag) : Prop where
  gs : PySem.W.specialIn K (.builtin "object.__class__") "__get__" = some (some (.builtin "getset_descriptor.__get__"))
  tk : PySem.W.takesIn K (.builtin "object.__class__") = some true
  xN : clsX K "Net" = true
  xF : clsX K "Family" = true
  xM : clsX K "Map" = true
  v1 : cvalB K "Net" "MOST_LANES" 12 = true
  v2 : cvalB K "Net" "MOST_GATES" 400 = true
  v3 : cvalB K "Map" "MOST_LANES" 12 = true
  pr : propB K "Net" "lanes" = true
  co : codeB K (propG K "Net" "lanes") "Net.lanes" = true
  tu : He.tupB K "PAIRED" [.str "low", .str "high", .str "sort", .str "copy"] = true
  fi : PySem.W.fnIn K (He.ma K (He.ga K "Net") "__call__") = true
theorem ex_p (T : Tx K mg) : ExP K := by
  have h := T.c.ex
  unfold exB at h
  obtain ⟨h1, h⟩ := He.ba h
  obtain ⟨h2, h⟩ := He.ba h
  obtain ⟨h3, h⟩ := He.ba h
  obtain ⟨h4, h⟩ := He.ba h
  obtain ⟨h5, h⟩ := He.ba h
  obtain ⟨h6, h⟩ := He.ba h
  obtain ⟨h7, h⟩ := He.ba h
  obtain ⟨h8, h⟩ := He.ba h
  obtain ⟨h9, h⟩ := He.ba h
  obtain ⟨h10, h⟩ := He.ba h
  obtain ⟨h11, h⟩ := He.ba h
  obtain ⟨h12, h⟩ := He.ba h
  exact ⟨He.eqO_ok h1, of_decide_eq_true h2, h3, h4, h5, h6, h7, h8, h9, h10, h11, h12⟩
theorem cls_x {x : Str} (h : clsX K x = true) : PySem.W.findIn K (.ref (He.ga K x)) "__class__" = some (some (.builtin "object.__class__")) ∧ PySem.W.mroIn K (He.ga K x) (.type "object") = some true := by
  unfold clsX at h
  obtain ⟨h1, h⟩ := He.ba h
  obtain ⟨h2, h⟩ := He.ba h
  exact ⟨He.eqO_ok h1, of_decide_eq_true h2⟩
theorem cval_ok {C f : Str} {i : Int} (h : cvalB K C f i = true) : ClX.CRead K (He.ga K C) (.type "type") ∧ ∃ t, ClX.CVal K (He.ga K C) (.type "type") f (.int i) (.int i t) := by
  unfold cvalB at h
  obtain ⟨h1, h⟩ := He.ba h
  refine ⟨⟨h1, ?_⟩, ?_⟩
  · simp only [PySem.W.readsIn, Bool.and_eq_true, beq_iff_eq] at h1
    obtain ⟨⟨⟨⟨a, b⟩, c'⟩, d⟩, f⟩ := h1
    unfold PySem.W.specialIn
    rw [b]
    exact c'
  · cases q : PySem.W.findCls K (.ref (He.ga K C)) (.type "type") f with
    | none => rw [q] at h; cases h
    | some r =>
      rw [q] at h
      cases r with
      | val v =>
        cases v with
        | int j t =>
          have e : j = i := of_decide_eq_true h
          subst e
          exact ⟨t, q, ⟨t, rfl⟩⟩
        | _ => cases h
      | get _ _ _ _ => cases h
theorem call_N (T : Tx K mg) : StX.CallO K (cN K) (He.ma K (cN K) "__call__") := ⟨(m_call T).at_, (m_call T).fn, (ex_p T).fi⟩
/-- the getter of Net.lanes -/
theorem prop_N (T : Tx K mg) : PropOf K (cN K) "lanes" (He.ma K (cN K) "lanes") (propG K "Net" "lanes") := by
  have h := (ex_p T).pr
  unfold propB at h
  obtain ⟨h1, h⟩ := He.ba h
  obtain ⟨h2, h⟩ := He.ba h
  obtain ⟨h3, h⟩ := He.ba h
  refine ⟨He.eqO_ok h1, He.eqO_ok h2, of_decide_eq_true h3, ?_⟩
  unfold propG
  cases q : PySem.W.recIn K (He.ma K (He.ga K "Net") "lanes") "property" with
  | none => rw [q] at h; cases h
  | some r =>
    rw [q] at h
    cases r with
    | nil => cases h
    | cons v r =>
      cases v with
      | ref g => exact ⟨r, rfl⟩
      | _ => cases h
theorem get_N (T : Tx K mg) : ∃ fd, Binds K fd ["self"] [] ∧ FnOk P w K mg base CX0 1 (propG K "Net" "lanes") fd ["self"] (getSp (cN K) "own_lanes") := by
  have h := T.c.gt
  have hc := (ex_p T).co
  unfold gtW at h
  unfold codeB at hc
  cases q : K.lookup (propG K "Net" "lanes") with
  | none => rw [q] at h; cases h
  | some o =>
    rw [q] at h hc
    obtain ⟨oc, od, dt, osl⟩ := o
    cases dt with
    | func fd =>
      obtain ⟨n1, n2, n3, n4, n5, n6, n7, n8, n9, n10, n11, n12, n13, n14, n15⟩ := fd
      have e2 : (some (n1, n2, n3, n4, n5, n6, n7, n8, n15) : GtP) = gtV := h
      unfold gtV at e2
      simp only [Option.some.injEq, Prod.mk.injEq] at e2
      obtain ⟨h1, h2, h3, h4, h5, h6, h7, h8, h9⟩ := e2
      subst h1 h2 h3 h4 h5 h6 h7 h8 h9
      refine ⟨PySem.W.fnOf "lanes" "Net.lanes" (defArgs s_Net_lanes) (defBody s_Net_lanes) (defScope s_Net_lanes) .none n9 n10 n11 n12 n13 n14, Binds.all fun us hl => match us, hl with | [_], _ => rfl, ?_⟩
      exact fn_getter (N := ["self"]) q hc sc_Net_lanes rfl rfl (cls_N T) (na_lanes T)
    | _ => cases h
end
end K3
/-! TEXT K12f -/
set_option Elab.async false
set_option linter.all false
set_option maxRecDepth 100000
set_option maxHeartbeats 2000000
/-! enumerate of a tuple -/
namespace PySem
open Sem (wp)
theorem meets_enum_new1 {v : Value} {o : Obj} {H : Heap → Prop} (B : Begins v o H) :
    Meets (Builtin.«enumerate.__new__» ⟨[.type "enumerate", v], []⟩) (fun _ R s => H s.heap ∧
      R (.ok (.ret (.ref (s.heap.push o).objs.size))) { s with heap := (s.heap.push o).push { cls := .type "enumerate", data := .fields #[.none, .bool false, .ref s.heap.objs.size, rawInt 0, .none, .none] } }) :=
  .of_wp fun prog w A R s h => by
    obtain ⟨hp, g, d, tk, os⟩ := s; obtain ⟨h1, h⟩ := h
    have hsub := sub_enumerate
    have q1 : ∀ {A' : Around} {E : Value → Shared → Prop} {Q : Value → Shared → Prop}, Q (.ref hp.objs.size) ⟨hp.push o, g, d, tk, os⟩ → wpAny (model prog w) A' (pyIter v) Q E ⟨hp, g, d, tk, os⟩ :=
      fun q => B.iter prog w _ _ ⟨hp, g, d, tk, os⟩ _ h1 q
    wp_walk using q1
    refine wpAny_stack_any fun st => wpAny_pure ?_
    split
    · rename_i c _ _ _ _ _
      cases (c == Value.type "enumerate")
      · wp_walk using q1
        exact ⟨_, rfl, h⟩
      · wp_walk using q1
        exact ⟨_, rfl, h⟩
    · wp_walk using q1
      exact ⟨_, rfl, h⟩
theorem wpAny_pyNext_enumT_end {prog : Program} {w : World} {A : Around} {E : Value → Shared → Prop} {s : Shared} {e it l : Addr} {i : Nat} {items : Array Value} {old : Value} {Q : Option Value → Shared → Prop} (hh : A.handled = none)
    (he : IsEnum s.heap e it i old) (hit : s.heap.IsTupleIter it l i) (hl : s.heap.IsTuple l items) (hx : items[i]? = none)
    (hQ : ∀ h', Heap.ExtBut it s.heap h' → Q none { s with heap := h' }) : wpAny (model prog w) A (pyNext (.ref e)) Q E s := by
  have hT : s.TypeIs (.ref e) "enumerate" := ⟨_, he, rfl⟩
  unfold pyNext
  refine wpAny_bind (wpAny_attempt (wpAny_callSpecial?_slot (name := Str.ofString "__next__") hT F.slot_enumerate_next
    (wpAny_call_entry F.slot_enumerate_next hT F.entry_enumerate_next ?_ (F.args_enumerate_next_1 _))))
  show wpAny _ _ (field (.ref e) 2 >>= _) _ _ _
  refine wpAny_bind (wpAny_field he rfl (x := .ref it) rfl ?_)
  refine wpAny_bind (wpAny_nextOf_tuple_end (show A.in1.handled = none from hh) hit hl hx fun h' x he' hx' => ?_)
  obtain ⟨o, ho, hc⟩ := hx'
  refine wpAny_bind (wpAny_isInstance (T := "StopIteration") (b := true) ⟨o, ho, hc⟩ isSubtype_stop ?_)
  exact wpAny_pure (hQ _ he')
theorem call_enumerate_tuple {prog : Program} {w : World} {A : Around} {E : Value → Shared → Prop} {s : Shared} {l : Addr} {items : Array Value} {Q : Value → Shared → Prop} (hL : s.heap.IsTuple l items)
    (h : ∀ h', IsEnum h' (s.heap.objs.size + 1) s.heap.objs.size 0 .none → h'.IsTupleIter s.heap.objs.size l 0 → h'.objs.size = s.heap.objs.size + 2 →
      (∀ b o, s.heap.get? b = some o → h'.get? b = some o) → Q (.ref (s.heap.objs.size + 1)) { s with heap := h' }) :
    wpAny (model prog w) A (call (.type "enumerate") [.ref l]) Q E s := by
  refine callType_new F.called_enumerate (by decide) (F.typeCall_enumerate_1 _) (F.newCall_enumerate_1 _) (fun obj => F.args_object_init_2 obj _) F.entry_enumerate_new
    (meets_enum_new1 (begins_tuple l items)) ⟨hL, ?_⟩
  generalize ho : ({ cls := .type "tuple_iterator", data := .fields #[.ref l, .int 0 0] } : Obj) = o
  have hfree : o.isFreed = false := by rw [← ho]; rfl
  have hz : (s.heap.push o).objs.size = s.heap.objs.size + 1 := Heap.size_push ..
  show _ ∧ _
  rw [hz]
  have he : IsEnum ((s.heap.push o).push { cls := .type "enumerate", data := .fields #[.none, .bool false, .ref s.heap.objs.size, rawInt 0, .none, .none] }) (s.heap.objs.size + 1) s.heap.objs.size 0 .none := by
    have := Heap.get?_push_size (s.heap.push o) (o := { cls := .type "enumerate", data := .fields #[.none, .bool false, .ref s.heap.objs.size, rawInt 0, .none, .none] }) rfl
    rw [hz] at this; exact this
  refine ⟨⟨_, he, rfl⟩, h _ he ⟨o, Heap.get?_push_of_some _ (Heap.get?_push_size _ hfree), by rw [← ho], by rw [← ho]; rfl⟩ (by rw [Heap.size_push, hz]) fun b o x => Heap.get?_push_of_some _ (Heap.get?_push_of_some _ x)⟩
end PySem
namespace L2
open PySem PySem.Spec PyProof.Rows
def IteT (K : PySem.W.Frag) (a : Addr) : It :=
  ⟨fun i H => ∃ (xs : List V) (x : V), SqT K H a xs ∧ xs[i]? = some x, fun i H v H' => ∃ T x, v = .ref T ∧ H T = none ∧ H' = upd H T (.tup [.int (i : Nat), x]) ∧ ∀ xs, SqT K H a xs → xs[i]? = some x, fun i H => ∃ xs : List V, SqT K H a xs ∧ xs.length ≤ i⟩
theorem turn_enumT {P : Program} {w : World} {K : PySem.W.Frag} {elts : List Expr} {kk : Nat} {tpos : Pos} (a e it : Addr) :
    Turn P w K (.Tuple elts kk tpos) (IteT K a) [e, it] e (fun i h => (∃ old, IsEnum h e it ((i : Nat) : Int) old) ∧ h.IsTupleIter it a i ∧ e ≠ it) where
  mem := by simp
  obj := fun i h st b hb => by
    obtain ⟨⟨old, he⟩, ⟨o, ho, hc, hd⟩, _⟩ := st
    have e' : b = e ∨ b = it := by simpa using hb
    rcases e' with z | z
    · rw [z]; exact ⟨_, he, fun v q => nomatch q⟩
    · rw [z]; exact ⟨o, ho, fun v q => by rw [hd] at q; cases q⟩
  keep := fun i h h' st k => let ⟨⟨old, he⟩, hi, hne⟩ := st; ⟨⟨old, k e (by simp) _ he⟩, hi.at fun o q => k it (by simp) o q, hne⟩
  item := by
    intro X hP hw hK hc i pins s σ H E I hf st hg
    subst hP hw hK
    obtain ⟨⟨old, he⟩, hit, hne⟩ := st
    obtain ⟨xs, x, hq, hx⟩ := hg
    obtain ⟨its, rv, p, hz⟩ := I.tuple hq
    obtain ⟨u, hu, ru⟩ := rv.get hx
    have hel : e < s.heap.objs.size := Heap.lt_size he
    have hil : it < s.heap.objs.size := by obtain ⟨_, q, _⟩ := hit; exact Heap.lt_size q
    have hai : a ≠ it := fun z => by
      obtain ⟨o, ho, hc, _⟩ := p
      obtain ⟨o2, ho2, hc2, _⟩ := hit
      rw [z] at ho
      rw [ho] at ho2
      cases ho2
      exact absurd (Value.type.inj (hc.symm.trans hc2)) (by decide)
    have hae : a ≠ e := fun z => by
      obtain ⟨o, ho, hc, _⟩ := p
      have he2 : s.heap.get? e = some _ := he
      rw [z, he2] at ho
      have ho := Option.some.inj ho
      rw [← ho] at hc
      exact absurd (Value.type.inj hc) (by decide)
    refine wpAny_pyNext_enum_itemD (n := its.toArray.size) (Draws.tuple (A := X.A.in1) (show X.A.in1.handled = none from I.ok.hd hc) it a hai its.toArray) he ⟨hit, p⟩ (by have := rv.length; have := (List.getElem?_eq_some_iff.mp hx).1; simp; omega) hne (by simp [hne, Ne.symm hae]) fun x' h' tk hP' ho hst' hT hsz hk => ?_
    have hxu : x' = u := by
      have e1 : its.toArray[i]? = some u := by simpa using hu
      rw [hP'] at e1; exact Option.some.inj e1
    subst hxu
    obtain ⟨hit', _⟩ := hst'
    refine ⟨_, rfl, wpAny_letOwnedTupleGo_enum (s := { s with heap := h', toks := tk + 1 }) ho fun h'' he' sb => ?_⟩
    have hT2 : h''.get? s.heap.objs.size = some { cls := .type "tuple", data := .seq #[.int i tk, x'] } := (sb.2 _ (Nat.ne_of_gt hel)).trans hT
    have new : ObjOk X.prog X.w (upd H s.heap.objs.size (.tup [.int (i : Nat), x])) h'' s.heap.objs.size (.tup [.int (i : Nat), x]) :=
      ⟨by show 2 ≤ sizeLine; decide, [.int i tk, x'], .cons ⟨_, rfl⟩ (.cons ru .nil), ⟨_, hT2, rfl, _, rfl⟩⟩
    have I1 : Inv X pins σ (upd H s.heap.objs.size (.tup [.int (i : Nat), x])) { s with heap := h'', toks := tk + 1 } :=
      I.turnedNew (ch := [e, it]) (fun b ob hb q => (sb.2 b (fun z => hb (by simp [z]))).trans (hk b ob (fun z => hb (by simp [z])) (fun z => hb (by simp [z])) q)) hf (Nat.le_refl _) new
    refine ⟨.ref s.heap.objs.size, _, I1, rfl, ⟨_, x, rfl, I.hok.fresh (Nat.le_refl _), rfl, fun ys hy => by rw [I.tuple_inj hy hq]; exact hx⟩, ⟨⟨x', ?_⟩, hit'.at fun o q => (sb.2 it (Ne.symm hne)).trans q, hne⟩, fun b hb => ?_⟩
    · have e1 : ((i + 1 : Nat) : Int) = (i : Int) + 1 := by omega
      rw [e1]; exact he'
    · have hb' : b < s.heap.objs.size := by
        have e' : b = e ∨ b = it := by simpa using hb
        rcases e' with z | z
        · rw [z]; exact hel
        · rw [z]; exact hil
      rw [upd_ne (Nat.ne_of_lt hb')]
      exact (hf b hb).1
  done := by
    intro X hP hw hK hc i pins s σ H E I hf st hg
    subst hP hw hK
    obtain ⟨⟨old, he⟩, hit, hne⟩ := st
    obtain ⟨xs, hq, hx⟩ := hg
    obtain ⟨its, rv, p, hz⟩ := I.tuple hq
    obtain ⟨f0, f1, f2, f3, f4, f5⟩ := hf it (by simp)
    have hl := rv.length
    exact wpAny_pyNext_enumT_end (I.ok.hd hc) he hit p (by simp; omega) fun h' eb => ⟨rfl, I.turned (t' := s.toks) (fun b o hb q => eb b o hb q) f0 f1 f3 f4 f5⟩
  self := fun A i s Q E st h => let ⟨⟨_, he⟩, _⟩ := st; wpAny_pyIter_enum he h
def iEnumT (K : PySem.W.Frag) (ta : TA) : TI := fun σ H R => ta σ H fun vs H1 => ∃ a xs, vs = [.ref a] ∧ SqT K H1 a xs ∧ R (IteT K a) H1
theorem pi_enumT {X : Cx} {e : Expr} {ta : TA} {p pos tpos : Pos} {elts : List Expr} {kk : Nat} (hg : Gl X "enumerate") (hm : X.mg "enumerate" = none) (ha : PA X [e] ta) (hs : starEach [e] X.env = [(false, eval e X.env)] := by rfl) :
    PI X (.Tuple elts kk tpos) (.Call (.Name "enumerate" p) [e] [] pos) (iEnumT X.K ta) := by
  refine ⟨fun pins s σ H R I h => ?_⟩
  refine Call_ (ld_blt I hg hm boot_enumerate (PyProof.Rows.callWith_type1 (thn (ha.run pos pins s σ H _ I h) fun us s1 ⟨vs, H1, I1, r1, q1⟩ => ?_) hs rfl))
  obtain ⟨a, xs, ex, hq, q⟩ := q1
  subst ex
  cases r1 with
  | cons r rr =>
    cases rr
    cases r
    obtain ⟨its, rv, p', hz⟩ := I1.tuple hq
    refine call_enumerate_tuple p' fun h' he hit hsz hk => wpAny_pyIter_enum he ?_
    have I2 : Inv X pins σ H1 { s1 with heap := h' } := I1.kept (t' := s1.toks) hk
    refine ⟨s1.heap.objs.size + 1, [s1.heap.objs.size + 1, s1.heap.objs.size], _, _, H1, rfl, I2, turn_enumT a (s1.heap.objs.size + 1) s1.heap.objs.size, ⟨⟨.none, he⟩, hit, Nat.succ_ne_self _⟩, fun b hb => ?_, q⟩
    have e' : b = s1.heap.objs.size + 1 ∨ b = s1.heap.objs.size := by simpa using hb
    have hle : s1.heap.objs.size ≤ b := by
      rcases e' with z | z
      · rw [z]; exact Nat.le_add_right _ _
      · rw [z]; exact Nat.le_refl _
    exact I1.fpOk hle (I1.hok.fresh hle)
end L2
namespace K3
open PySem PySem.Spec L2
theorem wk_enumT {m : Option Addr} {X : Cx} {e : Expr} {σ : L2.St} {B H : Hp} {pos p1 tpos : Pos} {ds : List PyData} {kk : Nat} {elts : List Expr} (hm : X.mg "enumerate" = none) (h : Ev m X e σ B H (K3.IsD (.tuple ds))) (hg : Gl X "enumerate" := by rfl) (hs : starEach [e] X.env = [(false, eval e X.env)] := by rfl) : Wk m X (.Tuple elts kk tpos) (.Call (.Name "enumerate" p1) [e] [] pos) σ B H (enumD ds) :=
  ⟨_, pi_enumT hg hm pa_w hs, fun B1 H1 s1 R q => (ea1 h hs) B1 H1 s1 _ fun vs B2 H2 s2 r => by
    obtain ⟨v, rfl, r5⟩ := args1 r
    obtain ⟨a, xs, rfl, h1, h2⟩ := Dq.tup_ex r5
    have hl := h2.len
    have hlen : (enumD ds).length = ds.length := by unfold enumD; simp
    refine ⟨a, xs, rfl, SqT.of (s2.s _ _ h1), q _ B2 H2 s2 ⟨fun i H s hi => ?_, fun i H s hi => ⟨xs, SqT.of (s _ _ h1), by omega⟩, fun i d B H x H' hd s s' hp y => ?_⟩⟩
    · exact ⟨xs, xs[i]'(by omega), SqT.of (s _ _ h1), List.getElem?_eq_getElem (by omega)⟩
    · obtain ⟨T, y0, rfl, hT, rfl, y⟩ := y
      have hx := y xs (SqT.of (s' _ _ (s _ _ h1)))
      obtain ⟨d', e1, e2⟩ := (h2.mono s).get hx
      have ed : d = .tuple [.int (i : Int), d'] := by
        unfold enumD at hd
        rw [List.getElem?_mapIdx, e1] at hd
        exact (Option.some.inj hd).symm
      subst ed
      exact ⟨_, (Stp.refl s' hp).new hT, .tup upd_same (.cons (.int _) (.cons (e2.mono (same_upd (s'.free hT))) .nil))⟩⟩
end K3
/-! TEXT F10 -/
set_option Elab.async false
set_option linter.all false
set_option maxRecDepth 100000
set_option maxHeartbeats 1000000
namespace K3
open PySem PySem.Spec L2
section
variable {P : Program} {w : World} {K : PySem.W.Frag} {mg : Str → Option Value} {base : Heap}
/-! ### encodings of nets -/
abbrev netD (K : PySem.W.Frag) (n : Nat) (gs : List Gate) : PyData := insD (cN K) ["own_lanes", "own_gates"] [.int (n : Int), .tuple (gs.map encG)]
abbrev famD (K : PySem.W.Frag) (f : Fam) : PyData := insD (cF K) ["own_lots"] [encF f]
abbrev mapD (K : PySem.W.Frag) (t : List Fam) : PyData := insD (cM K) ["own_families"] [.list (t.map (famD K))]
theorem gk_inj {k k' : Gk} (h : k.s = k'.s) : k = k' := by
  cases k <;> cases k' <;> first | rfl | exact absurd h (by decide)
theorem gk_dec (k k' : Gk) : decide (k.s = k'.s) = decide (k = k') := by
  by_cases h : k = k'
  · subst h; simp
  · rw [decide_eq_false h, decide_eq_false (fun z => h (gk_inj z))]
theorem cl_same_lots (T : Tx K mg) (n : Nat) (hn : n ≤ 1000) : Cl P w K mg base "same_lots" ["lanes"] 1 (spM [K3.IsD (.int n)] ((told0 n).map encF)) :=
  cl_mk T 24 (d := d_same_lots) rfl rfl rfl rfl (by decide +kernel) (fun _ _ _ _ _ _ us hl => match us, hl with | [_], _ => rfl) fun fa fdd FF => by
    refine fn_okM FF sc_same_lots rfl fun cdv A outer s E0 B H vs Q hr S E q => ?_
    have e : (told0 n).map encF = (List.range n).map fun (i : Nat) => encF [[((i : Int), 0)]] := by unfold told0; rw [List.map_map]; rfl
    have e2 : rngD ((n : Int).toNat) = (List.range n).map fun (i : Nat) => PyData.int (i : Int) := by unfold rngD; rw [Int.toNat_natCast]
    refine ws_retM (ds := (told0 n).map encF) S ?_ q
    rw [e]
    refine em_lc (xs := List.range n) (enc := fun (i : Nat) => PyData.int (i : Int)) (own := [("lane", 1)]) E ?_ rfl sc_same_lots.nd (blkOk_by (own := [("lane", 1)]) (N := N_same_lots) (sc := defScope s_same_lots) (by decide +kernel)) (fun _ _ _ _ _ => pg_name (i := 1) sc_same_lots.nd rfl (by first | exact Or.inl rfl | exact Or.inr rfl)) (fun x _ => tg1)
      (fun s0 H0 C cl fp i σ1 B1 H1 hx s1 E1 => EvM.ev (em_lst [encL [((i : Int), 0)]] (ea1 (ev_tup [pairD ((i : Int), 0)] (ea1 (ev_tup [.int (i : Int), .int 0] (ea2 (ev_v E1 1) ev_int) (Nat.le_of_ble_eq_true rfl))) (Nat.le_of_ble_eq_true rfl))) (Nat.le_of_ble_eq_true rfl))) (by rw [List.length_range]; omega)
    rw [← e2]
    exact (wk_range (T_free T) (ev_v E 0) (by omega) (by omega)).s
theorem cm_inP (T : Tx K mg) {m : Option Addr} {X : Cx} (hX : X.K = K) {B H : Hp} {j : Str} : Cm m X .In B H (K3.IsD (.str j)) (IsV (.ref (He.ga K "PAIRED"))) (decide (j ∈ (["low", "high", "sort", "copy"] : List Str))) :=
  ⟨_, op_in_seq, fun x y B1 H1 Q s1 rx ry q => by
    obtain rfl : y = .ref (He.ga K "PAIRED") := ry
    cases Dq.str_eq rx
    refine ⟨_, (["low", "high", "sort", "copy"] : List Str).map V.str, rfl, .inr ?_, rfl, flat_strs _, ?_⟩
    · rw [hX]; exact He.tupB_ok (ex_p T).tu H1
    · have e := in_strs j ["low", "high", "sort", "copy"]
      simp only [Bool.false_eq_true, if_false]
      rw [e]; exact q B1 H1 s1.here⟩
theorem kit_str : kitB "str" "str" = some true := by decide +kernel
theorem cl_is_gate (T : Tx K mg) (n : Nat) (g : Gate) (h : Vg n g) : Cl P w K mg base "is_gate" ["lanes", "value"] 4 (spD none [K3.IsD (.int n), K3.IsD (encG g)] (K3.IsD (.bool true))) :=
  cl_mk T 25 (d := d_is_gate) rfl rfl rfl rfl (by decide +kernel) (fun _ _ _ _ _ _ us hl => match us, hl with | [_, _], _ => rfl) fun fa fdd FF => by
    refine fn_ok FF sc_is_gate rfl fun cdv A outer s E0 B H vs Q hr S E q => ?_
    refine ws_no S ((et_or4 (et_not (et_val (ev_isTup (T_free T) (T_free T) (ev_v E 1)))) (fun _ => et_cmp cm_neI (ev_lenT (ds := [.str g.kind.s, .int g.one, .int g.other]) (T_free T) (ev_v E 1)) ev_int) (fun _ _ => et_not (et_val (ev_isi (d := .str g.kind.s) (T_free T) (T_free T) PyProof.Rows.boot_str (ev_ixT (ds := [.str g.kind.s, .int g.one, .int g.other]) (ev_v E 1) ev_int (i := 0) rfl) kit_str rfl)))
      (fun _ _ _ => et_not (et_val (ev_call (cl_is_lane_b T n g.one) hr (ea2 (ev_v E 0) (ev_ixT (ds := [.str g.kind.s, .int g.one, .int g.other]) (ev_v E 1) ev_int (i := 1) rfl)))))).cast ?_) fun B1 H1 s1 S => ?_
    · rw [decide_eq_true h.one.1, decide_eq_true h.one.2]; rfl
    have E := E.mono s1.b
    refine ws_if S (et_cmp (k := decide (g.kind.s = "add")) cm_eqS (ev_ixT (ds := [.str g.kind.s, .int g.one, .int g.other]) (ev_v E 1) ev_int (i := 0) rfl) (ev_gstr (T_ADD T))) (fun h1 B2 H2 s2 S => ws_ret S (ev_call (cl_is_int T g.other) hr (ea1 (ev_ixT (ds := [.str g.kind.s, .int g.one, .int g.other]) (ev_v (E.mono s2.b) 1) ev_int (i := 2) rfl))) q) (fun h1 B2 H2 s2 S => ws_nil ?_)
    have E := E.mono s2.b
    have hk : g.kind ≠ .add := fun z => by rw [z] at h1; exact absurd h1 (by decide)
    have ho := h.other hk
    refine ws_ret S ((ev_and3 (ev_cmp (R1 := K3.IsD (.str g.kind.s)) (cm_inP T rfl) (ev_ixT (ds := [.str g.kind.s, .int g.one, .int g.other]) (ev_v E 1) ev_int (i := 0) rfl) (ev_gref (g_PAIRED T))) (fun _ => ev_call (cl_is_lane_b T n g.other) hr (ea2 (ev_v E 0) (ev_ixT (ds := [.str g.kind.s, .int g.one, .int g.other]) (ev_v E 1) ev_int (i := 2) rfl)))
      (fun _ _ => ev_cmp cm_neI (ev_ixT (ds := [.str g.kind.s, .int g.one, .int g.other]) (ev_v E 1) ev_int (i := 1) rfl) (ev_ixT (ds := [.str g.kind.s, .int g.one, .int g.other]) (ev_v E 1) ev_int (i := 2) rfl))).cast ?_) q
    rw [decide_eq_true ho.1, decide_eq_true ho.2.1, decide_eq_false ho.2.2, decide_eq_true (show g.kind.s ∈ _ by revert hk; cases g.kind <;> intro hk <;> first | exact absurd rfl hk | decide)]
    rfl
theorem cl_want_gatesL (T : Tx K mg) (n : Nat) (gs : List Gate) (h : ∀ g ∈ gs, Vg n g) : Cl P w K mg base "want_gates" ["lanes", "gates"] 5 (spD none [K3.IsD (.int n), K3.IsD (.list (gs.map encG))] (K3.IsD .none)) :=
  cl_mk T 26 (d := d_want_gates) rfl rfl rfl rfl (by decide +kernel) (fun _ _ _ _ _ _ us hl => match us, hl with | [_, _], _ => rfl) fun fa fdd FF => by
    refine fn_ok FF sc_want_gates rfl fun cdv A outer s E0 B H vs Q hr S E q => ?_
    refine ws_no S (et_nT (et_val (ev_call (cl_is_list T _ rfl) hr (ea1 (ev_v E 1))))) fun B1 H1 s1 S => ?_
    have E := E.mono s1.b
    refine ws_for (xs := gs.mapIdx fun i x => (i, x)) (enc := fun p => .tuple [.int (p.1 : Int), encG p.2]) (u := fun p Γ => (Γ.set 2 (some (K3.IsD (.int (p.1 : Int))))).set 3 (some (K3.IsD (encG p.2)))) S ?_ (pg_tup rfl (pgs_cons (pg_name (i := 2) sc_want_gates.nd rfl (by first | exact Or.inl rfl | exact Or.inr rfl)) (pgs_cons (pg_name (i := 3) sc_want_gates.nd rfl (by first | exact Or.inl rfl | exact Or.inr rfl)) pgs_nil))) (fun x _ => tg2) rfl PassesOwn.never
      (fun _ => [some (K3.IsD (.int n)), some (K3.IsD (.list (gs.map encG))), none, none]) (fun _ _ _ => True) (fun _ _ _ _ _ _ _ => trivial) (fun B1 H1 s1 S => ⟨E.mono s1.b, trivial⟩) (fun i x σ1 B2 H2 hx S2 sb E2 _ => ?_) (fun σ1 B2 H2 S2 sb E2 _ => ws_nil (q _ _ _ S2 .non))
    · rw [← enum_map]
      exact wk_enum (T_free T) (ev_v E 1)
    · have hm : x.2 ∈ gs := mem_enum (List.mem_of_getElem? hx)
      refine ws_no S2 (et_nT (et_val (ev_call (cl_is_gate T n x.2 (h _ hm)) hr (ea2 (ev_v E2 0) (ev_v E2 3))))) fun B3 H3 s3 S3 => ws_nil ⟨B3, s3.b, S3, (E2.mono s3.b).to, trivial⟩
theorem cl_want_gatesT (T : Tx K mg) (n : Nat) (gs : List Gate) (h : ∀ g ∈ gs, Vg n g) : Cl P w K mg base "want_gates" ["lanes", "gates"] 5 (spD none [K3.IsD (.int n), K3.IsD (.tuple (gs.map encG))] (K3.IsD .none)) :=
  cl_mk T 26 (d := d_want_gates) rfl rfl rfl rfl (by decide +kernel) (fun _ _ _ _ _ _ us hl => match us, hl with | [_, _], _ => rfl) fun fa fdd FF => by
    refine fn_ok FF sc_want_gates rfl fun cdv A outer s E0 B H vs Q hr S E q => ?_
    refine ws_no S (et_nT (et_val (ev_call (cl_is_list T _ rfl) hr (ea1 (ev_v E 1))))) fun B1 H1 s1 S => ?_
    have E := E.mono s1.b
    refine ws_for (xs := gs.mapIdx fun i x => (i, x)) (enc := fun p => .tuple [.int (p.1 : Int), encG p.2]) (u := fun p Γ => (Γ.set 2 (some (K3.IsD (.int (p.1 : Int))))).set 3 (some (K3.IsD (encG p.2)))) S ?_ (pg_tup rfl (pgs_cons (pg_name (i := 2) sc_want_gates.nd rfl (by first | exact Or.inl rfl | exact Or.inr rfl)) (pgs_cons (pg_name (i := 3) sc_want_gates.nd rfl (by first | exact Or.inl rfl | exact Or.inr rfl)) pgs_nil))) (fun x _ => tg2) rfl PassesOwn.never
      (fun _ => [some (K3.IsD (.int n)), some (K3.IsD (.tuple (gs.map encG))), none, none]) (fun _ _ _ => True) (fun _ _ _ _ _ _ _ => trivial) (fun B1 H1 s1 S => ⟨E.mono s1.b, trivial⟩) (fun i x σ1 B2 H2 hx S2 sb E2 _ => ?_) (fun σ1 B2 H2 S2 sb E2 _ => ws_nil (q _ _ _ S2 .non))
    · rw [← enum_map]
      exact wk_enumT (T_free T) (ev_v E 1)
    · have hm : x.2 ∈ gs := mem_enum (List.mem_of_getElem? hx)
      refine ws_no S2 (et_nT (et_val (ev_call (cl_is_gate T n x.2 (h _ hm)) hr (ea2 (ev_v E2 0) (ev_v E2 3))))) fun B3 H3 s3 S3 => ws_nil ⟨B3, s3.b, S3, (E2.mono s3.b).to, trivial⟩
theorem cl_want_few (T : Tx K mg) (i : Int) (h : i ≤ 400) : Cl P w K mg base "want_few" ["many"] 1 (spD none [K3.IsD (.int i)] (K3.IsD .none)) :=
  cl_mk T 27 (d := d_want_few) rfl rfl rfl rfl (by decide +kernel) (fun _ _ _ _ _ _ us hl => match us, hl with | [_], _ => rfl) fun fa fdd FF => by
    refine fn_ok FF sc_want_few rfl fun cdv A outer s E0 B H vs Q hr S E q => ?_
    refine ws_no S ((et_cmp cm_gt (ev_v E 0) (ev_cval (g_Net T) (cval_ok (ex_p T).v2).1 (cval_ok (ex_p T).v2).2)).cast ?_) fun B1 H1 s1 S => ws_nil (q _ _ _ S .non)
    exact decide_eq_false (by omega)
theorem cl_want_position (T : Tx K mg) (n v : Int) (h0 : 0 ≤ v) (h1 : v < n) : Cl P w K mg base "want_position" ["many", "value"] 3 (spD none [K3.IsD (.int n), K3.IsD (.int v)] (K3.IsD .none)) :=
  cl_mk T 28 (d := d_want_position) rfl rfl rfl rfl (by decide +kernel) (fun _ _ _ _ _ _ us hl => match us, hl with | [_, _], _ => rfl) fun fa fdd FF => by
    refine fn_ok FF sc_want_position rfl fun cdv A outer s E0 B H vs Q hr S E q => ?_
    refine ws_no S ((et_or2 (et_not (et_val (ev_call (cl_is_cnt T v) hr (ea1 (ev_v E 1))))) fun _ => et_cmp cm_ge (ev_v E 1) (ev_v E 0)).cast ?_) fun B1 H1 s1 S => ws_nil (q _ _ _ S .non)
    rw [decide_eq_true h0, decide_eq_false (by omega)]; rfl
end
end K3
/-! TEXT K13f -/
set_option Elab.async false
set_option linter.all false
set_option maxRecDepth 100000
set_option maxHeartbeats 1000000
namespace K3
open PySem PySem.Spec L2
section
variable {m : Option Addr} {X : Cx} {e a b c o i lo hi : Expr} {es : List Expr} {σ : L2.St} {B H B' H' B0 H0 : Hp} {R R1 R2 : Rt} {Rs : List Rt} {pos p1 p2 p3 apos cpos : Pos} {Γ : List (Option Rt)} {d d1 d2 : PyData} {ds ds' es2 : List PyData} {x y f mt : Str} {k n : Nat} {rest : List Stmt} {D : Ends} {p q C : Addr} {fs ps : List Str}
/-- a def that changes its first argument, a list of the caller's own -/
def spU (Rs : List Rt) (ds ds' : List PyData) : Sp := fun vs H Q _ => ∃ Bb Hb B p us, vs = V.ref p :: us ∧ Stp none Bb Hb B H ∧ Hb p = none ∧ Mu none B H p ds ∧ Args Rs us B ∧ ∀ B' H', Same B B' → Stp none Bb Hb B' H' → Mu none B' H' p ds' → Q .non H'
theorem ws_mut (S : Stp none B0 H0 B H) (M : Mu none B H p ds) (h0 : H0 p = none) (G : Cl X.prog X.w X.K X.mg X.base x ps k (spU Rs ds ds')) (hr : Room n X.A) (ha : EvA none X (e :: es) σ B H (IsV (.ref p) :: Rs))
    (kk : ∀ B' H', Same B B' → Stp none B0 H0 B' H' → Mu none B' H' p ds' → wSs X rest D σ H') (hk : k ≤ n := by decide) (hg : Gl X x := by rfl) (hdb : (x == ("__debug__" : Str)) = false := by decide) (he : starEach (e :: es) X.env = (false, eval e X.env) :: starEach es X.env := by rfl)
    (hpl : (backTo cpos (starEach es X.env)).any (·.1) = false := by rfl) (hsw : swapsWith (.Call (.Name x p1) (e :: es) [] cpos) none pos.line X.env = pure false := by rfl) : wSs X (.Expr (.Call (.Name x p1) (e :: es) [] cpos) pos :: rest) D σ H := by
  obtain ⟨f, fd, h1, h2, h3, h4⟩ := G.ex
  refine ws_cons (ps_expr (pe_call h4 (hr.mono hk) hg h1 h2 h3 .nil pass0 pa_w hdb he hpl) hsw) ?_
  refine ha B H S.here _ fun vs B1 H1 s1 r => ?_
  cases vs with
  | nil => exact r.elim
  | cons v us =>
    obtain rfl : v = .ref p := r.1
    exact ⟨B0, H0, B1, p, us ++ [], rfl, S.trans s1, h0, M.mono s1, by rw [List.append_nil]; exact r.2, fun B2 H2 sb s2 M2 => kk B2 H2 (s1.b.trans sb) s2 M2⟩
theorem fn_okU {P : Program} {w : World} {K : PySem.W.Frag} {mg : Str → Option Value} {base : Heap} {xn qual : Str} {st : Stmt} {fa : Addr} {fd : FuncData} {dvs : List V} {kws : List (Str × V)} {N : List Str} [Mns Rs] (F : FunD K xn qual (defArgs st) (defBody st) (defScope st) dvs kws fa fd) (S : FnScope N ps (defScope st)) (hl : Rs.length + 1 = ps.length)
    (body : ∀ cdv A outer s E Bb Hb B H p vs (Q : VK), Room k (XO P w K mg base N qual st fa cdv A outer s H E).A → Stp none Bb Hb B H → Hb p = none → Mu none B H p ds → Sl (L2.start N vs) B ((IsV (.ref p) :: Rs).map some ++ List.replicate (N.length - (Rs.length + 1)) none) →
      (∀ B' H', Same B B' → Stp none Bb Hb B' H' → Mu none B' H' p ds' → Q .non H') →
      wSs (XO P w K mg base N qual st fa cdv A outer s H E) (defBody st) { nx := fun _ H' => Q .non H', rt := Q } (L2.start N vs) H) : FnOk P w K mg base CX0 (k + 1) fa fd ps (spU Rs ds ds') := by
  refine F.ok S (fun vs H Q E h => ?_) (fun cdv A outer s H vs Q E hr h => ?_)
  · obtain ⟨Bb, Hb, B, p, us, rfl, _, _, _, a, _⟩ := h
    rw [List.length_cons, a.len, hl]
  · obtain ⟨Bb, Hb, B, p, us, rfl, S1, hx, M, a, q⟩ := h
    exact ⟨_, PSs.nox pss_w, body cdv A outer s E Bb Hb B H p _ Q hr S1 hx M (sl_start (Rs := IsV (.ref p) :: Rs) ⟨rfl, a⟩) q⟩
/-! ### o[a:c] = list -/
theorem pg_slice {to tl th : TE} (ho : PE X o to) (hl : PE X lo tl) (hu : PE X hi th)
    (ha : ∀ v, assign (.Subscript o (.Slice (some lo) (some hi) none p2) pos) X.env v = (do
      let ov ← holding [v] (eval o X.env)
      let iv ← holding [v, ov] (eval (.Slice (some lo) (some hi) none p2) X.env)
      standAt pos
      holding [v, ov, iv] (setItem ov iv v)
      release [iv, v, ov] []) := by intro _; rfl) : PG X (.Subscript o (.Slice (some lo) (some hi) none p2) pos) (fun v σ H Q => to σ H fun x H1 => tl σ H1 fun l H2 => th σ H2 fun u H3 =>
      ∃ (p b : Addr) (xs ys : List V) (a c : Int), x = .ref p ∧ v = .ref b ∧ l = .int a ∧ u = .int c ∧ H3 p = some (.lst xs) ∧ H3 b = some (.lst ys) ∧ p ≠ b ∧ 0 ≤ a ∧ a ≤ c ∧ c ≤ xs.length ∧ xs.length + ys.length ≤ sizeLine ∧ Q σ (upd H3 p (.lst (xs.take a.toNat ++ ys ++ xs.drop c.toNat)))) := by
  refine ⟨fun pins s σ H v w Q I r h => ?_⟩
  rw [ha]
  refine wpAny_bind (wpAny_holding (thn (ho.run pins s σ H _ I h) fun ov s1 ⟨x, H1, I1, r1, q1⟩ => ?_))
  refine wpAny_bind (wpAny_holding ?_)
  refine wpAny_Slice ?_
  rw [evalPart_some, evalPart_some, evalPart_none]
  refine thn (hl.run pins s1 σ H1 _ I1 q1) fun vl s2 ⟨l, H2, I2, pl, q2⟩ => thn (hu.run pins s2 σ H2 _ I2 q2) fun vu s3 ⟨u, H3, I3, pu, q3⟩ => ?_
  refine wpAny_pure ?_
  obtain ⟨p, b, xs, ys, i, j, rfl, rfl, rfl, rfl, k1, k2, hne, k3, k4, k5, k6, q⟩ := q3
  obtain rfl : ov = Value.ref p := r1
  obtain rfl : w = Value.ref b := r
  have I4 : Inv X pins σ H3 { s3 with heap := s3.heap.push { cls := .type "slice", data := .fields #[vl, vu, .none] } } := I3.kept (t' := s3.toks) fun b ob q => Heap.get?_push_of_some _ q
  refine wpAny_bind (wpAny_standAt (wpAny_bind (wpAny_holding ?_)))
  refine set_slice I4 k1 k2 hne (Heap.IsSliceOf.new ..) pl pu k3 k4 k5 k6 fun s4 I5 => ?_
  exact wpAny_release ⟨σ, _, I5, q⟩
theorem ws_setsl {j k2 : Int} (S : Stp m B0 H0 B H) (M : Mu m B H p ds) (h0 : H0 p = none) (ha : Ev m X e σ B H (K3.IsD (.list es2))) (ho : Ev m X o σ B H (IsV (.ref p))) (hl : Ev m X lo σ B H (K3.IsD (.int j))) (hu : Ev m X hi σ B H (K3.IsD (.int k2))) (k0 : 0 ≤ j) (k1 : j ≤ k2) (k3 : k2 ≤ ds.length) (hz : ds.length + es2.length ≤ 100000)
    (k : ∀ B' H', Same B B' → Stp m B0 H0 B' H' → Mu m B' H' p (ds.take j.toNat ++ es2 ++ ds.drop k2.toNat) → wSs X rest D σ H')
    (hs : swapsWithSole [.Subscript o (.Slice (some lo) (some hi) none p2) p1] e pos.line X.env = pure false := by rfl) (hw : swappedStores [.Subscript o (.Slice (some lo) (some hi) none p2) p1] e X.env = pure none := by rfl) (h1 : (assignEach [.Subscript o (.Slice (some lo) (some hi) none p2) p1] X.env).map (·.2) = [assign (.Subscript o (.Slice (some lo) (some hi) none p2) p1) X.env] := by rfl)
    (has : ∀ v, assign (.Subscript o (.Slice (some lo) (some hi) none p2) p1) X.env v = (do
      let ov ← holding [v] (eval o X.env)
      let iv ← holding [v, ov] (eval (.Slice (some lo) (some hi) none p2) X.env)
      standAt p1
      holding [v, ov, iv] (setItem ov iv v)
      release [iv, v, ov] []) := by intro _; rfl) : wSs X (.Assign [.Subscript o (.Slice (some lo) (some hi) none p2) p1] e pos :: rest) D σ H := by
  refine ws_cons (ps_asg pe_w (pg_slice pe_w pe_w pe_w has) hs hw h1) ?_
  refine ha B H S.here _ fun v B1 H1 s1 r1 => ?_
  refine ho B1 H1 s1 _ fun w B2 H2 s2 r2 => ?_
  obtain rfl : w = .ref p := r2
  refine hl B2 H2 (s1.trans s2) _ fun u B3 H3 s3 r3 => hu B3 H3 ((s1.trans s2).trans s3) _ fun u2 B4 H4 s4 r4 => ?_
  have s := ((s1.trans s2).trans s3).trans s4
  have M2 := M.mono s
  obtain ⟨ys, h2, h3⟩ := M2.ex
  obtain ⟨b, zs, rfl, h4, h5⟩ := Dq.lst_ex (Dq.mono r1 ((s2.trans s3).trans s4).b)
  have hl1 := h3.len
  have hl2 := h5.len
  have hne : p ≠ b := fun z => by rw [← z, M2.b] at h4; cases h4
  refine ⟨p, b, ys, zs, j, k2, rfl, rfl, Dq.int_eq r3, Dq.int_eq r4, h2, s.s _ _ h4, hne, k0, k1, by omega, Nat.le_trans (by omega) (show 100000 ≤ sizeLine by decide), ?_⟩
  exact k B4 _ s.b ((S.trans s).put M2 h0) (M2.put (((h3.take _).app h5).app (h3.drop _)))
end
section
variable {P : Program} {w : World} {K : PySem.W.Frag} {mg : Str → Option Value} {base : Heap} {ps : List Str} {k : Nat} {sp : Sp}
/-- the i-th def of the list, a method -/
theorem cm_mk {C mt : Str} (T : Tx K mg) {d : He.DefD} (i : Nat) (h : fnL[i]? = some d) (ha : d.at_ = (C, some mt)) (hd : d.dfl = []) (hk : d.kwd = []) (hm : Meth K (He.ga K C) mt (He.ma K (He.ga K C) mt))
    (hb : ∀ (kV doc pm : Value) (an : Option Addr) (cdv ct : Value) (us : List Value), us.length = ps.length → bindArgs (PySem.W.fnOf d.name d.qual d.params d.body d.scope .none kV doc pm an cdv ct) ⟨us, []⟩ = pure (ps.zip us))
    (hf : ∀ f fd, FunD K d.name d.qual d.params d.body d.scope [] [] f fd → FnOk P w K mg base CX0 k f fd ps sp) : ∃ fd, Binds K fd ps [] ∧ FnOk P w K mg base CX0 k (He.ma K (He.ga K C) mt) fd ps sp := by
  obtain ⟨fd, F⟩ := T.c.d.def_ i h
  have e1 : d.dvs K = [] := by unfold He.DefD.dvs; rw [hd]; rfl
  have e2 : d.kws K = [] := by unfold He.DefD.kws; rw [hk]; rfl
  rw [e1, e2] at F
  have e3 : He.fAd K d.at_ = He.ma K (He.ga K C) mt := by rw [ha]; rfl
  rw [e3] at F
  exact ⟨fd, F.bindsN hb, hf _ _ F⟩
/-- .. with promises of many kinds -/
theorem cm_mkA {α : Type} {sp : α → Sp} {C mt : Str} (T : Tx K mg) {d : He.DefD} (i : Nat) (h : fnL[i]? = some d) (ha : d.at_ = (C, some mt)) (hd : d.dfl = []) (hk : d.kwd = [])
    (hb : ∀ (kV doc pm : Value) (an : Option Addr) (cdv ct : Value) (us : List Value), us.length = ps.length → bindArgs (PySem.W.fnOf d.name d.qual d.params d.body d.scope .none kV doc pm an cdv ct) ⟨us, []⟩ = pure (ps.zip us))
    (hf : ∀ f fd, FunD K d.name d.qual d.params d.body d.scope [] [] f fd → ∀ a, FnOk P w K mg base CX0 k f fd ps (sp a)) : ∃ fd, Binds K fd ps [] ∧ ∀ a, FnOk P w K mg base CX0 k (He.ma K (He.ga K C) mt) fd ps (sp a) := by
  obtain ⟨fd, F⟩ := T.c.d.def_ i h
  have e1 : d.dvs K = [] := by unfold He.DefD.dvs; rw [hd]; rfl
  have e2 : d.kws K = [] := by unfold He.DefD.kws; rw [hk]; rfl
  rw [e1, e2] at F
  have e3 : He.fAd K d.at_ = He.ma K (He.ga K C) mt := by rw [ha]; rfl
  rw [e3] at F
  exact ⟨fd, F.bindsN hb, hf _ _ F⟩
/-- .. with one default -/
theorem cm_mk1 {C mt : Str} (T : Tx K mg) {d : He.DefD} (i : Nat) (h : fnL[i]? = some d) (ha : d.at_ = (C, some mt)) {dv : He.Dv} (hd : d.dfl = [dv]) (hk : d.kwd = [])
    (hb : ∀ (T : Addr) (kV doc pm : Value) (an : Option Addr) (cdv ct : Value) (us its : List Value), us.length = ps.length → its.length = 1 → ∃ k, bindArgs (PySem.W.fnOf d.name d.qual d.params d.body d.scope (.ref T) kV doc pm an cdv ct) ⟨us, []⟩ = seqItems? (.ref T) >>= k ∧ k (some its.toArray) = pure (ps.zip (us ++ its.drop 1)))
    (hf : ∀ dvs f fd, FunD K d.name d.qual d.params d.body d.scope dvs [] f fd → FnOk P w K mg base CX0 k f fd ps sp) : ∃ fd, Binds K fd ps [] ∧ FnOk P w K mg base CX0 k (He.ma K (He.ga K C) mt) fd ps sp := by
  obtain ⟨fd, F⟩ := T.c.d.def_ i h
  have e1 : d.dvs K = [dv.v K] := by unfold He.DefD.dvs; rw [hd]; rfl
  have e2 : d.kws K = [] := by unfold He.DefD.kws; rw [hk]; rfl
  rw [e1, e2] at F
  have e3 : He.fAd K d.at_ = He.ma K (He.ga K C) mt := by rw [ha]; rfl
  rw [e3] at F
  obtain ⟨ds, hv, B⟩ := F.binds1 (ps := ps) ps.length 1 (fun z => nomatch z) (by simp) fun T kV doc pm an cdv ct us its hu hi => hb T kV doc pm an cdv ct us its hu hi
  have : ds = [] := by cases hv; rfl
  subst this
  exact ⟨fd, B, hf _ _ _ F⟩
end
end K3
/-! TEXT F11 -/
set_option Elab.async false
set_option linter.all false
set_option maxRecDepth 100000
set_option maxHeartbeats 1000000
namespace K3
open PySem PySem.Spec L2
section
variable {P : Program} {w : World} {K : PySem.W.Frag} {mg : Str → Option Value} {base : Heap}
theorem srt2 (x y : Int) : srtI [x, y] = [min x y, max x y] := by
  unfold srtI
  have e : (PySem.W.dataLe false PyData.int : Int → Int → Bool) = fun a b => decide (a ≤ b) := PySem.W.dataLe_int (fun a : Int => a)
  rw [e]
  by_cases h : x ≤ y
  · have h1 : min x y = x := by omega
    have h2 : max x y = y := by omega
    rw [h1, h2]
    exact List.mergeSort_of_pairwise (by simpa using h)
  · have h1 : min x y = y := by omega
    have h2 : max x y = x := by omega
    rw [h1, h2]
    have tot : PySem.W.TotalLe (fun a b : Int => decide (a ≤ b)) := ⟨fun a b c h1 h2 => by simp at *; omega, fun a b => by simp; omega⟩
    refine (PySem.W.sort_unique tot (l := [x, y]) (m := [y, x]) (by simp; omega) fun c => ?_).symm
    unfold PySem.W.sameRank
    by_cases c1 : c = x <;> by_cases c2 : c = y
    · omega
    · subst c1
      rw [List.filter_cons_of_neg (by simp; omega), List.filter_cons_of_pos (by simp), List.filter_cons_of_pos (by simp), List.filter_cons_of_neg (by simp; omega)]
    · subst c2
      rw [List.filter_cons_of_pos (by simp), List.filter_cons_of_neg (by simp; omega), List.filter_cons_of_neg (by simp; omega), List.filter_cons_of_pos (by simp)]
    · rw [List.filter_cons_of_neg (by simp; omega), List.filter_cons_of_neg (by simp; omega), List.filter_cons_of_neg (by simp; omega), List.filter_cons_of_neg (by simp; omega)]
theorem getD_some {xs : List Int} {i : Nat} (h : i < xs.length) : xs[i]? = some (xs.getD i 0) := by
  rw [List.getD_eq_getElem?_getD, List.getElem?_eq_getElem h] <;> rfl
theorem atI_int {xs : List Int} {i : Int} (h0 : 0 ≤ i) (h : i.toNat < xs.length) : atI (xs.map PyData.int) i = some (.int (xs.getD i.toNat 0)) :=
  atI_map PyData.int (atI_ok h0 (getD_some h))
theorem cl_do_gate (T : Tx K mg) (n : Nat) (g : Gate) (xs : List Int) (h : Vg n g) (hn : xs.length = n) (hn2 : n ≤ 1000) : Cl P w K mg base "do_gate" ["here", "gate"] 1 (spU [K3.IsD (encG g)] (xs.map .int) ((doStep xs g).map .int)) :=
  cl_mk T 29 (d := d_do_gate) rfl rfl rfl rfl (by decide +kernel) (fun _ _ _ _ _ _ us hl => match us, hl with | [_, _], _ => rfl) fun fa fdd FF => by
    refine fn_okU FF sc_do_gate rfl fun cdv A outer s E0 Bb Hb B H p vs Q hr S h0 M E q => ?_
    have i1 : g.one.toNat < xs.length := by have := h.one; omega
    have x1 := ixN_int (n := (xs.map PyData.int).length) h.one.1 (by rw [List.length_map, hn]; exact h.one.2)
    have a1 := atI_int (xs := xs) h.one.1 i1
    refine ws_asgG S E (ev_v E 1) (pg_tup rfl (pgs_cons (pg_name (i := 2) sc_do_gate.nd rfl (by first | exact Or.inl rfl | exact Or.inr rfl)) (pgs_cons (pg_name (i := 3) sc_do_gate.nd rfl (by first | exact Or.inl rfl | exact Or.inr rfl)) (pgs_cons (pg_name (i := 4) sc_do_gate.nd rfl (by first | exact Or.inl rfl | exact Or.inr rfl)) pgs_nil)))) (tg3 (e1 := .str g.kind.s) (e2 := .int g.one) (e3 := .int g.other)) (fun σ' B1 H1 s1 S E => ?_)
    have M := M.mono s1
    refine ws_if S (et_cmp (k := decide (g.kind.s = Gk.s .add)) cm_eqS (ev_v E 2) (ev_gstr (T_ADD T))) (fun hk B2 H2 s2 S => ?_) (fun hk B2 H2 s2 S => ?_)
    · rw [gk_dec] at hk
      have hk := of_decide_eq_true hk
      have E := E.mono s2.b
      have M := M.mono s2
      refine ws_setix S M h0 (ev_add (ev_ixM M (ev_v E 0) (ev_v E 3) a1) (ev_v E 4)) (ev_v E 0) (ev_v E 3) x1 (fun B3 H3 sb3 S3 M3 _ => ws_nil (ws_nil (q B3 H3 (s1.b.trans (s2.b.trans sb3)) S3 ?_)))
      unfold doStep
      rw [hk, List.map_set]
      exact M3
    rw [gk_dec] at hk
    have hk := of_decide_eq_false hk
    have ho := h.other hk
    have i2 : g.other.toNat < xs.length := by omega
    have x2 := ixN_int (n := (xs.map PyData.int).length) ho.1 (by rw [List.length_map, hn]; exact ho.2.1)
    have a2 := atI_int (xs := xs) ho.1 i2
    have E := E.mono s2.b
    have M := M.mono s2
    refine ws_if S (et_cmp (k := decide (g.kind.s = Gk.s .copy)) cm_eqS (ev_v E 2) (ev_gstr (T_COPY T))) (fun hk2 B4 H4 s4 S => ?_) (fun hk2 B4 H4 s4 S => ?_)
    · rw [gk_dec] at hk2
      have hk2 := of_decide_eq_true hk2
      have E := E.mono s4.b
      have M := M.mono s4
      refine ws_setix S M h0 (ev_ixM M (ev_v E 0) (ev_v E 4) a2) (ev_v E 0) (ev_v E 3) x1 (fun B3 H3 sb3 S3 M3 _ => ws_nil (ws_nil (ws_nil (q B3 H3 (s1.b.trans (s2.b.trans (s4.b.trans sb3))) S3 ?_))))
      unfold doStep
      rw [hk2, List.map_set]
      exact M3
    rw [gk_dec] at hk2
    have hk2 := of_decide_eq_false hk2
    have E := E.mono s4.b
    have M := M.mono s4
    refine ws_asgG S E (Ev.cast (EvM.ev (em_sorted (bs := [xs.getD g.one.toNat 0, xs.getD g.other.toNat 0]) (enc := PyData.int) hr (T_free T) (EvM.ev (em_lst [.int (xs.getD g.one.toNat 0), .int (xs.getD g.other.toNat 0)] (ea2 (ev_ixM M (ev_v E 0) (ev_v E 3) a1) (ev_ixM M (ev_v E 0) (ev_v E 4) a2)) (Nat.le_of_ble_eq_true rfl))) (i_alls _) (i_sort _) (Nat.le_of_ble_eq_true rfl) (fun p _ => ⟨by simp [PyData.depth], by simp [PyData.canLay0]⟩)))
      (show PyData.list ((srtI [xs.getD g.one.toNat 0, xs.getD g.other.toNat 0]).map .int) = .list [.int (min (xs.getD g.one.toNat 0) (xs.getD g.other.toNat 0)), .int (max (xs.getD g.one.toNat 0) (xs.getD g.other.toNat 0))] by rw [srt2]; rfl)) (pg_lst rfl (pgs_cons (pg_name (i := 5) sc_do_gate.nd rfl (by first | exact Or.inl rfl | exact Or.inr rfl)) (pgs_cons (pg_name (i := 6) sc_do_gate.nd rfl (by first | exact Or.inl rfl | exact Or.inr rfl)) pgs_nil))) tgL2 (fun σ' B5 H5 s5 S E => ?_)
    have M := M.mono s5
    have sB := s1.b.trans (s2.b.trans (s4.b.trans s5.b))
    refine ws_setix (d := .int (if g.kind = .high then max (xs.getD g.one.toNat 0) (xs.getD g.other.toNat 0) else min (xs.getD g.one.toNat 0) (xs.getD g.other.toNat 0))) S M h0 (ev_if (et_cmp (k := decide (g.kind.s = Gk.s .high)) cm_eqS (ev_v E 2) (ev_gstr (T_HIGH T))) (fun z => (ev_v E 6).cast ?_) (fun z => (ev_v E 5).cast ?_)) (ev_v E 0) (ev_v E 3) x1 (fun B6 H6 sb6 S M _ => ?_)
    · rw [gk_dec] at z; rw [if_pos (of_decide_eq_true z)]
    · rw [gk_dec] at z; rw [if_neg (of_decide_eq_false z)]
    have E := E.mono sb6
    have sB := sB.trans sb6
    rw [← List.map_set] at M
    refine ws_if S (et_cmp (k := decide (g.kind.s = Gk.s .sort)) cm_eqS (ev_v E 2) (ev_gstr (T_SORT T))) (fun hk3 B7 H7 s7 S => ?_) (fun hk3 B7 H7 s7 S => ?_)
    · rw [gk_dec] at hk3
      have hk3 := of_decide_eq_true hk3
      have E := E.mono s7.b
      have M := M.mono s7
      have x2' := ixN_int (n := ((xs.set g.one.toNat (if g.kind = .high then max (xs.getD g.one.toNat 0) (xs.getD g.other.toNat 0) else min (xs.getD g.one.toNat 0) (xs.getD g.other.toNat 0))).map PyData.int).length) ho.1 (by rw [List.length_map, List.length_set, hn]; exact ho.2.1)
      refine ws_setix S M h0 (ev_v E 6) (ev_v E 0) (ev_v E 4) x2' (fun B8 H8 sb8 S M _ => ws_nil (ws_nil (ws_nil (ws_nil (q B8 H8 (sB.trans (s7.b.trans sb8)) S ?_)))))
      unfold doStep
      rw [hk3] at M ⊢
      rw [List.map_set]
      exact M
    · rw [gk_dec] at hk3
      have hk3 := of_decide_eq_false hk3
      refine ws_nil (ws_nil (ws_nil (ws_nil (q B7 H7 (sB.trans s7.b) S ?_))))
      have M := M.mono s7
      unfold doStep
      cases hkk : g.kind with
      | add => exact absurd hkk hk
      | copy => exact absurd hkk hk2
      | sort => exact absurd hkk hk3
      | high => rw [hkk] at M; exact M
      | low => rw [hkk] at M; exact M
theorem doStep_len (x : List Int) (g : Gate) : (doStep x g).length = x.length := by
  unfold doStep
  cases g.kind <;> simp
theorem run_len (gs : List Gate) (x : List Int) : (runG gs x).length = x.length := by
  unfold runG
  induction gs generalizing x with
  | nil => rfl
  | cons g gs ih => rw [List.foldl_cons, ih, doStep_len]
theorem runG_take {gs : List Gate} {i : Nat} {g : Gate} {x : List Int} (h : gs[i]? = some g) : runG (gs.take (i + 1)) x = doStep (runG (gs.take i) x) g := foldl_take h
/-- return x, one's own list -/
theorem ws_retOwn {m : Option Addr} {X : Cx} {e : Expr} {σ : L2.St} {B H B0 H0 : Hp} {pos : Pos} {ds : List PyData} {rest : List Stmt} {D : Ends} {p : Addr} (S : Stp m B0 H0 B H) (M : Mu m B H p ds) (h0 : H0 p = none) (ho : Ev m X e σ B H (IsV (.ref p)))
    (k : ∀ p zs B' H', Stp m B0 H0 B' H' → H0 p = none → B' p = none → H' p = some (.lst zs) → DqAll B' zs ds → D.rt (.ref p) H') : wSs X (.Return (some e) pos :: rest) D σ H :=
  ws_cons (ps_ret pe_w) (ho B H S.here _ fun v B3 H3 s3 r3 => by
    obtain rfl : v = .ref p := r3
    obtain ⟨zs, h1, h2⟩ := (M.mono s3).ex
    exact k p zs B3 H3 (S.trans s3) h0 (M.mono s3).b h1 h2)
theorem cl_told_by (T : Tx K mg) (n : Nat) (gs : List Gate) (xs : List Int) (h : ∀ g ∈ gs, Vg n g) (hn : xs.length = n) (hn2 : n ≤ 1000) : Cl P w K mg base "told_by" ["gates", "content"] 2 (spM [K3.IsD (.tuple (gs.map encG)), K3.IsD (encI xs)] ((runG gs xs).map .int)) :=
  cl_mk T 30 (d := d_told_by) rfl rfl rfl rfl (by decide +kernel) (fun _ _ _ _ _ _ us hl => match us, hl with | [_, _], _ => rfl) fun fa fdd FF => by
    refine fn_okM FF sc_told_by rfl fun cdv A outer s E0 B H vs Q hr S E q => ?_
    refine ws_setM S E 2 (em_listL (T_free T) (ev_v E 1)) (fun p B1 H1 s1 S n1 n2 M E => ?_) sc_told_by.nd
    refine ws_for (xs := gs) (enc := encG) (u := fun q Γ => Γ.set 3 (some (K3.IsD (encG q)))) S (wk_tup (ev_v E 0)) (pg_name (i := 3) sc_told_by.nd rfl (by first | exact Or.inl rfl | exact Or.inr rfl)) (fun x _ => tg1) rfl PassesOwn.never
      (fun i => [some (K3.IsD (.tuple (gs.map encG))), some (K3.IsD (encI xs)), some (IsV (.ref p)), none]) (fun i B H => Mu none B H p ((runG (gs.take i) xs).map .int)) (fun _ _ _ _ _ s M => M.mono s) (fun B1 H1 s1 S => ⟨(E.mono s1.b).to, M.mono s1⟩) (fun i x σ1 B2 H2 hx S2 sb E2 M2 => ?_) (fun σ1 B2 H2 S2 sb E2 M2 => ?_)
    · have hm := h x (List.mem_of_getElem? hx)
      refine ws_mut S2 M2 n2 (cl_do_gate T n x _ hm (by rw [run_len, hn]) hn2) hr (ea2 (ev_v E2 2) (ev_v E2 3)) (fun B3 H3 sb3 S3 M3 => ws_nil ⟨B3, sb3, S3, (E2.mono sb3).to, ?_⟩)
      rw [runG_take hx]
      exact M3
    · rw [List.take_length] at M2
      exact ws_retOwn S2 M2 n2 (ev_v E2 2) q
theorem cl_least_of (T : Tx K mg) (f g : Fam) {n : Int} (hf : ∀ l ∈ f, Vl n l) (hg : ∀ l ∈ g, Vl n l) (h1 : f.length ≤ 60) (h2 : g.length ≤ 60) (h : (kept (f ++ g)).length ≤ 60) : Cl P w K mg base "least_of" ["ones", "others"] 3 (spD none [K3.IsD (encF f), K3.IsD (encF g)] (K3.IsD (encF (kept (f ++ g))))) :=
  cl_mk T 31 (d := d_least_of) rfl rfl rfl rfl (by decide +kernel) (fun _ _ _ _ _ _ us hl => match us, hl with | [_, _], _ => rfl) fun fa fdd FF => by
    refine fn_ok FF sc_least_of rfl fun cdv A outer s E0 B H vs Q hr S E q => ?_
    refine ws_ret S (ev_call (cl_limited T _ h) hr (ea1 (EvM.ev (em_call (cl_kept_lots T (f ++ g) (n := n) (fun l hl => (List.mem_append.mp hl).elim (hf l) (hg l)) (by rw [List.length_append]; omega)) hr (ea2 (Ev.cast (EvM.ev (em_cat (ds := f.map encL) (es := g.map encL) (by rw [List.length_map, List.length_map]; omega) (ev_v E 0) (ev_v E 1))) (by rw [encF, List.map_append])) ev_bl))))) q
theorem cl_greatest_of (T : Tx K mg) (f g : Fam) (hf : ∀ l ∈ f, Vl 12 l) (hg : ∀ l ∈ g, Vl 12 l) (h1 : f.length ≤ 60) (h2 : g.length ≤ 60) (h : (joins f g).length ≤ 60) : Cl P w K mg base "greatest_of" ["ones", "others"] 4 (spD none [K3.IsD (encF f), K3.IsD (encF g)] (K3.IsD (encF (joins f g)))) :=
  cl_mk T 32 (d := d_greatest_of) rfl rfl rfl rfl (by decide +kernel) (fun _ _ _ _ _ _ us hl => match us, hl with | [_, _], _ => rfl) fun fa fdd FF => by
    refine fn_ok FF sc_greatest_of rfl fun cdv A outer s E0 B H vs Q hr S E q => ?_
    exact ws_ret S (ev_call (cl_limited T _ h) hr (ea1 (EvM.ev (em_call (cl_all_joined T f g hf hg h1 h2) hr (ea3 (ev_v E 0) (ev_v E 1) ev_bl))))) q
end
end K3
/-! TEXT F12 -/
set_option Elab.async false
set_option linter.all false
set_option maxRecDepth 100000
set_option maxHeartbeats 1000000
namespace K3
open PySem PySem.Spec L2
section
variable {P : Program} {w : World} {K : PySem.W.Frag} {mg : Str → Option Value} {base : Heap}
theorem at_enc {t : List Fam} {i : Int} (h0 : 0 ≤ i) (h : i < t.length) : atI (t.map encF) i = some (encF (at_ t i)) :=
  atI_map encF (atI_ok h0 (by
    unfold at_
    rw [List.getD_eq_getElem?_getD, List.getElem?_eq_getElem (by omega)] <;> rfl))
theorem at_mem {t : List Fam} {i : Int} (h0 : 0 ≤ i) (h : i < t.length) : at_ t i ∈ t := by
  unfold at_
  rw [List.getD_eq_getElem?_getD, List.getElem?_eq_getElem (by omega)]
  exact List.getElem_mem _
theorem mem_set' {α : Type} {t : List α} {i : Nat} {x : α} (h : i < t.length) : x ∈ t.set i x := List.mem_iff_getElem.mpr ⟨i, by rw [List.length_set]; exact h, List.getElem_set_self _⟩
theorem raised_len (f : Fam) (c : Int) : (raised f c).length = f.length := List.length_map ..
theorem toldStep_len (t : List Fam) (g : Gate) : (toldStep t g).length = t.length := by
  unfold toldStep
  cases g.kind <;> simp
theorem cl_told_behind (T : Tx K mg) (n : Nat) (t : List Fam) (g : Gate) (hg : Vg n g) (hn : t.length = n) (hn2 : n ≤ 12) (hv : ∀ f ∈ t, ∀ l ∈ f, Vl 12 l) (h1 : few 60 t) (h2 : few 60 (toldStep t g)) : Cl P w K mg base "told_behind" ["told", "gate"] 5 (spD none [K3.IsD (encT t), K3.IsD (encG g)] (K3.IsD (encT (toldStep t g)))) :=
  cl_mk T 33 (d := d_told_behind) rfl rfl rfl rfl (by decide +kernel) (fun _ _ _ _ _ _ us hl => match us, hl with | [_, _], _ => rfl) fun fa fdd FF => by
    refine fn_ok FF sc_told_behind rfl fun cdv A outer s E0 B H vs Q hr S E q => ?_
    have i1 : g.one.toNat < t.length := by have := hg.one; omega
    have x1 : ixN (t.map encF).length g.one = some g.one.toNat := ixN_int hg.one.1 (by rw [List.length_map, hn]; exact hg.one.2)
    have a1 := at_enc (t := t) hg.one.1 (by rw [hn]; exact hg.one.2)
    have m1 := at_mem (t := t) hg.one.1 (by rw [hn]; exact hg.one.2)
    refine ws_asgG S E (ev_v E 1) (pg_tup rfl (pgs_cons (pg_name (i := 2) sc_told_behind.nd rfl (by first | exact Or.inl rfl | exact Or.inr rfl)) (pgs_cons (pg_name (i := 3) sc_told_behind.nd rfl (by first | exact Or.inl rfl | exact Or.inr rfl)) (pgs_cons (pg_name (i := 4) sc_told_behind.nd rfl (by first | exact Or.inl rfl | exact Or.inr rfl)) pgs_nil)))) (tg3 (e1 := .str g.kind.s) (e2 := .int g.one) (e3 := .int g.other)) (fun σ' B1 H1 s1 S E => ?_)
    refine ws_setM S E 5 (em_listL (T_free T) (ev_v E 0)) (fun p B1 H1 s1 S n1 h0 M E => ?_) sc_told_behind.nd
    refine ws_if S (et_cmp (k := decide (g.kind.s = Gk.s .add)) cm_eqS (ev_v E 2) (ev_gstr (T_ADD T))) (fun hk B2 H2 s2 S => ?_) (fun hk B2 H2 s2 S => ?_)
    · rw [gk_dec] at hk
      have hk := of_decide_eq_true hk
      have E := E.mono s2.b
      have M := M.mono s2
      refine ws_setix S M h0 (EvM.ev (em_call (cl_more_by T (at_ t g.one) g.other (by have := h1 _ m1; omega) (fun l hl => by have := vl_len (hv _ m1 l hl); omega)) hr (ea2 (ev_ixL (ev_v E 0) (ev_v E 3) a1) (ev_v E 4)))) (ev_v E 5) (ev_v E 3) x1 (fun B3 H3 sb3 S3 M3 _ => ws_nil ?_)
      have E := E.mono sb3
      refine ws_no S3 ((et_cmp cm_eqS (ev_v E 2) (ev_gstr (T_SORT T))).cast (by rw [hk]; decide)) fun B4 H4 s4 S => ?_
      obtain ⟨B5, sb5, S5, r5⟩ := (M3.mono s4).frz S h0
      have E5 := (E.mono (s4.b.trans sb5)).re (R := K3.IsD _) 5 rfl r5
      refine ws_ret S5 (Ev.cast (ev_v E5 5) ?_) q
      unfold toldStep encT
      rw [hk, List.map_set]; rfl
    rw [gk_dec] at hk
    have hk := of_decide_eq_false hk
    have ho := hg.other hk
    have i2 : g.other.toNat < t.length := by omega
    have x2 : ixN (t.map encF).length g.other = some g.other.toNat := ixN_int ho.1 (by rw [List.length_map, hn]; exact ho.2.1)
    have a2 := at_enc (t := t) ho.1 (by rw [hn]; exact ho.2.1)
    have m2 := at_mem (t := t) ho.1 (by rw [hn]; exact ho.2.1)
    have E := E.mono s2.b
    have M := M.mono s2
    refine ws_if S (et_cmp (k := decide (g.kind.s = Gk.s .copy)) cm_eqS (ev_v E 2) (ev_gstr (T_COPY T))) (fun hk2 B4 H4 s4 S => ?_) (fun hk2 B4 H4 s4 S => ?_)
    · rw [gk_dec] at hk2
      have hk2 := of_decide_eq_true hk2
      have E := E.mono s4.b
      have M := M.mono s4
      refine ws_setix S M h0 (ev_ixL (ev_v E 0) (ev_v E 4) a2) (ev_v E 5) (ev_v E 3) x1 (fun B3 H3 sb3 S3 M3 _ => ws_nil (ws_nil ?_))
      have E := E.mono sb3
      refine ws_no S3 ((et_cmp cm_eqS (ev_v E 2) (ev_gstr (T_SORT T))).cast (by rw [hk2]; decide)) fun B4 H4 s4 S => ?_
      obtain ⟨B5, sb5, S5, r5⟩ := (M3.mono s4).frz S h0
      have E5 := (E.mono (s4.b.trans sb5)).re (R := K3.IsD _) 5 rfl r5
      refine ws_ret S5 (Ev.cast (ev_v E5 5) ?_) q
      unfold toldStep encT
      rw [hk2, List.map_set]
    rw [gk_dec] at hk2
    have hk2 := of_decide_eq_false hk2
    have E := E.mono s4.b
    have M := M.mono s4
    refine ws_if S (et_cmp (k := decide (g.kind.s = Gk.s .high)) cm_eqS (ev_v E 2) (ev_gstr (T_HIGH T))) (fun hk3 B4 H4 s4 S => ?_) (fun hk3 B4 H4 s4 S => ?_)
    · rw [gk_dec] at hk3
      have hk3 := of_decide_eq_true hk3
      have hj : (joins (at_ t g.one) (at_ t g.other)).length ≤ 60 := h2 _ (by unfold toldStep; rw [hk3]; exact mem_set' i1)
      have E := E.mono s4.b
      have M := M.mono s4
      refine ws_setix S M h0 (ev_call (cl_greatest_of T _ _ (hv _ m1) (hv _ m2) (h1 _ m1) (h1 _ m2) hj) hr (ea2 (ev_ixL (ev_v E 0) (ev_v E 3) a1) (ev_ixL (ev_v E 0) (ev_v E 4) a2))) (ev_v E 5) (ev_v E 3) x1 (fun B3 H3 sb3 S3 M3 _ => ws_nil (ws_nil (ws_nil ?_)))
      have E := E.mono sb3
      refine ws_no S3 ((et_cmp cm_eqS (ev_v E 2) (ev_gstr (T_SORT T))).cast (by rw [hk3]; decide)) fun B4 H4 s4 S => ?_
      obtain ⟨B5, sb5, S5, r5⟩ := (M3.mono s4).frz S h0
      have E5 := (E.mono (s4.b.trans sb5)).re (R := K3.IsD _) 5 rfl r5
      refine ws_ret S5 (Ev.cast (ev_v E5 5) ?_) q
      unfold toldStep encT
      rw [hk3, List.map_set]
    rw [gk_dec] at hk3
    have hk3 := of_decide_eq_false hk3
    have E := E.mono s4.b
    have M := M.mono s4
    have hne : g.one.toNat ≠ g.other.toNat := by have := hg.one; omega
    have hkp : (kept (at_ t g.one ++ at_ t g.other)).length ≤ 60 := h2 _ (by
      unfold toldStep
      cases hkk : g.kind with
      | add => exact absurd hkk hk
      | copy => exact absurd hkk hk2
      | high => exact absurd hkk hk3
      | low => exact mem_set' i1
      | sort =>
        refine List.mem_iff_getElem.mpr ⟨g.one.toNat, by rw [List.length_set, List.length_set]; exact i1, ?_⟩
        rw [List.getElem_set_ne (Ne.symm hne), List.getElem_set_self])
    refine ws_setix S M h0 (ev_call (cl_least_of T _ _ (hv _ m1) (hv _ m2) (h1 _ m1) (h1 _ m2) hkp) hr (ea2 (ev_ixL (ev_v E 0) (ev_v E 3) a1) (ev_ixL (ev_v E 0) (ev_v E 4) a2))) (ev_v E 5) (ev_v E 3) x1 (fun B3 H3 sb3 S M _ => ws_nil (ws_nil (ws_nil ?_)))
    have E := E.mono sb3
    refine ws_if S (et_cmp (k := decide (g.kind.s = Gk.s .sort)) cm_eqS (ev_v E 2) (ev_gstr (T_SORT T))) (fun hk4 B4 H4 s4 S => ?_) (fun hk4 B4 H4 s4 S => ws_nil ?_)
    · rw [gk_dec] at hk4
      have hk4 := of_decide_eq_true hk4
      have hj : (joins (at_ t g.one) (at_ t g.other)).length ≤ 60 := h2 _ (by unfold toldStep; rw [hk4]; exact mem_set' (by rw [List.length_set]; exact i2))
      have E := E.mono s4.b
      have M := M.mono s4
      have x2' : ixN ((t.map encF).set g.one.toNat (encF (kept (at_ t g.one ++ at_ t g.other)))).length g.other = some g.other.toNat := by rw [List.length_set]; exact x2
      refine ws_setix S M h0 (ev_call (cl_greatest_of T _ _ (hv _ m1) (hv _ m2) (h1 _ m1) (h1 _ m2) hj) hr (ea2 (ev_ixL (ev_v E 0) (ev_v E 3) a1) (ev_ixL (ev_v E 0) (ev_v E 4) a2))) (ev_v E 5) (ev_v E 4) x2' (fun B3 H3 sb3 S3 M3 _ => ws_nil ?_)
      obtain ⟨B5, sb5, S5, r5⟩ := M3.frz S3 h0
      have E5 := (E.mono (sb3.trans sb5)).re (R := K3.IsD _) 5 rfl r5
      refine ws_ret S5 (Ev.cast (ev_v E5 5) ?_) q
      unfold toldStep encT
      rw [hk4, List.map_set, List.map_set]
    · rw [gk_dec] at hk4
      have hk4 := of_decide_eq_false hk4
      obtain ⟨B5, sb5, S5, r5⟩ := (M.mono s4).frz S h0
      have E5 := (E.mono (s4.b.trans sb5)).re (R := K3.IsD _) 5 rfl r5
      refine ws_ret S5 (Ev.cast (ev_v E5 5) ?_) q
      unfold toldStep encT
      cases hkk : g.kind with
      | add => exact absurd hkk hk
      | copy => exact absurd hkk hk2
      | high => exact absurd hkk hk3
      | sort => exact absurd hkk hk4
      | low => rw [List.map_set]
theorem f_deceq (f g : Fam) : PyData.eqv (encF f) (encF g) = decide (f = g) := f_eqv f g
/-- how the lane rises -/
def riseOf (near far : Fam) : Int × Int := if near = far then (0, 0) else if kept (raised near 1) = far then (1, 1) else (0, 1)
theorem cl_rise_of (T : Tx K mg) (f g : Fam) {n : Int} (hn : n ≤ 12) (hf : ∀ l ∈ f, Vl n l) (h1 : f.length ≤ 60) : Cl P w K mg base "rise_of" ["near", "far"] 3 (spD none [K3.IsD (encF f), K3.IsD (encF g)] (K3.IsD (pairD (riseOf f g)))) :=
  cl_mk T 41 (d := d_rise_of) rfl rfl rfl rfl (by decide +kernel) (fun _ _ _ _ _ _ us hl => match us, hl with | [_, _], _ => rfl) fun fa fdd FF => by
    refine fn_ok FF sc_rise_of rfl fun cdv A outer s E0 B H vs Q hr S E q => ?_
    refine ws_if S ((et_cmp (cm_eqD hr (f_shp f) (f_shp g)) (ev_v E 0) (ev_v E 1)).cast (f_eqv f g)) (fun h B1 H1 s1 S => ?_) (fun h B1 H1 s1 S => ws_nil ?_)
    · refine ws_ret S (Ev.cast (ev_tup [.int 0, .int 0] (ea2 ev_int ev_int) (Nat.le_of_ble_eq_true rfl)) ?_) q
      rw [riseOf, if_pos (of_decide_eq_true h)]; rfl
    · have E := E.mono s1.b
      have hl : ∀ l ∈ f, l.length ≤ 1000 := fun l hl => by have := vl_len (hf l hl); omega
      refine ws_ret S (ev_if (k := decide (kept (raised f 1) = g)) ((et_cmp (cm_eqD hr (f_shp (kept (raised f 1))) (f_shp g)) (EvM.ev (em_call (cl_kept_lots T (raised f 1) (Vl.all_raise hf 1) (by rw [raised_len]; omega)) hr (ea2 (EvM.ev (em_call (cl_more_by T f 1 (by omega) hl) hr (ea2 (ev_v E 0) ev_int))) ev_bl))) (ev_v E 1)).cast (f_eqv _ _))
        (fun z => Ev.cast (ev_tup [.int 1, .int 1] (ea2 ev_int ev_int) (Nat.le_of_ble_eq_true rfl)) ?_) (fun z => Ev.cast (ev_tup [.int 0, .int 1] (ea2 ev_int ev_int) (Nat.le_of_ble_eq_true rfl)) ?_)) q
      · rw [riseOf, if_neg (of_decide_eq_false h), if_pos (of_decide_eq_true z)]; rfl
      · rw [riseOf, if_neg (of_decide_eq_false h), if_neg (of_decide_eq_false z)]; rfl
end
end K3
/-! TEXT F13 -/
set_option Elab.async false
set_option linter.all false
set_option maxRecDepth 100000
set_option maxHeartbeats 1000000
namespace K3
open PySem PySem.Spec L2
section
variable {P : Program} {w : World} {K : PySem.W.Frag} {mg : Str → Option Value} {base : Heap}
/-! ### Net -/
theorem cl_Net_initL (T : Tx K mg) (n : Nat) (gs : List Gate) (h0 : 1 ≤ n) (hn : n ≤ 12) (hg : ∀ g ∈ gs, Vg n g) (hz : gs.length ≤ 400) : ∃ fd, Binds K fd ["self", "lanes", "gates"] [] ∧ FnOk P w K mg base CX0 6 (He.ma K (He.ga K "Net") "__init__") fd ["self", "lanes", "gates"] (spI (cN K) [K3.IsD (.int n), K3.IsD (.list (gs.map encG))] ["own_lanes", "own_gates"] [.int (n : Int), .tuple (gs.map encG)]) :=
  cm_mk1 T 52 (d := d_NetZ_initZ) rfl rfl rfl rfl (fun _ _ _ _ _ _ _ us its hu hi => match us, hu, its, hi with | [_, _, _], _, [_], _ => ⟨_, rfl, rfl⟩) fun dvs fa fdd FF => by
    refine fn_okI FF sc_NetZ_initZ rfl fun cdv A outer s E0 Bb Hb B H x dx vs Q hr S h0' M E q => ?_
    refine ws_no S ((et_or2 (et_not (et_val (ev_call (cl_is_cnt T n) hr (ea1 (ev_v E 1))))) fun _ => et_not (et_chain cm_le cm_le ev_int (ev_v E 1) (ev_cval (g_Net T) (cval_ok (ex_p T).v1).1 (cval_ok (ex_p T).v1).2))).cast ?_) fun B1 H1 s1 S => ?_
    · rw [decide_eq_true (by omega), decide_eq_true (by omega), decide_eq_true (by omega)]; rfl
    have E := E.mono s1.b
    have M := M.mono s1
    refine ws_expr S (ev_call (cl_want_gatesL T n gs hg) hr (ea2 (ev_v E 1) (ev_v E 2))) (fun B2 H2 s2 S => ?_)
    have E := E.mono s2.b
    have M := M.mono s2
    refine ws_expr S (ev_call (cl_want_few T (gs.map encG).length (by rw [List.length_map]; omega)) hr (ea1 (ev_lenL (T_free T) (ev_v E 2)))) (fun B3 H3 s3 S => ?_)
    have E := E.mono s3.b
    have M := M.mono s3
    refine ws_fld (cls_N T) (na_lanes T) S M h0' (ev_v E 1) (ev_v E 0) (Nat.zero_lt_succ _) (fun v B4 H4 sb4 S M r4 => ?_)
    have E := E.mono sb4
    refine ws_fld (cls_N T) (na_gates T) S M h0' (ev_tupleL (T_free T) (ev_v E 2)) (ev_v E 0) (by show 1 < 1000; decide) (fun w B5 H5 sb5 S M r5 => ws_nil (q [v, w] B5 H5 S M (.cons (Dq.mono r4 sb5) (.cons r5 .nil))))
theorem cl_Net_initT (T : Tx K mg) (n : Nat) (gs : List Gate) (h0 : 1 ≤ n) (hn : n ≤ 12) (hg : ∀ g ∈ gs, Vg n g) (hz : gs.length ≤ 400) : ∃ fd, Binds K fd ["self", "lanes", "gates"] [] ∧ FnOk P w K mg base CX0 6 (He.ma K (He.ga K "Net") "__init__") fd ["self", "lanes", "gates"] (spI (cN K) [K3.IsD (.int n), K3.IsD (.tuple (gs.map encG))] ["own_lanes", "own_gates"] [.int (n : Int), .tuple (gs.map encG)]) :=
  cm_mk1 T 52 (d := d_NetZ_initZ) rfl rfl rfl rfl (fun _ _ _ _ _ _ _ us its hu hi => match us, hu, its, hi with | [_, _, _], _, [_], _ => ⟨_, rfl, rfl⟩) fun dvs fa fdd FF => by
    refine fn_okI FF sc_NetZ_initZ rfl fun cdv A outer s E0 Bb Hb B H x dx vs Q hr S h0' M E q => ?_
    refine ws_no S ((et_or2 (et_not (et_val (ev_call (cl_is_cnt T n) hr (ea1 (ev_v E 1))))) fun _ => et_not (et_chain cm_le cm_le ev_int (ev_v E 1) (ev_cval (g_Net T) (cval_ok (ex_p T).v1).1 (cval_ok (ex_p T).v1).2))).cast ?_) fun B1 H1 s1 S => ?_
    · rw [decide_eq_true (by omega), decide_eq_true (by omega), decide_eq_true (by omega)]; rfl
    have E := E.mono s1.b
    have M := M.mono s1
    refine ws_expr S (ev_call (cl_want_gatesT T n gs hg) hr (ea2 (ev_v E 1) (ev_v E 2))) (fun B2 H2 s2 S => ?_)
    have E := E.mono s2.b
    have M := M.mono s2
    refine ws_expr S (ev_call (cl_want_few T (gs.map encG).length (by rw [List.length_map]; omega)) hr (ea1 (ev_lenT (T_free T) (ev_v E 2)))) (fun B3 H3 s3 S => ?_)
    have E := E.mono s3.b
    have M := M.mono s3
    refine ws_fld (cls_N T) (na_lanes T) S M h0' (ev_v E 1) (ev_v E 0) (Nat.zero_lt_succ _) (fun v B4 H4 sb4 S M r4 => ?_)
    have E := E.mono sb4
    refine ws_fld (cls_N T) (na_gates T) S M h0' (ev_tupleT (T_free T) (ev_v E 2)) (ev_v E 0) (by show 1 < 1000; decide) (fun w B5 H5 sb5 S M r5 => ws_nil (q [v, w] B5 H5 S M (.cons (Dq.mono r4 sb5) (.cons r5 .nil))))
theorem ci_NetL (T : Tx K mg) (n : Nat) (gs : List Gate) (h0 : 1 ≤ n) (hn : n ≤ 12) (hg : ∀ g ∈ gs, Vg n g) (hz : gs.length ≤ 400) : CI P w K mg base "Net" (cN K) ["self", "lanes", "gates"] 6 (spI (cN K) [K3.IsD (.int n), K3.IsD (.list (gs.map encG))] ["own_lanes", "own_gates"] [.int (n : Int), .tuple (gs.map encG)]) := by
  obtain ⟨fd, h1, h2⟩ := cl_Net_initL (P := P) (w := w) (base := base) T n gs h0 hn hg hz
  exact ⟨_, fd, g_Net T, mk_N T, h1, h2⟩
theorem ci_NetT (T : Tx K mg) (n : Nat) (gs : List Gate) (h0 : 1 ≤ n) (hn : n ≤ 12) (hg : ∀ g ∈ gs, Vg n g) (hz : gs.length ≤ 400) : CI P w K mg base "Net" (cN K) ["self", "lanes", "gates"] 6 (spI (cN K) [K3.IsD (.int n), K3.IsD (.tuple (gs.map encG))] ["own_lanes", "own_gates"] [.int (n : Int), .tuple (gs.map encG)]) := by
  obtain ⟨fd, h1, h2⟩ := cl_Net_initT (P := P) (w := w) (base := base) T n gs h0 hn hg hz
  exact ⟨_, fd, g_Net T, mk_N T, h1, h2⟩
theorem cm_gates (T : Tx K mg) (n : Nat) (gs : List Gate) : CM P w K mg base (cN K) "gates" ["self"] 1 (spM [K3.IsD (netD K n gs)] (gs.map encG)) := by
  obtain ⟨fd, h1, h2⟩ : ∃ fd, Binds K fd ["self"] [] ∧ FnOk P w K mg base CX0 1 (He.ma K (He.ga K "Net") "gates") fd ["self"] (spM [K3.IsD (netD K n gs)] (gs.map encG)) :=
    cm_mk T 53 (d := d_Net_gates) rfl rfl rfl rfl (m_gates T) (fun _ _ _ _ _ _ us hl => match us, hl with | [_], _ => rfl) fun fa fdd FF => by
      refine fn_okM FF sc_Net_gates rfl fun cdv A outer s E0 B H vs Q hr S E q => ?_
      exact ws_retM S (em_listT (T_free T) (ev_fld (cls_N T) (na_gates T) (ev_v E 0) rfl)) q
  exact ⟨_, fd, m_gates T, h1, h2⟩
theorem cm_len (T : Tx K mg) (n : Nat) (gs : List Gate) : ∃ fd, Binds K fd ["self"] [] ∧ FnOk P w K mg base CX0 1 (He.ma K (He.ga K "Net") "__len__") fd ["self"] (spD none [K3.IsD (netD K n gs)] (K3.IsD (.int gs.length))) :=
  cm_mk T 54 (d := d_NetZ_lenZ) rfl rfl rfl rfl (m_len T) (fun _ _ _ _ _ _ us hl => match us, hl with | [_], _ => rfl) fun fa fdd FF => by
    refine fn_ok FF sc_NetZ_lenZ rfl fun cdv A outer s E0 B H vs Q hr S E q => ?_
    refine ws_ret S (Ev.cast (ev_lenT (T_free T) (ev_fld (cls_N T) (na_gates T) (ev_v E 0) rfl)) ?_) q
    rw [List.length_map]
theorem cm_call (T : Tx K mg) (n : Nat) (gs : List Gate) (xs : List Int) (h0 : 1 ≤ n) (hn : n ≤ 12) (hg : ∀ g ∈ gs, Vg n g) (hx : xs.length = n) : ∃ fd, Binds K fd ["self", "content"] [] ∧ FnOk P w K mg base CX0 4 (He.ma K (He.ga K "Net") "__call__") fd ["self", "content"] (spM [K3.IsD (netD K n gs), K3.IsD (encI xs)] ((runG gs xs).map .int)) :=
  cm_mk T 55 (d := d_NetZ_callZ) rfl rfl rfl rfl (m_call T) (fun _ _ _ _ _ _ us hl => match us, hl with | [_, _], _ => rfl) fun fa fdd FF => by
    refine fn_okM FF sc_NetZ_callZ rfl fun cdv A outer s E0 B H vs Q hr S E q => ?_
    refine ws_expr S (ev_call (cl_want_content_of T n xs (by omega) (by omega) (by rw [hx])) hr (ea2 (ev_fld (cls_N T) (na_lanes T) (ev_v E 0) rfl) (ev_v E 1))) (fun B2 H2 s2 S => ?_)
    have E := E.mono s2.b
    exact ws_retM S (em_call (cl_told_by T n gs xs hg hx (by omega)) hr (ea2 (ev_fld (cls_N T) (na_gates T) (ev_v E 0) rfl) (ev_v E 1))) q
/-- net.lanes -/
theorem ev_lanes {m : Option Addr} {X : Cx} {e : Expr} {σ : L2.St} {B H : Hp} {pos : Pos} {k n : Nat} {gs : List Gate} (T : Tx X.K X.mg) (hr : Room k X.A) (h : Ev m X e σ B H (K3.IsD (netD X.K n gs))) (hk : 2 ≤ k := by decide) (hab : attributeBase e "lanes" X.env (eval e X.env) = eval e X.env := by rfl) : Ev m X (.Attribute e "lanes" pos) σ B H (K3.IsD (.int n)) := by
  obtain ⟨fd, hb, F⟩ := get_N (P := X.prog) (w := X.w) (base := X.base) T
  refine ev_by (pe_prop pe_w (cls_N T) (prop_N T) F (hr.mono hk) hb .nil (E := fun _ _ _ => False) pass0 hab) fun B1 H1 s1 Q q => h B1 H1 s1 _ fun v B2 H2 s2 rv => ?_
  obtain ⟨a, dx, vs, rfl, h1, h2⟩ := Dq.ins_ex rfl rv
  obtain ⟨u, e1, e2⟩ := lookup_zip (fs := ["own_lanes", "own_gates"]) (f := "own_lanes") (d := .int n) h2 rfl
  exact ⟨a, dx, _, rfl, s2.s _ _ h1, a, dx, _, u, rfl, s2.s _ _ h1, e1, q u B2 H2 s2 e2⟩
def insG (gs : List Gate) (p : Nat) (g : Gate) : List Gate := gs.take p ++ [g] ++ gs.drop p
theorem insG_len {gs : List Gate} {p : Nat} {g : Gate} (h : p ≤ gs.length) : (insG gs p g).length = gs.length + 1 := by
  unfold insG
  simp; omega
theorem mem_insG {gs : List Gate} {p : Nat} {g x : Gate} (h : x ∈ insG gs p g) : x ∈ gs ∨ x = g := by
  unfold insG at h
  rcases List.mem_append.mp h with h | h
  · rcases List.mem_append.mp h with h | h
    · exact .inl (List.mem_of_mem_take h)
    · exact .inr (List.mem_singleton.mp h)
  · exact .inl (List.mem_of_mem_drop h)
theorem cm_with (T : Tx K mg) (n : Nat) (gs : List Gate) (p : Nat) (g : Gate) (h0 : 1 ≤ n) (hn : n ≤ 12) (hg : ∀ g ∈ gs, Vg n g) (hz : gs.length ≤ 399) (hp : p ≤ gs.length) (hv : Vg n g) : CM P w K mg base (cN K) "with_gate" ["self", "position", "gate"] 8 (spD none [K3.IsD (netD K n gs), K3.IsD (.int p), K3.IsD (encG g)] (K3.IsD (netD K n (insG gs p g)))) := by
  obtain ⟨fd, h1, h2⟩ : ∃ fd, Binds K fd ["self", "position", "gate"] [] ∧ FnOk P w K mg base CX0 8 (He.ma K (He.ga K "Net") "with_gate") fd ["self", "position", "gate"] (spD none [K3.IsD (netD K n gs), K3.IsD (.int p), K3.IsD (encG g)] (K3.IsD (netD K n (insG gs p g)))) :=
    cm_mk T 57 (d := d_Net_with_gate) rfl rfl rfl rfl (m_with T) (fun _ _ _ _ _ _ us hl => match us, hl with | [_, _, _], _ => rfl) fun fa fdd FF => by
      refine fn_ok FF sc_Net_with_gate rfl fun cdv A outer s E0 B H vs Q hr S E q => ?_
      refine ws_expr S (ev_call (cl_want_position T (((gs.map encG).length : Nat) + 1) p (by omega) (by rw [List.length_map]; omega)) hr (ea2 (ev_add (ev_lenT (T_free T) (ev_fld (cls_N T) (na_gates T) (ev_v E 0) rfl)) ev_int) (ev_v E 1))) (fun B2 H2 s2 S => ?_)
      have E := E.mono s2.b
      refine ws_no S (et_nT (et_val (ev_call (cl_is_gate T n g hv) hr (ea2 (ev_fld (cls_N T) (na_lanes T) (ev_v E 0) rfl) (ev_v E 2))))) fun B3 H3 s3 S => ?_
      have E := E.mono s3.b
      have e : (insG gs p g).map encG = cutD (gs.map encG) none (some (p : Int)) ++ [encG g] ++ cutD (gs.map encG) (some (p : Int)) none := by
        rw [cut_to, cut_from, insG, List.map_append, List.map_append, List.map_take, List.map_drop]; rfl
      refine ws_ret S (ev_make (ci_NetT T n (insG gs p g) h0 hn (fun x hx => (mem_insG hx).elim (hg x) (fun z => z ▸ hv)) (by rw [insG_len hp]; omega)) hr (ea2 (ev_fld (cls_N T) (na_lanes T) (ev_v E 0) rfl) (Ev.cast (ev_catT ?_ (ev_catT ?_ (ev_slT (ev_fld (cls_N T) (na_gates T) (ev_v E 0) rfl) eo_none (eo_some (ev_v E 1))) (ev_tup [encG g] (ea1 (ev_v E 2)) (Nat.le_of_ble_eq_true rfl))) (ev_slT (ev_fld (cls_N T) (na_gates T) (ev_v E 0) rfl) (eo_some (ev_v E 1)) eo_none)) (by rw [e])))) q
      · rw [cut_to, cut_from]
        simp only [List.length_append, List.length_take, List.length_drop, List.length_map, List.length_singleton]
        omega
      · rw [cut_to]
        simp only [List.length_take, List.length_map, List.length_singleton]
        omega
  exact ⟨_, fd, m_with T, h1, h2⟩
end
end K3
/-! TEXT K14f -/
set_option Elab.async false
set_option linter.all false
set_option maxRecDepth 100000
set_option maxHeartbeats 1000000
namespace K3
open PySem PySem.Spec L2
section
variable {m : Option Addr} {X : Cx} {e a b c o i : Expr} {es : List Expr} {σ : L2.St} {B H B' H' B0 H0 : Hp} {R R1 R2 R3 : Rt} {Rs : List Rt} {pos p1 p2 p3 apos cpos : Pos} {Γ : List (Option Rt)} {d d1 d2 : PyData} {ds : List PyData} {x y f mt : Str} {k n : Nat} {rest : List Stmt} {D : Ends} {p q C : Addr} {fs ps ks : List Str} {sp : Sp}
/-! ### answers with lists of one's own inside -/
/-- W v H B' H': the answer v, called where H stood -/
abbrev WK := V → Hp → Hp → Hp → Prop
def spW (Rs : List Rt) (W : WK) : Sp := fun vs H Q _ => ∃ B, Same B H ∧ Args Rs vs B ∧ ∀ v B' H', Stp none B H B' H' → W v H B' H' → Q v H'
theorem fn_okW {P : Program} {w : World} {K : PySem.W.Frag} {mg : Str → Option Value} {base : Heap} {xn qual : Str} {st : Stmt} {fa : Addr} {fd : FuncData} {dvs : List V} {kws : List (Str × V)} {N : List Str} [Mns Rs] {W : WK} (F : FunD K xn qual (defArgs st) (defBody st) (defScope st) dvs kws fa fd) (S : FnScope N ps (defScope st)) (hl : Rs.length = ps.length)
    (body : ∀ cdv A outer s E B H vs (Q : VK), Room k (XO P w K mg base N qual st fa cdv A outer s H E).A → Stp none B H B H → Sl (L2.start N vs) B (Rs.map some ++ List.replicate (N.length - Rs.length) none) → (∀ v B' H', Stp none B H B' H' → W v H B' H' → Q v H') →
      wSs (XO P w K mg base N qual st fa cdv A outer s H E) (defBody st) { nx := fun _ H' => Q .non H', rt := Q } (L2.start N vs) H) : FnOk P w K mg base CX0 (k + 1) fa fd ps (spW Rs W) := by
  refine F.ok S (fun vs H Q E h => ?_) (fun cdv A outer s H vs Q E hr h => ?_)
  · obtain ⟨B, _, a, _⟩ := h
    rw [a.len, hl]
  · obtain ⟨B, sb, a, q⟩ := h
    exact ⟨_, PSs.nox pss_w, body cdv A outer s E B H vs Q hr (Stp.refl sb pot0) (sl_start a) q⟩
/-- a call into any promise -/
theorem wcall (G : Cl X.prog X.w X.K X.mg X.base x ps k sp) (hr : Room n X.A) (ha : EvA m X (e :: es) σ B H Rs) {Q : VK} (q : ∀ vs B2 H2, Stp m B H B2 H2 → Args Rs vs B2 → sp vs H2 Q fun _ _ _ => False) (s : Stp m B H B H) (hk : k ≤ n := by decide) (hg : Gl X x := by rfl) (hdb : (x == ("__debug__" : Str)) = false := by decide) (he : starEach (e :: es) X.env = (false, eval e X.env) :: starEach es X.env := by rfl)
    (hpl : (backTo pos (starEach es X.env)).any (·.1) = false := by rfl) : wE X (.Call (.Name x p1) (e :: es) [] pos) σ H Q := by
  obtain ⟨f, fd, h1, h2, h3, h4⟩ := G.ex
  refine wE.of (pe_call h4 (hr.mono hk) hg h1 h2 h3 .nil pass0 pa_w hdb he hpl) (ha B H s _ fun vs B2 H2 s2 r => ?_)
  show sp (vs ++ []) H2 Q _
  rw [List.append_nil]
  exact q vs B2 H2 s2 r
/-! ### f(k = v, ..) -/
structure ClK (P : Program) (w : World) (K : PySem.W.Frag) (mg : Str → Option Value) (base : Heap) (x : Str) (ps ks : List Str) (pm : {α : Type} → List α → List α) (k : Nat) (sp : Sp) : Prop where
  ex : ∃ (f : Addr) (fd : FuncData), mg x = some (.ref f) ∧ PySem.W.keepIn K (.ref f) = true ∧ (∀ (s : Shared) (ws : List Value), ws.length = ps.length → BindsTo s fd ⟨[], ks.zip ws⟩ (ps.zip (pm ws))) ∧ FnOk P w K mg base CX0 k f fd ps sp
variable {pm : {α : Type} → List α → List α} {kws : List Keyword}
theorem pe_callK0 {f : Addr} {fd : FuncData} {tk : TA} (F : FnOk X.prog X.w X.K X.mg X.base CX0 k f fd ps sp) (hr : Room k X.A) (hm : X.mg x = some (.ref f)) (hk : PySem.W.keepIn X.K (.ref f) = true) (hb : ∀ (s : Shared) (ws : List Value), ws.length = ps.length → BindsTo s fd ⟨[], ks.zip ws⟩ (ps.zip (pm ws))) (hpm : ∀ {vs : List V} {ws : List Value}, Vals vs ws → Vals (pm vs) (pm ws)) (hpl : ∀ {α : Type} (l : List α), (pm l).length = l.length)
    (hkw : PK X kws tk) (hg : Gl X x := by rfl) (hall : (backToKw pos (keywordEach kws X.env)).all (·.1.isSome) = true := by rfl) (hks : (backToKw pos (keywordEach kws X.env)).filterMap (·.1) = ks := by rfl)
    (hdb : (x == ("__debug__" : Str)) = false := by decide) (hplain : ((backTo pos (starEach [] X.env)).any (·.1) || (backToKw pos (keywordEach kws X.env)).any (·.1.isNone)) = false := by rfl) : PE X (.Call (.Name x p1) [] kws pos) (fun σ H Q => tk σ H fun vs H1 => sp (pm vs) H1 Q fun _ _ _ => False) := by
  refine ⟨fun pins s σ H Q I h => ?_⟩
  refine wpAny_Call_Name_kw (ld_glob I hg hm ?_ hdb)
  refine PySem.W.callWith_KW0 (h₀ := X.base) I.ok.mod.kin hk hall (thn (hkw.run pos pins s σ H _ I h) fun ws s2 ⟨zs, H2, I2, rz, q2⟩ => ⟨I2.kIn, ?_⟩) hplain
  rw [hks]
  have r2 : Vals (pm zs) (pm ws) := hpm rz
  have hl : (pm ws).length = ps.length := by rw [← r2.length]; exact F.len _ _ _ _ q2
  refine wpAny_call (codeAny_mono (F.run X.A X.stack s2 H2 ⟨[] ++ [], ks.zip ws⟩ (pm ws) (pm zs) Q _ hr I2.env0 (hb s2 ws (by rw [← hl, hpl])) r2 q2) fun r s' hq => ?_)
  cases r with
  | error e => exact False.elim hq
  | ok fl =>
    cases fl with
    | ret u => exact I2.after hq
    | next => exact False.elim hq
    | brk => exact False.elim hq
    | cont => exact False.elim hq
def rev2 {α : Type} : List α → List α
  | [a, b] => [b, a]
  | l => l
def rev3 {α : Type} : List α → List α
  | [a, b, c] => [c, b, a]
  | l => l
theorem rev2_vals : ∀ {vs : List V} {ws : List Value}, Vals vs ws → Vals (rev2 vs) (rev2 ws)
  | _, _, .nil => .nil
  | _, _, .cons a .nil => .cons a .nil
  | _, _, .cons a (.cons b .nil) => .cons b (.cons a .nil)
  | _, _, .cons a (.cons b (.cons c t)) => .cons a (.cons b (.cons c t))
theorem rev2_len {α : Type} : ∀ l : List α, (rev2 l).length = l.length
  | [] => rfl
  | [_] => rfl
  | [_, _] => rfl
  | _ :: _ :: _ :: _ => rfl
theorem rev3_vals : ∀ {vs : List V} {ws : List Value}, Vals vs ws → Vals (rev3 vs) (rev3 ws)
  | _, _, .nil => .nil
  | _, _, .cons a .nil => .cons a .nil
  | _, _, .cons a (.cons b .nil) => .cons a (.cons b .nil)
  | _, _, .cons a (.cons b (.cons c .nil)) => .cons c (.cons b (.cons a .nil))
  | _, _, .cons a (.cons b (.cons c (.cons d t))) => .cons a (.cons b (.cons c (.cons d t)))
theorem rev3_len {α : Type} : ∀ l : List α, (rev3 l).length = l.length
  | [] => rfl
  | [_] => rfl
  | [_, _] => rfl
  | [_, _, _] => rfl
  | _ :: _ :: _ :: _ :: _ => rfl
theorem wcallK2 {n1 n2 : Str} {k1 k2 : Pos} (G : ClK X.prog X.w X.K X.mg X.base x ps [n1, n2] rev2 k sp) (hr : Room n X.A) [mr : Mn R1] (ha : Ev m X a σ B H R1) (hb : Ev m X b σ B H R2) {Q : VK} (q : ∀ v w B2 H2, Stp m B H B2 H2 → R1 v B2 → R2 w B2 → sp [w, v] H2 Q fun _ _ _ => False) (s : Stp m B H B H) (hk : k ≤ n := by decide)
    (hg : Gl X x := by rfl) (hall : (backToKw pos (keywordEach [⟨some n1, a, k1⟩, ⟨some n2, b, k2⟩] X.env)).all (·.1.isSome) = true := by rfl) (hks : (backToKw pos (keywordEach [⟨some n1, a, k1⟩, ⟨some n2, b, k2⟩] X.env)).filterMap (·.1) = [n1, n2] := by rfl)
    (hdb : (x == ("__debug__" : Str)) = false := by decide) (hplain : ((backTo pos (starEach [] X.env)).any (·.1) || (backToKw pos (keywordEach [⟨some n1, a, k1⟩, ⟨some n2, b, k2⟩] X.env)).any (·.1.isNone)) = false := by rfl) : wE X (.Call (.Name x p1) [] [⟨some n1, a, k1⟩, ⟨some n2, b, k2⟩] pos) σ H Q := by
  obtain ⟨f, fd, h1, h2, h3, h4⟩ := G.ex
  refine wE.of (pe_callK0 h4 (hr.mono hk) h1 h2 h3 rev2_vals rev2_len (pk_cons pe_w (pk_cons pe_w pk_nil)) hg hall hks hdb hplain) ?_
  exact ha B H s _ fun v B2 H2 s2 r2 => hb B2 H2 s2 _ fun w B3 H3 s3 r3 => q v w B3 H3 (s2.trans s3) (mr.mn v _ _ s3.b r2) r3
theorem wcallK3 {n1 n2 n3 : Str} {k1 k2 k3 : Pos} (G : ClK X.prog X.w X.K X.mg X.base x ps [n1, n2, n3] rev3 k sp) (hr : Room n X.A) [mr : Mn R1] [mr2 : Mn R2] (ha : Ev m X a σ B H R1) (hb : Ev m X b σ B H R2) (hc : Ev m X c σ B H R3) {Q : VK} (q : ∀ v w u B2 H2, Stp m B H B2 H2 → R1 v B2 → R2 w B2 → R3 u B2 → sp [u, w, v] H2 Q fun _ _ _ => False) (s : Stp m B H B H) (hk : k ≤ n := by decide)
    (hg : Gl X x := by rfl) (hall : (backToKw pos (keywordEach [⟨some n1, a, k1⟩, ⟨some n2, b, k2⟩, ⟨some n3, c, k3⟩] X.env)).all (·.1.isSome) = true := by rfl) (hks : (backToKw pos (keywordEach [⟨some n1, a, k1⟩, ⟨some n2, b, k2⟩, ⟨some n3, c, k3⟩] X.env)).filterMap (·.1) = [n1, n2, n3] := by rfl)
    (hdb : (x == ("__debug__" : Str)) = false := by decide) (hplain : ((backTo pos (starEach [] X.env)).any (·.1) || (backToKw pos (keywordEach [⟨some n1, a, k1⟩, ⟨some n2, b, k2⟩, ⟨some n3, c, k3⟩] X.env)).any (·.1.isNone)) = false := by rfl) : wE X (.Call (.Name x p1) [] [⟨some n1, a, k1⟩, ⟨some n2, b, k2⟩, ⟨some n3, c, k3⟩] pos) σ H Q := by
  obtain ⟨f, fd, h1, h2, h3, h4⟩ := G.ex
  refine wE.of (pe_callK0 h4 (hr.mono hk) h1 h2 h3 rev3_vals rev3_len (pk_cons pe_w (pk_cons pe_w (pk_cons pe_w pk_nil))) hg hall hks hdb hplain) ?_
  exact ha B H s _ fun v B2 H2 s2 r2 => hb B2 H2 s2 _ fun w B3 H3 s3 r3 => hc B3 H3 (s2.trans s3) _ fun u B4 H4 s4 r4 => q v w u B4 H4 ((s2.trans s3).trans s4) (mr.mn v _ _ (s3.b.trans s4.b) r2) (mr2.mn w _ _ s4.b r3) r4
/-! ### data in lists that may change -/
def DqAt (m : Option Addr) (B H : Hp) (R : Rt) (d : PyData) : Prop := ∀ v B1 H1, Stp m B H B1 H1 → R v B1 → Dq H1 v d
theorem daD : DqAt m B H (K3.IsD d) d := fun v B1 H1 s r => Dq.mono r s.s
theorem daM (M : Mu m B H p ds) : DqAt m B H (IsV (.ref p)) (.list ds) := fun v B1 H1 s r => by
  obtain rfl : v = .ref p := r
  obtain ⟨zs, h1, h2⟩ := (M.mono s).ex
  exact .lst h1 (h2.mono s.s)
theorem DqAt.mono {d : PyData} (h : DqAt m B H R d) (s : Stp m B H B' H') : DqAt m B' H' R d := fun v B1 H1 s1 r => h v B1 H1 (s.trans s1) r
theorem dq_st {v : V} {B1 H1 B2 H2 : Hp} (h : DqAt m B H R d) (s1 : Stp m B H B1 H1) (s2 : Stp m B1 H1 B2 H2) (mr : Mn R) (r : R v B1) : Dq H2 v d := h v B2 H2 (s1.trans s2) (mr.mn v _ _ s2.b r)
theorem cm_eqA {n : Nat} (hr : Room n X.A) (ha : DqAt m B H R1 d1) (hb : DqAt m B H R2 d2) (h1 : SeqAt.shaped d1 = true) (h2 : SeqAt.shaped d2 = true) : Cm m X .Eq B H R1 R2 (PyData.eqv d1 d2) :=
  ⟨_, op_eqD hr.units, fun x y B1 H1 Q s1 rx ry q => ⟨d1, d2, dq_dp d1 _ (ha x B1 H1 s1 rx) (SeqAt.canLay_of_shaped h1), dq_dp d2 _ (hb y B1 H1 s1 ry) (SeqAt.canLay_of_shaped h2), h1, h2, q B1 H1 s1.here⟩⟩
theorem cm_neA {n : Nat} (hr : Room n X.A) (ha : DqAt m B H R1 d1) (hb : DqAt m B H R2 d2) (h1 : SeqAt.shaped d1 = true) (h2 : SeqAt.shaped d2 = true) : Cm m X .NotEq B H R1 R2 (!PyData.eqv d1 d2) :=
  ⟨_, op_neD hr.units, fun x y B1 H1 Q s1 rx ry q => ⟨d1, d2, dq_dp d1 _ (ha x B1 H1 s1 rx) (SeqAt.canLay_of_shaped h1), dq_dp d2 _ (hb y B1 H1 s1 ry) (SeqAt.canLay_of_shaped h2), h1, h2, q B1 H1 s1.here⟩⟩
end
section
variable {P : Program} {w : World} {K : PySem.W.Frag} {mg : Str → Option Value} {base : Heap} {ps ks : List Str} {k : Nat} {sp : Sp} {x : Str} {pm : {α : Type} → List α → List α}
/-- the i-th def of the list, called by its global name, with keywords too -/
theorem cl_mk2 (T : Tx K mg) {d : He.DefD} (i : Nat) (h : fnL[i]? = some d) (ha : d.at_ = (x, none)) (hd : d.dfl = []) (hk : d.kwd = []) (hx : x ∈ gloL)
    (hb : ∀ (kV doc pm : Value) (an : Option Addr) (cdv ct : Value) (us : List Value), us.length = ps.length → bindArgs (PySem.W.fnOf d.name d.qual d.params d.body d.scope .none kV doc pm an cdv ct) ⟨us, []⟩ = pure (ps.zip us))
    (hbk : ∀ (kV doc pv : Value) (an : Option Addr) (cdv ct : Value) (us : List Value), us.length = ps.length → bindArgs (PySem.W.fnOf d.name d.qual d.params d.body d.scope .none kV doc pv an cdv ct) ⟨[], ks.zip us⟩ = pure (ps.zip (pm us)))
    (hf : ∀ f fd, FunD K d.name d.qual d.params d.body d.scope [] [] f fd → FnOk P w K mg base CX0 k f fd ps sp) : Cl P w K mg base x ps k sp ∧ ClK P w K mg base x ps ks pm k sp := by
  obtain ⟨fd, F⟩ := T.c.d.def_ i h
  have e1 : d.dvs K = [] := by unfold He.DefD.dvs; rw [hd]; rfl
  have e2 : d.kws K = [] := by unfold He.DefD.kws; rw [hk]; rfl
  rw [e1, e2] at F
  have e3 : He.fAd K d.at_ = He.ga K x := by rw [ha]; rfl
  rw [e3] at F
  refine ⟨⟨_, fd, T.glo x hx, F.kp, F.bindsN hb, hf _ _ F⟩, ⟨_, fd, T.glo x hx, F.kp, ?_, hf _ _ F⟩⟩
  obtain ⟨oc, od, dV, kV, doc, pv, an, cdv, ct, osl, rfl, lk, hcd, hD, hK⟩ := F.ex
  rcases hD with ⟨_, rfl⟩ | ⟨e, _⟩
  · exact fun s ws hl => BindsTo.of_eq (hbk kV doc pv an cdv ct ws hl)
  · exact absurd rfl e
end
end K3
/-! TEXT M4 -/
set_option Elab.async false
set_option linter.all false
set_option maxRecDepth 100000
set_option maxHeartbeats 1000000
namespace K3
open PySem PySem.W
theorem sorted_ext {α : Type} {R : α → α → Prop} (irr : ∀ a b, R a b → R b a → False) : ∀ l m : List α, l.Pairwise R → m.Pairwise R → (∀ x, x ∈ l ↔ x ∈ m) → l = m
  | [], [], _, _, _ => rfl
  | [], b :: m, _, _, h => by cases (h b).mpr List.mem_cons_self
  | a :: l, [], _, _, h => by cases (h a).mp List.mem_cons_self
  | a :: l, b :: m, h1, h2, h => by
    have p1 := List.pairwise_cons.mp h1
    have p2 := List.pairwise_cons.mp h2
    have e : a = b := by
      rcases List.mem_cons.mp ((h a).mp List.mem_cons_self) with e | e
      · exact e
      · rcases List.mem_cons.mp ((h b).mpr List.mem_cons_self) with e2 | e2
        · exact e2.symm
        · exact (irr _ _ (p2.1 a e) (p1.1 b e2)).elim
    subst e
    have : l = m := sorted_ext irr l m p1.2 p2.2 fun x => ⟨fun hx => by
      rcases List.mem_cons.mp ((h x).mp (List.mem_cons_of_mem _ hx)) with e | e
      · subst e; exact (irr _ _ (p1.1 x hx) (p1.1 x hx)).elim
      · exact e, fun hx => by
      rcases List.mem_cons.mp ((h x).mpr (List.mem_cons_of_mem _ hx)) with e | e
      · subst e; exact (irr _ _ (p2.1 x hx) (p2.1 x hx)).elim
      · exact e⟩
    rw [this]
/-! under -/
theorem under_iff {a b : Lot} : under a b = true ↔ ∀ p ∈ a, ∃ v, getI b p.1 = some v ∧ p.2 ≤ v := by
  unfold under
  rw [List.all_eq_true]
  constructor
  · intro h p hp
    have := h p hp
    cases g : getI b p.1 with
    | none => rw [g] at this; cases this
    | some v => rw [g] at this; exact ⟨v, rfl, of_decide_eq_true this⟩
  · intro h p hp
    obtain ⟨v, e, hv⟩ := h p hp
    rw [e]
    exact decide_eq_true hv
theorem under_refl {a : Lot} (h : Nk a) : under a a = true := under_iff.mpr fun p hp => ⟨p.2, getI_of_mem h hp, Int.le_refl _⟩
theorem under_trans {a b c : Lot} (h1 : under a b = true) (h2 : under b c = true) : under a c = true := under_iff.mpr fun p hp => by
  obtain ⟨v, e, hv⟩ := under_iff.mp h1 p hp
  obtain ⟨w, e2, hw⟩ := under_iff.mp h2 _ (getI_mem e)
  exact ⟨w, e2, Int.le_trans hv hw⟩
abbrev Up (l : Lot) : Prop := l.Pairwise fun p q => p.1 < q.1
theorem up_ext {a b : Lot} (ha : Up a) (hb : Up b) (h : ∀ p, p ∈ a ↔ p ∈ b) : a = b := sorted_ext (fun p q h1 h2 => by omega) a b ha hb h
theorem under_anti {a b : Lot} (ha : Up a) (hb : Up b) (h1 : under a b = true) (h2 : under b a = true) : a = b := by
  refine up_ext ha hb fun p => ⟨fun hp => ?_, fun hp => ?_⟩
  · obtain ⟨v, e, hv⟩ := under_iff.mp h1 p hp
    have m := getI_mem e
    obtain ⟨w, e2, hw⟩ := under_iff.mp h2 _ m
    rw [getI_of_mem (up_nk ha) hp] at e2
    have : p.2 = w := Option.some.inj e2
    have e3 : p = (p.1, v) := Prod.ext rfl (by show p.2 = v; have : v ≤ w := hw; omega)
    rw [e3]; exact m
  · obtain ⟨v, e, hv⟩ := under_iff.mp h2 p hp
    have m := getI_mem e
    obtain ⟨w, e2, hw⟩ := under_iff.mp h1 _ m
    rw [getI_of_mem (up_nk hb) hp] at e2
    have : p.2 = w := Option.some.inj e2
    have e3 : p = (p.1, v) := Prod.ext rfl (by show p.2 = v; have : v ≤ w := hw; omega)
    rw [e3]; exact m
/-! kept: the least ones -/
structure KInv (done found : Fam) : Prop where
  sub : ∀ l ∈ found, l ∈ done
  cov : ∀ l ∈ done, ∃ n ∈ found, under n l = true
  anti : ∀ a ∈ found, ∀ b ∈ found, under a b = true → a = b
  nd : found.Nodup
theorem keepStep_inv {done found : Fam} {lot : Lot} (hlot : Nk lot) (h : KInv done found) : KInv (done ++ [lot]) (keepStep found lot) := by
  unfold keepStep
  by_cases hc : found.any (fun near => under near lot) = true
  · rw [if_pos hc]
    obtain ⟨n, hn, hu⟩ := List.any_eq_true.mp hc
    refine ⟨fun l hl => List.mem_append_left _ (h.sub l hl), fun l hl => ?_, h.anti, h.nd⟩
    rcases List.mem_append.mp hl with hl | hl
    · exact h.cov l hl
    · rw [List.mem_singleton.mp hl]; exact ⟨n, hn, hu⟩
  · rw [if_neg hc]
    have hno : ∀ n ∈ found, under n lot = false := fun n hn => by
      cases z : under n lot with
      | false => rfl
      | true => exact absurd (List.any_eq_true.mpr ⟨n, hn, z⟩) hc
    refine ⟨fun l hl => ?_, fun l hl => ?_, fun a ha b hb hu => ?_, ?_⟩
    · rcases List.mem_append.mp hl with hl | hl
      · exact List.mem_append_left _ (h.sub l (List.mem_filter.mp hl).1)
      · exact List.mem_append_right _ hl
    · rcases List.mem_append.mp hl with hl | hl'
      · obtain ⟨n, hn, hu⟩ := h.cov l hl
        cases z : under lot n with
        | true => exact ⟨lot, List.mem_append_right _ (List.mem_singleton.mpr rfl), under_trans z hu⟩
        | false => exact ⟨n, List.mem_append_left _ (List.mem_filter.mpr ⟨hn, by rw [z]; rfl⟩), hu⟩
      · rw [List.mem_singleton.mp hl']
        exact ⟨lot, List.mem_append_right _ (List.mem_singleton.mpr rfl), under_refl hlot⟩
    · rcases List.mem_append.mp ha with ha | ha <;> rcases List.mem_append.mp hb with hb | hb
      · exact h.anti a (List.mem_filter.mp ha).1 b (List.mem_filter.mp hb).1 hu
      · rw [List.mem_singleton.mp hb, hno a (List.mem_filter.mp ha).1] at hu; cases hu
      · have z := (List.mem_filter.mp hb).2
        rw [List.mem_singleton.mp ha] at hu
        rw [hu] at z; cases z
      · rw [List.mem_singleton.mp ha, List.mem_singleton.mp hb]
    · refine List.nodup_append.mpr ⟨h.nd.filter _, List.pairwise_singleton _ _, fun a ha b hb e => ?_⟩
      rw [List.mem_singleton.mp hb] at e
      have := hno a (List.mem_filter.mp ha).1
      rw [e, under_refl hlot] at this
      cases this
theorem keep_inv (f : Fam) : ∀ done found, KInv done found → (∀ l ∈ f, Nk l) → KInv (done ++ f) (f.foldl keepStep found) := by
  induction f with
  | nil => intro done found h _; rw [List.append_nil]; exact h
  | cons l f ih =>
    intro done found h hn
    have := ih (done ++ [l]) (keepStep found l) (keepStep_inv (hn l List.mem_cons_self) h) fun x hx => hn x (List.mem_cons_of_mem _ hx)
    rw [List.append_assoc] at this
    exact this
theorem kinv0 : KInv [] [] := ⟨fun _ h => (nomatch h), fun _ h => (nomatch h), fun _ h => (nomatch h), List.nodup_nil⟩
/-! the order of lots -/
abbrev leL : Lot → Lot → Bool := dataLe false encL
theorem toks_pairs : ∀ a b : Lot, keyToksAll (a.map pairD) = keyToksAll (b.map pairD) → a = b
  | [], [], _ => rfl
  | [], q :: b, h => by simp [keyToksAll] at h
  | p :: a, [], h => by simp [keyToksAll] at h
  | p :: a, q :: b, h => by
    simp only [List.map_cons, keyToksAll, pairD, keyToks, List.cons_append, List.nil_append, List.cons.injEq, true_and, Sum.inl.injEq] at h
    obtain ⟨h1, h2, h3⟩ := h
    rw [toks_pairs a b h3, Prod.ext h1 h2]
theorem leL_anti {a b : Lot} (h1 : leL a b = true) (h2 : leL b a = true) : a = b := by
  have e1 : PyProof.Rows.lexLt PyProof.Rows.itemOrd (keyToks (encL b)) (keyToks (encL a)) = false := by
    have : (!PyProof.Rows.lexLt PyProof.Rows.itemOrd (keyToks (encL b)) (keyToks (encL a))) = true := h1
    simpa using this
  have e2 : PyProof.Rows.lexLt PyProof.Rows.itemOrd (keyToks (encL a)) (keyToks (encL b)) = false := by
    have : (!PyProof.Rows.lexLt PyProof.Rows.itemOrd (keyToks (encL a)) (keyToks (encL b))) = true := h2
    simpa using this
  have e := PyProof.Rows.lex_total _ _ e2 e1
  rw [encL, encL, keyToks, keyToks] at e
  exact toks_pairs a b e
abbrev ltL (a b : Lot) : Prop := leL a b = true ∧ a ≠ b
theorem srt_pw (f : Fam) : (srt f).Pairwise fun a b => leL a b = true := sort_pairwise (sortLe_total _ _ _) f
theorem srt_lt {f : Fam} (h : f.Nodup) : (srt f).Pairwise ltL := by
  have h2 : (srt f).Nodup := (srt_perm f).nodup_iff.mpr h
  exact (srt_pw f).and h2
theorem fam_ext {f g : Fam} (hf : f.Pairwise ltL) (hg : g.Pairwise ltL) (h : ∀ l, l ∈ f ↔ l ∈ g) : f = g :=
  sorted_ext (fun a b h1 h2 => h1.2 (leL_anti h1.1 h2.1)) f g hf hg h
/-- a family as the program keeps it -/
structure Cn (f : Fam) : Prop where
  lt : f.Pairwise ltL
  anti : ∀ a ∈ f, ∀ b ∈ f, under a b = true → a = b
theorem kept_inv {f : Fam} (hn : ∀ l ∈ f, Nk l) : KInv f (f.foldl keepStep []) := by
  have := keep_inv f [] [] kinv0 hn
  rwa [List.nil_append] at this
theorem mem_kept {f : Fam} {l : Lot} : l ∈ kept f ↔ l ∈ f.foldl keepStep [] := (srt_perm _).mem_iff
theorem kept_cn {f : Fam} (hn : ∀ l ∈ f, Nk l) : Cn (kept f) := by
  have k := kept_inv hn
  exact ⟨srt_lt k.nd, fun a ha b hb => k.anti a (mem_kept.mp ha) b (mem_kept.mp hb)⟩
theorem kept_cov {f : Fam} (hn : ∀ l ∈ f, Nk l) : ∀ l ∈ f, ∃ n ∈ kept f, under n l = true := fun l hl => by
  obtain ⟨n, h1, h2⟩ := (kept_inv hn).cov l hl
  exact ⟨n, mem_kept.mpr h1, h2⟩
theorem kept_ne {f : Fam} (hn : ∀ l ∈ f, Nk l) (h : f ≠ []) : kept f ≠ [] := by
  obtain ⟨l, r, rfl⟩ := List.exists_cons_of_ne_nil h
  obtain ⟨n, h1, _⟩ := kept_cov hn l List.mem_cons_self
  intro e
  rw [e] at h1; cases h1
theorem kept_id {f : Fam} (hn : ∀ l ∈ f, Nk l) (h : Cn f) : kept f = f := fam_ext (kept_cn hn).lt h.lt fun l => ⟨kept_sub, fun hl => by
  obtain ⟨n, h1, h2⟩ := kept_cov hn l hl
  rw [← h.anti n (kept_sub h1) l hl h2]; exact h1⟩
/-! the law's least -/
def ddp (f : Fam) : Fam := f.foldl (fun acc l => if l ∈ acc then acc else acc ++ [l]) []
def leastL (f : Fam) : Fam := (srt (ddp f)).filter fun l => !(srt (ddp f)).any fun n => decide (n ≠ l) && under n l
theorem ddp_key (f : Fam) : ∀ acc : Fam, acc.Nodup → (f.foldl (fun acc l => if l ∈ acc then acc else acc ++ [l]) acc).Nodup ∧ (∀ l, l ∈ f.foldl (fun acc l => if l ∈ acc then acc else acc ++ [l]) acc ↔ l ∈ acc ∨ l ∈ f) ∧ (f.foldl (fun acc l => if l ∈ acc then acc else acc ++ [l]) acc).length ≤ acc.length + f.length := by
  induction f with
  | nil => intro acc h; exact ⟨h, fun l => by simp, by simp⟩
  | cons a f ih =>
    intro acc h
    rw [List.foldl_cons]
    by_cases ha : a ∈ acc
    · rw [if_pos ha]
      obtain ⟨h1, h2, h3⟩ := ih acc h
      refine ⟨h1, fun l => ?_, by rw [List.length_cons]; omega⟩
      rw [h2, List.mem_cons]
      constructor
      · rintro (z | z)
        · exact .inl z
        · exact .inr (.inr z)
      · rintro (z | z | z)
        · exact .inl z
        · exact .inl (z ▸ ha)
        · exact .inr z
    · rw [if_neg ha]
      obtain ⟨h1, h2, h3⟩ := ih (acc ++ [a]) (List.nodup_append.mpr ⟨h, List.pairwise_singleton _ _, fun x hx y hy e => ha (by rw [List.mem_singleton.mp hy] at e; exact e ▸ hx)⟩)
      refine ⟨h1, fun l => ?_, by rw [List.length_append, List.length_singleton] at h3; rw [List.length_cons]; omega⟩
      rw [h2, List.mem_append, List.mem_singleton, List.mem_cons, or_assoc]
theorem ddp_nd (f : Fam) : (ddp f).Nodup := (ddp_key f [] List.nodup_nil).1
theorem mem_ddp {f : Fam} {l : Lot} : l ∈ ddp f ↔ l ∈ f := ((ddp_key f [] List.nodup_nil).2.1 l).trans (by simp)
theorem ddp_len (f : Fam) : (ddp f).length ≤ f.length := by
  have h := (ddp_key f [] List.nodup_nil).2.2
  rw [List.length_nil, Nat.zero_add] at h
  exact h
theorem least_kept {f : Fam} (hv : ∀ l ∈ f, Up l) : leastL f = kept f := by
  have hn : ∀ l ∈ f, Nk l := fun l hl => up_nk (hv l hl)
  have ms : ∀ l, l ∈ srt (ddp f) ↔ l ∈ f := fun l => (srt_perm _).mem_iff.trans mem_ddp
  refine fam_ext ((srt_lt (ddp_nd f)).filter _) (kept_cn hn).lt fun l => ?_
  unfold leastL
  rw [List.mem_filter, ms]
  constructor
  · rintro ⟨hl, hm⟩
    obtain ⟨n, h1, h2⟩ := kept_cov hn l hl
    by_cases e : n = l
    · rw [← e]; exact h1
    · have z : (srt (ddp f)).any (fun n => decide (n ≠ l) && under n l) = true := List.any_eq_true.mpr ⟨n, (ms n).mpr (kept_sub h1), by rw [decide_eq_true e, h2]; rfl⟩
      rw [z] at hm; cases hm
  · intro hl
    refine ⟨kept_sub hl, ?_⟩
    cases z : (srt (ddp f)).any fun n => decide (n ≠ l) && under n l with
    | false => rfl
    | true =>
      obtain ⟨n, h1, h2⟩ := List.any_eq_true.mp z
      rw [Bool.and_eq_true] at h2
      have hnf := (ms n).mp h1
      obtain ⟨m, h3, h4⟩ := kept_cov hn n hnf
      have e := (kept_cn hn).anti m h3 l hl (under_trans h4 h2.2)
      subst e
      exact absurd (under_anti (hv n hnf) (hv m (kept_sub h3)) h2.2 h4) (of_decide_eq_true h2.1)
end K3
/-! TEXT M5 -/
set_option Elab.async false
set_option linter.all false
set_option maxRecDepth 100000
set_option maxHeartbeats 1000000
namespace K3
open PySem PySem.W
/-! what a family says of a content: the least over its lots of the greatest over the lot -/
def xv (x : List Int) (i : Int) : Int := x.getD i.toNat 0
def LeL (l : Lot) (x : List Int) (t : Int) : Prop := ∀ p ∈ l, xv x p.1 + p.2 ≤ t
def Le (f : Fam) (x : List Int) (t : Int) : Prop := ∃ l ∈ f, LeL l x t
theorem leL_under {a b : Lot} {x : List Int} {t : Int} (h : under a b = true) (hb : LeL b x t) : LeL a x t := fun p hp => by
  obtain ⟨v, e, hv⟩ := under_iff.mp h p hp
  have h1 : xv x p.1 + v ≤ t := hb _ (getI_mem e)
  omega
theorem le_kept {f : Fam} {x : List Int} {t : Int} (hn : ∀ l ∈ f, Nk l) : Le (kept f) x t ↔ Le f x t :=
  ⟨fun ⟨l, h1, h2⟩ => ⟨l, kept_sub h1, h2⟩, fun ⟨l, h1, h2⟩ => by
    obtain ⟨n, h3, h4⟩ := kept_cov hn l h1
    exact ⟨n, h3, leL_under h4 h2⟩⟩
theorem le_app {f g : Fam} {x : List Int} {t : Int} : Le (f ++ g) x t ↔ Le f x t ∨ Le g x t :=
  ⟨fun ⟨l, h1, h2⟩ => (List.mem_append.mp h1).elim (fun h => .inl ⟨l, h, h2⟩) fun h => .inr ⟨l, h, h2⟩, fun h => h.elim (fun ⟨l, h1, h2⟩ => ⟨l, List.mem_append_left _ h1, h2⟩) fun ⟨l, h1, h2⟩ => ⟨l, List.mem_append_right _ h1, h2⟩⟩
theorem leL_get {l : Lot} {x : List Int} {t : Int} (hn : Nk l) : LeL l x t ↔ ∀ k v, getI l k = some v → xv x k + v ≤ t :=
  ⟨fun h k v e => h _ (getI_mem e), fun h p hp => h p.1 p.2 (getI_of_mem hn hp)⟩
theorem leL_join {n : Int} {a b : Lot} {x : List Int} {t : Int} (ha : Vl n a) (hb : Vl n b) : LeL (join a b) x t ↔ LeL a x t ∧ LeL b x t := by
  have na := up_nk ha.up
  have nb := up_nk hb.up
  rw [leL_get (up_nk (ha.join hb).up), leL_get na, leL_get nb]
  constructor
  · intro h
    refine ⟨fun k v e => ?_, fun k v e => ?_⟩
    · have g := getI_join na nb k
      rw [e] at g
      cases q : getI b k with
      | none => rw [q] at g; exact h k v g
      | some w =>
        rw [q] at g
        have := h k (max v w) g
        omega
    · have g := getI_join na nb k
      rw [e] at g
      cases q : getI a k with
      | none => rw [q] at g; exact h k v g
      | some w =>
        rw [q] at g
        have := h k (max w v) g
        omega
  · rintro ⟨h1, h2⟩ k v e
    rw [getI_join na nb] at e
    cases q : getI a k with
    | none =>
      cases q2 : getI b k with
      | none => rw [q, q2] at e; cases e
      | some w => rw [q, q2] at e; cases e; exact h2 k _ q2
    | some u =>
      cases q2 : getI b k with
      | none => rw [q, q2] at e; cases e; exact h1 k _ q
      | some w =>
        rw [q, q2] at e
        cases e
        have := h1 k _ q
        have := h2 k _ q2
        omega
theorem le_joins {n : Int} {f g : Fam} {x : List Int} {t : Int} (hf : ∀ l ∈ f, Vl n l) (hg : ∀ l ∈ g, Vl n l) : Le (joins f g) x t ↔ Le f x t ∧ Le g x t := by
  unfold joins
  rw [le_kept fun l hl => up_nk (Vl.all_join hf hg l hl).up]
  constructor
  · rintro ⟨l, h1, h2⟩
    obtain ⟨a, h3, b, h4, rfl⟩ := mem_joinsAll.mp h1
    obtain ⟨h5, h6⟩ := (leL_join (hf a h3) (hg b h4)).mp h2
    exact ⟨⟨a, h3, h5⟩, ⟨b, h4, h6⟩⟩
  · rintro ⟨⟨a, h3, h5⟩, ⟨b, h4, h6⟩⟩
    exact ⟨join a b, mem_joinsAll.mpr ⟨a, h3, b, h4, rfl⟩, (leL_join (hf a h3) (hg b h4)).mpr ⟨h5, h6⟩⟩
abbrev rse (l : Lot) (c : Int) : Lot := l.map fun p => (p.1, p.2 + c)
theorem le_raised {f : Fam} {c : Int} {x : List Int} {t : Int} : Le (raised f c) x t ↔ Le f x (t - c) := by
  unfold raised Le
  constructor
  · rintro ⟨l, h1, h2⟩
    obtain ⟨a, ha, rfl⟩ := List.mem_map.mp h1
    refine ⟨a, ha, fun p hp => ?_⟩
    have := h2 (p.1, p.2 + c) (List.mem_map.mpr ⟨p, hp, rfl⟩)
    simp only at this
    omega
  · rintro ⟨a, ha, h⟩
    refine ⟨_, List.mem_map.mpr ⟨a, ha, rfl⟩, fun p hp => ?_⟩
    obtain ⟨q, hq, rfl⟩ := List.mem_map.mp hp
    have := h q hq
    simp only
    omega
/-! raised families stay as they are kept -/
def ltR : Lot → Lot → Bool
  | [], [] => false
  | [], _ :: _ => true
  | _ :: _, [] => false
  | p :: a, q :: b => if p = q then ltR a b else decide (p.1 < q.1 ∨ (p.1 = q.1 ∧ p.2 < q.2))
theorem lex_ltR : ∀ a b : Lot, PyProof.Rows.lexLt PyProof.Rows.itemOrd (keyToksAll (a.map pairD)) (keyToksAll (b.map pairD)) = ltR a b
  | [], [] => PyProof.Rows.lex_irrefl _
  | [], q :: b => by
    rw [List.map_nil, List.map_cons, toks_all_cons, keyToksAll]
    rw [PyProof.Rows.lex_diff (O := PyProof.Rows.itemOrd) (by simp)]
    rfl
  | p :: a, [] => by
    rw [List.map_nil, List.map_cons, toks_all_cons, keyToksAll]
    rw [PyProof.Rows.lex_diff (O := PyProof.Rows.itemOrd) (by simp)]
    rfl
  | p :: a, q :: b => by
    rw [List.map_cons, List.map_cons, dataLt_cons (pr_alike p q), pr_eqv]
    unfold ltR
    by_cases h : p = q
    · rw [if_pos (decide_eq_true h), if_pos h, lex_ltR a b]
    · rw [if_neg (by simpa using h), if_neg h]
      exact dataLt_ii p.1 p.2 q.1 q.2
theorem ltR_rse (c : Int) : ∀ a b : Lot, ltR (rse a c) (rse b c) = ltR a b
  | [], [] => rfl
  | [], _ :: _ => rfl
  | _ :: _, [] => rfl
  | p :: a, q :: b => by
    have ih := ltR_rse c a b
    show (if (p.1, p.2 + c) = (q.1, q.2 + c) then ltR (rse a c) (rse b c) else _) = (if p = q then ltR a b else _)
    by_cases h : p = q
    · rw [if_pos (by rw [h]), if_pos h, ih]
    · have h2 : ¬ ((p.1, p.2 + c) = (q.1, q.2 + c)) := fun z => h (by
        simp only [Prod.mk.injEq] at z
        exact Prod.ext z.1 (by omega))
      rw [if_neg h2, if_neg h]
      have e : (p.1 < q.1 ∨ (p.1 = q.1 ∧ p.2 + c < q.2 + c)) ↔ (p.1 < q.1 ∨ (p.1 = q.1 ∧ p.2 < q.2)) := by omega
      exact decide_eq_decide.mpr e
theorem leL_ltR (a b : Lot) : leL a b = !ltR b a := by
  show (!PyProof.Rows.lexLt PyProof.Rows.itemOrd (keyToks (encL b)) (keyToks (encL a))) = _
  rw [encL, encL, keyToks, keyToks, lex_ltR]
theorem leL_rse (a b : Lot) (c : Int) : leL (rse a c) (rse b c) = leL a b := by rw [leL_ltR, leL_ltR, ltR_rse]
theorem rse_inj {a b : Lot} {c : Int} (h : rse a c = rse b c) : a = b := by
  have inj : Function.Injective fun p : Int × Int => (p.1, p.2 + c) := fun p q e => by
    simp only [Prod.mk.injEq] at e
    exact Prod.ext e.1 (by omega)
  induction a generalizing b with
  | nil => cases b with
    | nil => rfl
    | cons _ _ => cases h
  | cons p a ih => cases b with
    | nil => cases h
    | cons q b =>
      have h := List.cons.inj h
      rw [inj h.1, ih h.2]
theorem getI_rse (c k : Int) : ∀ l : Lot, getI (rse l c) k = (getI l k).map (· + c)
  | [] => rfl
  | p :: l => by
    show getI ((p.1, p.2 + c) :: rse l c) k = _
    rw [getI_cons, getI_cons, getI_rse c k l]
    by_cases h : p.1 = k
    · rw [if_pos h, if_pos h]; rfl
    · rw [if_neg h, if_neg h]
theorem under_rse {a b : Lot} {c : Int} (h : under (rse a c) (rse b c) = true) : under a b = true := under_iff.mpr fun p hp => by
  obtain ⟨v, e, hv⟩ := under_iff.mp h (p.1, p.2 + c) (List.mem_map.mpr ⟨p, hp, rfl⟩)
  rw [getI_rse] at e
  cases q : getI b p.1 with
  | none => rw [show ((p.1, p.2 + c) : Int × Int).1 = p.1 from rfl, q] at e; cases e
  | some w =>
    rw [show ((p.1, p.2 + c) : Int × Int).1 = p.1 from rfl, q] at e
    cases e
    exact ⟨w, rfl, by have : p.2 + c ≤ w + c := hv; omega⟩
theorem cn_raised {f : Fam} (h : Cn f) (c : Int) : Cn (raised f c) := by
  refine ⟨?_, fun a ha b hb hu => ?_⟩
  · unfold raised
    rw [List.pairwise_map]
    exact h.lt.imp fun {a b} ⟨h1, h2⟩ => ⟨by rw [leL_rse]; exact h1, fun e => h2 (rse_inj e)⟩
  · obtain ⟨a', ha', rfl⟩ := List.mem_map.mp ha
    obtain ⟨b', hb', rfl⟩ := List.mem_map.mp hb
    rw [h.anti a' ha' b' hb' (under_rse hu)]
/-! rows as they are told -/
structure Wf (n : Nat) (f : Fam) : Prop where
  ne : f ≠ []
  vl : ∀ l ∈ f, Vl n l
  cn : Cn f
theorem Wf.up {n : Nat} {f : Fam} (h : Wf n f) : ∀ l ∈ f, Up l := fun l hl => (h.vl l hl).up
theorem Wf.nk {n : Nat} {f : Fam} (h : Wf n f) : ∀ l ∈ f, Nk l := fun l hl => up_nk (h.vl l hl).up
theorem Wf.keep {n : Nat} {f : Fam} (h : f ≠ []) (hv : ∀ l ∈ f, Vl n l) : Wf n (kept f) := by
  have hn : ∀ l ∈ f, Nk l := fun l hl => up_nk (hv l hl).up
  exact ⟨kept_ne hn h, fun l hl => hv l (kept_sub hl), kept_cn hn⟩
theorem Wf.two {n : Nat} {f g : Fam} (hf : Wf n f) (hg : Wf n g) : Wf n (kept (f ++ g)) :=
  Wf.keep (fun e => hf.ne (List.append_eq_nil_iff.mp e).1) fun l hl => (List.mem_append.mp hl).elim (hf.vl l) (hg.vl l)
theorem Wf.joins {n : Nat} {f g : Fam} (hf : Wf n f) (hg : Wf n g) : Wf n (joins f g) := by
  refine Wf.keep (fun e => ?_) (Vl.all_join hf.vl hg.vl)
  obtain ⟨a, r, ea⟩ := List.exists_cons_of_ne_nil hf.ne
  obtain ⟨b, r2, eb⟩ := List.exists_cons_of_ne_nil hg.ne
  have := mem_joinsAll.mpr ⟨a, ea ▸ List.mem_cons_self, b, eb ▸ List.mem_cons_self, rfl⟩
  rw [e] at this; cases this
theorem Wf.raised {n : Nat} {f : Fam} (hf : Wf n f) (c : Int) : Wf n (raised f c) := ⟨fun e => hf.ne (List.map_eq_nil_iff.mp e), Vl.all_raise hf.vl c, cn_raised hf.cn c⟩
structure Wt (n : Nat) (t : List Fam) : Prop where
  len : t.length = n
  wf : ∀ f ∈ t, Wf n f
theorem Wt.at_ {n : Nat} {t : List Fam} (h : Wt n t) {i : Int} (h0 : 0 ≤ i) (h1 : i < n) : Wf n (at_ t i) := by
  refine h.wf _ ?_
  unfold K3.at_
  have := h.len
  rw [List.getD_eq_getElem?_getD, List.getElem?_eq_getElem (by omega)]
  exact List.getElem_mem _
theorem Wt.set {n : Nat} {t : List Fam} (h : Wt n t) (i : Nat) {f : Fam} (hf : Wf n f) : Wt n (t.set i f) :=
  ⟨by rw [List.length_set]; exact h.len, fun g hg => (List.mem_or_eq_of_mem_set hg).elim (h.wf g) fun e => e ▸ hf⟩
theorem told0_wt (n : Nat) : Wt n (told0 n) := by
  refine ⟨by unfold told0; rw [List.length_map, List.length_range], fun f hf => ?_⟩
  obtain ⟨i, hi, rfl⟩ := List.mem_map.mp hf
  have hi := List.mem_range.mp hi
  refine ⟨by simp, fun l hl => ?_, ⟨List.pairwise_singleton _ _, fun a ha b hb _ => by rw [List.mem_singleton.mp ha, List.mem_singleton.mp hb]⟩⟩
  rw [List.mem_singleton.mp hl]
  exact ⟨by simp, List.pairwise_singleton _ _, fun p hp => by rw [List.mem_singleton.mp hp]; exact ⟨by simp, by simp; omega⟩⟩
theorem toldStep_wt {n : Nat} {t : List Fam} {g : Gate} (h : Wt n t) (hg : Vg n g) : Wt n (toldStep t g) := by
  have w1 := h.at_ hg.one.1 hg.one.2
  unfold toldStep
  cases hk : g.kind with
  | add => exact h.set _ (w1.raised _)
  | copy =>
    have ho := hg.other (by rw [hk]; simp)
    exact h.set _ (h.at_ ho.1 ho.2.1)
  | high =>
    have ho := hg.other (by rw [hk]; simp)
    exact h.set _ (w1.joins (h.at_ ho.1 ho.2.1))
  | low =>
    have ho := hg.other (by rw [hk]; simp)
    exact h.set _ (w1.two (h.at_ ho.1 ho.2.1))
  | sort =>
    have ho := hg.other (by rw [hk]; simp)
    exact (h.set _ (w1.two (h.at_ ho.1 ho.2.1))).set _ (w1.joins (h.at_ ho.1 ho.2.1))
theorem told_snoc (n : Nat) (gs : List Gate) (g : Gate) : told n (gs ++ [g]) = toldStep (told n gs) g := by
  unfold told
  rw [List.foldl_append] <;> rfl
theorem run_snoc (gs : List Gate) (g : Gate) (x : List Int) : runG (gs ++ [g]) x = doStep (runG gs x) g := by
  unfold runG
  rw [List.foldl_append] <;> rfl
theorem told_wt {n : Nat} {gs : List Gate} (hg : ∀ g ∈ gs, Vg n g) : Wt n (told n gs) := by
  have key : ∀ (gs : List Gate) (t : List Fam), Wt n t → (∀ g ∈ gs, Vg n g) → Wt n (gs.foldl toldStep t) := by
    intro gs
    induction gs with
    | nil => intro t h _; exact h
    | cons g gs ih => intro t h hv; exact ih _ (toldStep_wt h (hv g List.mem_cons_self)) fun x hx => hv x (List.mem_cons_of_mem _ hx)
  exact key gs _ (told0_wt n) hg
/-! what nets do is what the rows say -/
theorem at_set {t : List Fam} {i j : Int} {f : Fam} (h0 : 0 ≤ i) (h1 : i < t.length) (h2 : 0 ≤ j) : at_ (t.set i.toNat f) j = if i = j then f else at_ t j := by
  unfold at_
  rw [List.getD_eq_getElem?_getD, List.getD_eq_getElem?_getD]
  by_cases e : i = j
  · subst e
    rw [if_pos rfl, List.getElem?_set_self (by omega)]; rfl
  · rw [if_neg e, List.getElem?_set_ne (by omega)]
theorem xv_set {x : List Int} {i j : Int} {v : Int} (h0 : 0 ≤ i) (h1 : i < x.length) (h2 : 0 ≤ j) : xv (x.set i.toNat v) j = if i = j then v else xv x j := by
  unfold xv
  rw [List.getD_eq_getElem?_getD, List.getD_eq_getElem?_getD]
  by_cases e : i = j
  · subst e
    rw [if_pos rfl, List.getElem?_set_self (by omega)]; rfl
  · rw [if_neg e, List.getElem?_set_ne (by omega)]
def SemR (n : Nat) (y x : List Int) (t : List Fam) : Prop := ∀ i : Int, 0 ≤ i → i < n → ∀ v, xv y i ≤ v ↔ Le (at_ t i) x v
theorem sem_step {n : Nat} {y x : List Int} {t : List Fam} {g : Gate} (h : SemR n y x t) (hy : y.length = n) (hw : Wt n t) (hg : Vg n g) : SemR n (doStep y g) x (toldStep t g) := by
  intro i h0 h1 v
  have hl := hw.len
  have o0 := hg.one.1
  have o1 := hg.one.2
  have s1 := h g.one o0 o1
  have w1 := hw.at_ o0 o1
  unfold doStep toldStep
  cases hk : g.kind with
  | add =>
    show xv (y.set _ (xv y g.one + g.other)) i ≤ v ↔ _
    rw [xv_set o0 (by omega) h0, at_set o0 (by omega) h0]
    by_cases e : g.one = i
    · rw [if_pos e, if_pos e, le_raised, ← s1]; omega
    · rw [if_neg e, if_neg e]; exact h i h0 h1 v
  | copy =>
    have ho := hg.other (by rw [hk]; simp)
    show xv (y.set _ (xv y g.other)) i ≤ v ↔ _
    rw [xv_set o0 (by omega) h0, at_set o0 (by omega) h0]
    by_cases e : g.one = i
    · rw [if_pos e, if_pos e]; exact h _ ho.1 ho.2.1 v
    · rw [if_neg e, if_neg e]; exact h i h0 h1 v
  | high =>
    have ho := hg.other (by rw [hk]; simp)
    have w2 := hw.at_ ho.1 ho.2.1
    show xv (y.set _ (max (xv y g.one) (xv y g.other))) i ≤ v ↔ _
    rw [xv_set o0 (by omega) h0, at_set o0 (by omega) h0]
    by_cases e : g.one = i
    · rw [if_pos e, if_pos e, le_joins w1.vl w2.vl, ← s1, ← h _ ho.1 ho.2.1]; omega
    · rw [if_neg e, if_neg e]; exact h i h0 h1 v
  | low =>
    have ho := hg.other (by rw [hk]; simp)
    have w2 := hw.at_ ho.1 ho.2.1
    show xv (y.set _ (min (xv y g.one) (xv y g.other))) i ≤ v ↔ _
    rw [xv_set o0 (by omega) h0, at_set o0 (by omega) h0]
    by_cases e : g.one = i
    · rw [if_pos e, if_pos e, le_kept (fun l hl => up_nk ((List.mem_append.mp hl).elim (w1.up l) (w2.up l))), le_app, ← s1, ← h _ ho.1 ho.2.1]; omega
    · rw [if_neg e, if_neg e]; exact h i h0 h1 v
  | sort =>
    have ho := hg.other (by rw [hk]; simp)
    have w2 := hw.at_ ho.1 ho.2.1
    show xv ((y.set _ (min (xv y g.one) (xv y g.other))).set _ (max (xv y g.one) (xv y g.other))) i ≤ v ↔ _
    rw [xv_set ho.1 (by rw [List.length_set]; omega) h0, at_set ho.1 (by rw [List.length_set]; omega) h0, xv_set o0 (by omega) h0, at_set o0 (by omega) h0]
    by_cases e2 : g.other = i
    · rw [if_pos e2, if_pos e2, le_joins w1.vl w2.vl, ← s1, ← h _ ho.1 ho.2.1]; omega
    · rw [if_neg e2, if_neg e2]
      by_cases e : g.one = i
      · rw [if_pos e, if_pos e, le_kept (fun l hl => up_nk ((List.mem_append.mp hl).elim (w1.up l) (w2.up l))), le_app, ← s1, ← h _ ho.1 ho.2.1]; omega
      · rw [if_neg e, if_neg e]; exact h i h0 h1 v
theorem doStep_len' (x : List Int) (g : Gate) : (doStep x g).length = x.length := by
  unfold doStep
  cases g.kind <;> simp
theorem sem_run {n : Nat} {gs : List Gate} {x : List Int} (hg : ∀ g ∈ gs, Vg n g) (hx : x.length = n) : SemR n (runG gs x) x (told n gs) := by
  have key : ∀ (gs : List Gate) (y : List Int) (t : List Fam), y.length = n → Wt n t → SemR n y x t → (∀ g ∈ gs, Vg n g) → SemR n (gs.foldl doStep y) x (gs.foldl toldStep t) := by
    intro gs
    induction gs with
    | nil => intro y t _ _ h _; exact h
    | cons g gs ih => intro y t hy hw h hv; exact ih _ _ (by rw [doStep_len']; exact hy) (toldStep_wt hw (hv g List.mem_cons_self)) (sem_step h hy hw (hv g List.mem_cons_self)) fun x hx => hv x (List.mem_cons_of_mem _ hx)
  refine key gs x _ hx (told0_wt n) (fun i h0 h1 v => ?_) hg
  have e : at_ (told0 n) i = [[(i, 0)]] := by
    unfold at_ told0
    rw [List.getD_eq_getElem?_getD, List.getElem?_map, List.getElem?_range (by omega)]
    show [[((i.toNat : Int), (0 : Int))]] = _
    rw [Int.toNat_of_nonneg h0]
  rw [e]
  constructor
  · intro h
    exact ⟨_, List.mem_singleton.mpr rfl, fun p hp => by rw [List.mem_singleton.mp hp]; simp; exact h⟩
  · rintro ⟨l, h2, h3⟩
    rw [List.mem_singleton.mp h2] at h3
    have := h3 _ (List.mem_singleton.mpr rfl)
    simp at this; exact this
end K3
/-! TEXT F14 -/
set_option Elab.async false
set_option linter.all false
set_option maxRecDepth 100000
set_option maxHeartbeats 1000000
namespace K3
open PySem PySem.Spec L2
section
variable {P : Program} {w : World} {K : PySem.W.Frag} {mg : Str → Option Value} {base : Heap}
def gate0 : Gate := ⟨.add, 0, 0⟩
def exch (gs : List Gate) (p : Nat) : List Gate := gs.take p ++ [gs.getD (p + 1) gate0, gs.getD p gate0] ++ gs.drop (p + 2)
theorem exch_len {gs : List Gate} {p : Nat} (h : p + 1 < gs.length) : (exch gs p).length = gs.length := by
  unfold exch
  simp; omega
theorem getD_mem {gs : List Gate} {p : Nat} (h : p < gs.length) : gs.getD p gate0 ∈ gs := by
  rw [List.getD_eq_getElem?_getD, List.getElem?_eq_getElem h]
  exact List.getElem_mem _
theorem mem_exch {gs : List Gate} {p : Nat} (h : p + 1 < gs.length) {x : Gate} (hx : x ∈ exch gs p) : x ∈ gs := by
  unfold exch at hx
  rcases List.mem_append.mp hx with hx | hx
  · rcases List.mem_append.mp hx with hx | hx
    · exact List.mem_of_mem_take hx
    · rcases List.mem_cons.mp hx with e | hx
      · rw [e]; exact getD_mem h
      · rw [List.mem_singleton.mp hx]; exact getD_mem (by omega)
  · exact List.mem_of_mem_drop hx
theorem atG {gs : List Gate} {p : Nat} (h : p < gs.length) {i : Int} (hi : i = (p : Int)) : atI (gs.map encG) i = some (encG (gs.getD p gate0)) := by
  subst hi
  exact atI_map encG (atI_ok (Int.natCast_nonneg p) (by rw [Int.toNat_natCast, List.getD_eq_getElem?_getD, List.getElem?_eq_getElem h] <;> rfl))
theorem cm_exch (T : Tx K mg) (n : Nat) (gs : List Gate) (p : Nat) (h0 : 1 ≤ n) (hn : n ≤ 12) (hg : ∀ g ∈ gs, Vg n g) (hz : gs.length ≤ 400) (hp : p + 1 < gs.length) : CM P w K mg base (cN K) "exchanged" ["self", "position"] 8 (spD none [K3.IsD (netD K n gs), K3.IsD (.int p)] (K3.IsD (netD K n (exch gs p)))) := by
  obtain ⟨fd, h1, h2⟩ : ∃ fd, Binds K fd ["self", "position"] [] ∧ FnOk P w K mg base CX0 8 (He.ma K (He.ga K "Net") "exchanged") fd ["self", "position"] (spD none [K3.IsD (netD K n gs), K3.IsD (.int p)] (K3.IsD (netD K n (exch gs p)))) :=
    cm_mk T 58 (d := d_Net_exchanged) rfl rfl rfl rfl (m_exch T) (fun _ _ _ _ _ _ us hl => match us, hl with | [_, _], _ => rfl) fun fa fdd FF => by
      refine fn_ok FF sc_Net_exchanged rfl fun cdv A outer s E0 B H vs Q hr S E q => ?_
      refine ws_expr S (ev_call (cl_want_position T (((gs.map encG).length : Nat) - 1) p (by omega) (by rw [List.length_map]; omega)) hr (ea2 (ev_sub (ev_lenT (T_free T) (ev_fld (cls_N T) (na_gates T) (ev_v E 0) rfl)) ev_int) (ev_v E 1))) (fun B2 H2 s2 S => ?_)
      have E := E.mono s2.b
      refine ws_setM S E 2 (em_meth0 (cls_N T) (cm_gates T n gs) hr (ev_v E 0)) (fun p1 B1 H1 s1 S n1 n2 M E => ?_) sc_Net_exchanged.nd
      refine ws_setsl S M n2 (EvM.ev (em_lst [encG (gs.getD (p + 1) gate0), encG (gs.getD p gate0)] (ea2 (ev_ixM M (ev_v E 2) (ev_add (ev_v E 1) ev_int) (atG hp (by omega))) (ev_ixM M (ev_v E 2) (ev_v E 1) (atG (by omega) rfl))) (Nat.le_of_ble_eq_true rfl))) (ev_v E 2) (ev_v E 1) (ev_add (ev_v E 1) ev_int) (by omega) (by omega) (by rw [List.length_map]; omega) (by rw [List.length_map]; simp; omega) (fun B3 H3 sb3 S M => ?_)
      have E := E.mono sb3
      obtain ⟨B5, sb5, S5, r5⟩ := M.frz S n2
      have E5 := (E.mono sb5).re (R := K3.IsD _) 2 rfl r5
      refine ws_ret S5 (ev_make (ci_NetL T n (exch gs p) h0 hn (fun x hx => hg x (mem_exch hp hx)) (by rw [exch_len hp]; exact hz)) hr (ea2 (ev_fld (cls_N T) (na_lanes T) (ev_v E5 0) rfl) (Ev.cast (ev_v E5 2) ?_))) q
      unfold exch
      rw [List.map_append, List.map_append, List.map_take, List.map_drop, Int.toNat_natCast, show ((p : Int) + 2).toNat = p + 2 by omega]; rfl
  exact ⟨_, fd, m_exch T, h1, h2⟩
/-! ### Family, Map -/
theorem ci_Fam (T : Tx K mg) (f : Fam) (hv : ∀ l ∈ f, Vl 12 l) (hf0 : f ≠ []) (hz : f.length ≤ 200) (hz2 : (kept f).length ≤ 60) : CI P w K mg base "Family" (cF K) ["self", "lots"] 6 (spI (cF K) [K3.IsD (encF f)] ["own_lots"] [encF (kept f)]) := by
  obtain ⟨fd, h1, h2⟩ : ∃ fd, Binds K fd ["self", "lots"] [] ∧ FnOk P w K mg base CX0 6 (He.ma K (He.ga K "Family") "__init__") fd ["self", "lots"] (spI (cF K) [K3.IsD (encF f)] ["own_lots"] [encF (kept f)]) :=
    cm_mk T 48 (d := d_FamilyZ_initZ) rfl rfl rfl rfl (He.meth_ok (in_F T 4)) (fun _ _ _ _ _ _ us hl => match us, hl with | [_, _], _ => rfl) fun fa fdd FF => by
      refine fn_okI FF sc_FamilyZ_initZ rfl fun cdv A outer s E0 Bb Hb B H x dx vs Q hr S h0 M E q => ?_
      refine ws_expr S (ev_call (cl_want_lots T f hv hf0 hz) hr (ea1 (ev_v E 1))) (fun B2 H2 s2 S => ?_)
      have E := E.mono s2.b
      have M := M.mono s2
      refine ws_fld (cls_F T) (na_lots T) S M h0 (ev_call (cl_limited T _ hz2) hr (ea1 (EvM.ev (em_call (cl_kept_lots T f hv (by omega)) hr (ea2 (ev_v E 1) ev_bl))))) (ev_v E 0) (Nat.zero_lt_succ _) (fun v B4 H4 sb4 S M r4 => ws_nil (q [v] B4 H4 S M (.cons r4 .nil)))
  exact ⟨_, fd, g_Family T, mk_F T, h1, h2⟩
theorem fam_inj {K : PySem.W.Frag} {f g : Fam} (h : famD K f = famD K g) : f = g := by
  have e : encF f = encF g := by
    have h1 := PyData.dict.inj h
    have h2 := (List.cons.inj h1).2
    simpa using h2
  have z := f_eqv f g
  rw [e] at z
  have z2 := f_eqv g g
  rw [z2] at z
  simpa using z
theorem ex_eqF (T : Tx K mg) : ∃ fd, Binds K fd ["self", "other"] [] ∧ ∀ a : Fam × Fam, FnOk P w K mg base CX0 2 (He.ma K (cF K) "__eq__") fd ["self", "other"] (spD none [K3.IsD (famD K a.1), K3.IsD (famD K a.2)] (K3.IsD (.bool (decide (a.1 = a.2))))) :=
  cm_mkA T 49 (d := d_FamilyZ_eqZ) rfl rfl rfl rfl (fun _ _ _ _ _ _ us hl => match us, hl with | [_, _], _ => rfl) fun fa fdd FF a => by
    refine fn_ok FF sc_FamilyZ_eqZ rfl fun cdv A outer s E0 B H vs Q hr S E q => ?_
    refine ws_ret S (Ev.cast (ev_and2 (ev_isiO (cls_F T) (cls_x (ex_p T).xF).1 (ex_p T).gs (ex_p T).tk (cls_x (ex_p T).xF).2 (T_free T) (g_Family T) (ev_v E 1)) (fun _ => ev_cmp (cm_eqD hr (f_shp a.1) (f_shp a.2)) (ev_fld (cls_F T) (na_lots T) (ev_v E 0) rfl) (ev_fld (cls_F T) (na_lots T) (ev_v E 1) rfl))) ?_) q
    rw [f_eqv]; rfl
theorem rc_Fam (T : Tx K mg) {X : Cx} (hX : X.K = K) (hm : X.mg = mg) : RcGb X 2 (DInsb (cF K) (RIns (fun _ _ => True) (famD K))) := by
  subst hX
  subst hm
  obtain ⟨fd, h1, h2⟩ := ex_eqF (P := X.prog) (w := X.w) (base := X.base) T
  exact rc_ins h1 (fun x y _ => h2 (x, y)) (m_eqF T).at_ (m_eqF T).fn
theorem cl_fits (T : Tx K mg) (n : Nat) (f : Fam) (hv : ∀ l ∈ f, l ≠ []) (h : lanesFor f ≤ n) : Cl P w K mg base "fits" ["lanes", "family"] 2 (spD none [K3.IsD (.int n), K3.IsD (famD K f)] (K3.IsD (.bool true))) :=
  cl_mk T 23 (d := d_fits) rfl rfl rfl rfl (by decide +kernel) (fun _ _ _ _ _ _ us hl => match us, hl with | [_, _], _ => rfl) fun fa fdd FF => by
    refine fn_ok FF sc_fits rfl fun cdv A outer s E0 B H vs Q hr S E q => ?_
    refine ws_ret S (Ev.cast (ev_and2 (ev_isiO (cls_F T) (cls_x (ex_p T).xF).1 (ex_p T).gs (ex_p T).tk (cls_x (ex_p T).xF).2 (T_free T) (g_Family T) (ev_v E 1)) (fun _ => ev_cmp cm_le (ev_call (cl_lanes_for T f hv) hr (ea1 (ev_fld (cls_F T) (na_lots T) (ev_v E 1) rfl))) (ev_v E 0))) ?_) q
    rw [decide_eq_true h]; rfl
theorem ci_Map (T : Tx K mg) (t : List Fam) (ht0 : t ≠ []) (hn : t.length ≤ 12) (hv : ∀ f ∈ t, (∀ l ∈ f, l ≠ []) ∧ lanesFor f ≤ t.length) : CI P w K mg base "Map" (cM K) ["self", "families"] 4 (spI (cM K) [K3.IsD (.list (t.map (famD K)))] ["own_families"] [.list (t.map (famD K))]) := by
  obtain ⟨fd, h1, h2⟩ : ∃ fd, Binds K fd ["self", "families"] [] ∧ FnOk P w K mg base CX0 4 (He.ma K (He.ga K "Map") "__init__") fd ["self", "families"] (spI (cM K) [K3.IsD (.list (t.map (famD K)))] ["own_families"] [.list (t.map (famD K))]) :=
    cm_mk T 50 (d := d_MapZ_initZ) rfl rfl rfl rfl (He.meth_ok (in_M T 4)) (fun _ _ _ _ _ _ us hl => match us, hl with | [_, _], _ => rfl) fun fa fdd FF => by
      refine fn_okI FF sc_MapZ_initZ rfl fun cdv A outer s E0 Bb Hb B H x dx vs Q hr S h0 M E q => ?_
      have hl : 0 < t.length := List.length_pos_iff.mpr ht0
      refine ws_no S ((et_or2 (et_not (et_val (ev_call (cl_is_list T (.list (t.map (famD K))) rfl) hr (ea1 (ev_v E 1))))) fun _ => et_cmp cm_eqI (ev_lenL (T_free T) (ev_v E 1)) ev_int).cast ?_) fun B1 H1 s1 S => ?_
      · rw [List.length_map, decide_eq_false (by omega)]; rfl
      have E := E.mono s1.b
      have M := M.mono s1
      refine ws_for (xs := t.mapIdx fun i x => (i, x)) (enc := fun p => .tuple [.int (p.1 : Int), famD K p.2]) (u := fun p Γ => (Γ.set 2 (some (K3.IsD (.int (p.1 : Int))))).set 3 (some (K3.IsD (famD K p.2)))) S ?_ (pg_tup rfl (pgs_cons (pg_name (i := 2) sc_MapZ_initZ.nd rfl (by first | exact Or.inl rfl | exact Or.inr rfl)) (pgs_cons (pg_name (i := 3) sc_MapZ_initZ.nd rfl (by first | exact Or.inl rfl | exact Or.inr rfl)) pgs_nil))) (fun x _ => tg2) rfl PassesOwn.never
        (fun _ => [some (IsV (.ref x)), some (K3.IsD (.list (t.map (famD K)))), none, none]) (fun _ B H => MuO none B H x (.ins (cM K) dx [])) (fun _ _ _ _ _ s M => M.mono s) (fun B1 H1 s1 S => ⟨E.mono s1.b, M.mono s1⟩) (fun i z σ1 B2 H2 hx S2 sb E2 M2 => ?_) (fun σ1 B2 H2 S2 sb E2 M2 => ?_)
      · rw [← enum_map]
        exact wk_enum (T_free T) (ev_v E 1)
      · have hm := hv z.2 (mem_enum (List.mem_of_getElem? hx))
        refine ws_no S2 (et_nT (et_val (Ev.cast (ev_call (cl_fits T t.length z.2 hm.1 hm.2) hr (ea2 (Ev.cast (ev_lenL (T_free T) (ev_v E2 1)) (by rw [List.length_map])) (ev_v E2 3))) rfl))) fun B3 H3 s3 S3 => ws_nil ⟨B3, s3.b, S3, (E2.mono s3.b).to, M2.mono s3⟩
      · refine ws_no S2 ((et_cmp cm_gt (ev_lenL (T_free T) (ev_v E2 1)) (ev_cval (g_Map T) (cval_ok (ex_p T).v3).1 (cval_ok (ex_p T).v3).2)).cast ?_) fun B3 H3 s3 S => ?_
        · rw [List.length_map]; exact decide_eq_false (by omega)
        have E := E2.mono s3.b
        have M := M2.mono s3
        refine ws_fld (cls_M T) (na_fams T) S M h0 (EvM.ev (em_listL (T_free T) (ev_v E 1))) (ev_v E 0) (Nat.zero_lt_succ _) (fun v B4 H4 sb4 S M r4 => ws_nil (q [v] B4 H4 S M (.cons r4 .nil)))
  exact ⟨_, fd, g_Map T, mk_M T, h1, h2⟩
theorem ex_eqM (T : Tx K mg) : ∃ fd, Binds K fd ["self", "other"] [] ∧ ∀ a : { a : List Fam × List Fam // a.1.length = a.2.length }, FnOk P w K mg base CX0 4 (He.ma K (cM K) "__eq__") fd ["self", "other"] (spD none [K3.IsD (mapD K a.1.1), K3.IsD (mapD K a.1.2)] (K3.IsD (.bool (decide (a.1.1 = a.1.2))))) :=
  cm_mkA T 51 (d := d_MapZ_eqZ) rfl rfl rfl rfl (fun _ _ _ _ _ _ us hl => match us, hl with | [_, _], _ => rfl) fun fa fdd FF a => by
    refine fn_ok FF sc_MapZ_eqZ rfl fun cdv A outer s E0 B H vs Q hr S E q => ?_
    exact ws_ret S (Ev.cast (ev_and2 (ev_isiO (cls_M T) (cls_x (ex_p T).xM).1 (ex_p T).gs (ex_p T).tk (cls_x (ex_p T).xM).2 (T_free T) (g_Map T) (ev_v E 1)) (fun _ => ev_cmp (cm_eqIns (enc := famD K) (fs := ["own_lots"]) (fv := fun f => [encF f]) (fun _ => rfl) (fun _ => rfl) (fun _ _ => fam_inj) (rc_Fam T rfl rfl) hr a.2 (fun _ _ _ _ => trivial)) (ev_fld (cls_M T) (na_fams T) (ev_v E 0) rfl) (ev_fld (cls_M T) (na_fams T) (ev_v E 1) rfl))) rfl) q
theorem rc_Map (T : Tx K mg) {X : Cx} (hX : X.K = K) (hm : X.mg = mg) : RcGb X 4 (DInsb (cM K) (RIns (fun t t' => t.length = t'.length) (mapD K))) := by
  subst hX
  subst hm
  obtain ⟨fd, h1, h2⟩ := ex_eqM (P := X.prog) (w := X.w) (base := X.base) T
  exact rc_ins h1 (fun x y o => h2 ⟨(x, y), o⟩) (m_eqM T).at_ (m_eqM T).fn
end
end K3
/-! TEXT F15 -/
set_option Elab.async false
set_option linter.all false
set_option maxRecDepth 100000
set_option maxHeartbeats 1000000
namespace K3
open PySem PySem.Spec L2
section
variable {P : Program} {w : World} {K : PySem.W.Frag} {mg : Str → Option Value} {base : Heap}
abbrev Cl2 (P : Program) (w : World) (K : PySem.W.Frag) (mg : Str → Option Value) (base : Heap) (x : Str) (ps ks : List Str) (pm : {α : Type} → List α → List α) (k : Nat) (sp : Sp) : Prop := Cl P w K mg base x ps k sp ∧ ClK P w K mg base x ps ks pm k sp
/-- list(x) of a list, a tuple, an own list -/
theorem em_listS {m : Option Addr} {X : Cx} {e : Expr} {σ : L2.St} {B H : Hp} {pos p1 : Pos} {ds : List PyData} {R : Rt} [mr : Mn R] (L : LsAt m B H R ds) (hm : X.mg "list" = none) (h : Ev m X e σ B H R) (hg : Gl X "list" := by rfl) (hs : starEach [e] X.env = (false, eval e X.env) :: starEach [] X.env := by rfl) : EvM m X (.Call (.Name "list" p1) [e] [] pos) σ B H ds :=
  em_ty call_list_of hm PyProof.Rows.boot_list (ea1 h hs) (fun vs B1 H1 Q s1 r q => by
    obtain ⟨v, rfl, r5⟩ := args1 r
    obtain ⟨a, xs, rfl, h1, h2⟩ := L v B1 H1 s1 r5
    exact ⟨a, xs, rfl, h1.imp SqL.of SqT.of, fun l hl => q l xs B1 _ (s1.here.mnew hl) hl (s1.s.free hl) upd_same h2⟩) hg (he := hs)
/-- return (a, b) -/
theorem ws_retT2 {m : Option Addr} {X : Cx} {a b : Expr} {σ : L2.St} {B H B0 H0 : Hp} {pos p1 : Pos} {kk : Nat} {R1 R2 : Rt} {rest : List Stmt} {D : Ends} [mr : Mn R1] [mr2 : Mn R2] (S : Stp m B0 H0 B H) (ha : Ev m X a σ B H R1) (hb : Ev m X b σ B H R2)
    (k : ∀ t v w B' H', Stp m B H B' H' → Stp m B0 H0 B' H' → B' t = some (.tup [v, w]) → R1 v B' → R2 w B' → D.rt (.ref t) H') (hs : starEach (a :: [b]) X.env = (false, eval a X.env) :: starEach [b] X.env := by rfl) (hs2 : starEach [b] X.env = (false, eval b X.env) :: starEach [] X.env := by rfl) : wSs X (.Return (some (.Tuple [a, b] kk p1)) pos :: rest) D σ H :=
  ws_cons (ps_ret (pe_tup pa_w)) ((ea2 ha hb hs hs2) B H S.here _ fun vs B2 H2 s2 r => by
    obtain ⟨v, w, rfl, r1, r2⟩ := args2 r
    refine ⟨by show 2 ≤ sizeLine; decide, fun p hp => ?_⟩
    have n := same_upd (o := .tup [v, w]) (s2.s.free hp)
    exact k p v w _ _ (s2.new hp) (S.trans (s2.new hp)) upd_same (mr.mn v _ _ n r1) (mr2.mn w _ _ n r2))
theorem cm_isRef {m : Option Addr} {X : Cx} {B H : Hp} {p : Addr} : Cm m X .Is B H (IsV (.ref p)) (K3.IsD .none) false :=
  ⟨_, op_isN, fun x y B1 H1 Q s1 rx ry q => ⟨Dq.non_eq ry, by
    obtain rfl : x = .ref p := rx
    exact q B1 H1 s1.here⟩⟩
structure Gd (n : Nat) (gs : List Gate) : Prop where
  n1 : 1 ≤ n
  n2 : n ≤ 12
  vg : ∀ g ∈ gs, Vg n g
  sz : gs.length ≤ 300
theorem Gd.take {n : Nat} {gs : List Gate} (G : Gd n gs) (i : Nat) : ∀ g ∈ gs.take i, Vg n g := fun g hg => G.vg g (List.mem_of_mem_take hg)
theorem Wt.vl12 {n : Nat} {t : List Fam} (h : Wt n t) (hn : n ≤ 12) : ∀ f ∈ t, ∀ l ∈ f, Vl 12 l := fun f hf l hl => ((h.wf f hf).vl l hl).mono (by omega)
/-- what is told at each place up to p -/
def tolds (n : Nat) (gs : List Gate) (p : Nat) : List PyData := (List.range (p + 1)).map fun j => encT (told n (gs.take j))
theorem tolds_last (n : Nat) (gs : List Gate) (p : Nat) : atI (tolds n gs p) (-1) = some (encT (told n (gs.take p))) := by
  unfold tolds
  rw [List.range_succ, List.map_append]
  exact atI_last _ _
theorem cl_all_told (T : Tx K mg) (n : Nat) (gs : List Gate) (p : Nat) (G : Gd n gs) (hp : p ≤ gs.length) (F : ∀ i, i ≤ p → few 60 (told n (gs.take i))) : Cl P w K mg base "all_told" ["net", "position"] 6 (spM [K3.IsD (netD K n gs), K3.IsD (.int p)] (tolds n gs p)) :=
  cl_mk T 34 (d := d_all_told) rfl rfl rfl rfl (by decide +kernel) (fun _ _ _ _ _ _ us hl => match us, hl with | [_, _], _ => rfl) fun fa fdd FF => by
    refine fn_okM FF sc_all_told rfl fun cdv A outer s E0 B H vs Q hr S E q => ?_
    refine ws_setM S E 2 (em_lst [encT (told0 n)] (ea1 (EvM.ev (em_call (cl_same_lots T n (by have := G.n2; omega)) hr (ea1 (ev_lanes T hr (ev_v E 0)))))) (Nat.le_of_ble_eq_true rfl)) (fun q1 B1 H1 s1 S n1 n2 M E => ?_) sc_all_told.nd
    refine ws_for (xs := gs.take p) (enc := encG) (u := fun q Γ => Γ.set 3 (some (K3.IsD (encG q)))) S (wk_list (Ev.cast (EvM.ev (em_slL (EvM.ev (em_meth0 (cls_N T) (cm_gates T n gs) hr (ev_v E 0))) eo_none (eo_some (ev_v E 1)))) (by rw [cut_to, List.map_take]))) (pg_name (i := 3) sc_all_told.nd rfl (by first | exact Or.inl rfl | exact Or.inr rfl)) (fun x _ => tg1) rfl PassesOwn.never
      (fun i => [some (K3.IsD (netD K n gs)), some (K3.IsD (.int p)), some (IsV (.ref q1)), none]) (fun i B H => Mu none B H q1 (tolds n gs i)) (fun _ _ _ _ _ s M => M.mono s) (fun B1 H1 s1 S => ⟨(E.mono s1.b).to, M.mono s1⟩) (fun i g σ1 B2 H2 hx S2 sb E2 M2 => ?_) (fun σ1 B2 H2 S2 sb E2 M2 => ?_)
    · have hi : i < p := by
        rcases Nat.lt_or_ge i p with z | z
        · exact z
        · rw [List.getElem?_eq_none (by rw [List.length_take]; omega)] at hx; cases hx
      have hg : gs[i]? = some g := by
        rw [List.getElem?_take] at hx
        rw [if_pos hi] at hx; exact hx
      have ht : told n (gs.take (i + 1)) = toldStep (told n (gs.take i)) g := by unfold told; exact foldl_take hg
      have wt : Wt n (told n (gs.take i)) := told_wt (G.take i)
      have f1 := F i (by omega)
      have f2 := F (i + 1) (by omega)
      rw [ht] at f2
      refine ws_app S2 M2 n2 (ev_v E2 2) (ev_call (cl_told_behind T n (told n (gs.take i)) g (G.vg g (List.mem_of_getElem? hg)) wt.len G.n2 (wt.vl12 G.n2) f1 f2) hr (ea2 (ev_ixM M2 (ev_v E2 2) (ev_neg ev_int) (tolds_last n gs i)) (ev_v E2 3))) (by unfold tolds; rw [List.length_map, List.length_range]; have := G.sz; omega) (fun B3 H3 sb3 S3 M3 _ => ws_nil ⟨B3, sb3, S3, (E2.mono sb3).to, ?_⟩)
      have e : tolds n gs (i + 1) = tolds n gs i ++ [encT (told n (gs.take (i + 1)))] := by
        unfold tolds
        rw [List.range_succ (n := i + 1), List.map_append] <;> rfl
      rw [e, ht]
      exact M3
    · have e : (gs.take p).length = p := by rw [List.length_take]; omega
      rw [e] at M2
      exact ws_retOwn S2 M2 n2 (ev_v E2 2) q
theorem cl_want_place (T : Tx K mg) (n : Nat) (gs : List Gate) (p : Nat) (hp : p ≤ gs.length) (hz : gs.length ≤ 1000) : Cl P w K mg base "want_place" ["net", "position"] 3 (spD none [K3.IsD (netD K n gs), K3.IsD (.int p)] (K3.IsD .none)) :=
  cl_mk T 35 (d := d_want_place) rfl rfl rfl rfl (by decide +kernel) (fun _ _ _ _ _ _ us hl => match us, hl with | [_, _], _ => rfl) fun fa fdd FF => by
    refine fn_ok FF sc_want_place rfl fun cdv A outer s E0 B H vs Q hr S E q => ?_
    obtain ⟨fd, hb, F⟩ := cm_len (P := P) (w := w) (base := base) T n gs
    refine ws_no S ((et_or2 (et_not (et_val (ev_call (cl_is_cnt T p) hr (ea1 (ev_v E 1))))) fun _ => et_cmp cm_gt (ev_v E 1) (ev_lenO (m_len T).at_ (m_len T).fn hb F hr (by omega) (by omega) (T_free T) (ev_v E 0))).cast ?_) fun B1 H1 s1 S => ws_nil (q _ _ _ S .non)
    rw [decide_eq_true (by omega), decide_eq_false (by omega)]; rfl
/-- len(net) -/
theorem ev_lenN {m : Option Addr} {X : Cx} {e : Expr} {σ : L2.St} {B H : Hp} {pos p1 : Pos} {k n : Nat} {gs : List Gate} (T : Tx X.K X.mg) (hr : Room k X.A) (hz : gs.length ≤ 1000) (h : Ev m X e σ B H (K3.IsD (netD X.K n gs))) (hk : 2 ≤ k := by decide) (hg : Gl X "len" := by rfl) (hst : starEach [e] X.env = (false, eval e X.env) :: starEach [] X.env := by rfl) : Ev m X (.Call (.Name "len" p1) [e] [] pos) σ B H (K3.IsD (.int gs.length)) := by
  obtain ⟨fd, hb, F⟩ := cm_len (P := X.prog) (w := X.w) (base := X.base) T n gs
  exact ev_lenO (m_len T).at_ (m_len T).fn hb F hr (by omega) (by omega) (T_free T) h (hk := hk) (hg := hg) (hst := hst)
theorem few_take {k n : Nat} {gs : List Gate} (F : FewAll k n gs) {p : Nat} (hp : p ≤ gs.length) : ∀ i, i ≤ p → few k (told n (gs.take i)) := fun i hi => F i (Nat.le_trans hi hp)
theorem lanesFor_le {f : Fam} {n : Int} (hn : 0 ≤ n) (h : ∀ l ∈ f, l ≠ [] ∧ ∀ p ∈ l, p.1 < n) : lanesFor f ≤ n := by
  have key : ∀ (f : Fam) (a : Int), a ≤ n → (∀ l ∈ f, l ≠ [] ∧ ∀ p ∈ l, p.1 < n) → f.foldl lfStep a ≤ n := by
    intro f
    induction f with
    | nil => intro a h _; exact h
    | cons l f ih =>
      intro a ha h
      rw [List.foldl_cons]
      refine ih _ ?_ fun x hx => h x (List.mem_cons_of_mem _ hx)
      unfold lfStep
      split
      · obtain ⟨h1, h2⟩ := h l List.mem_cons_self
        rw [List.getLast?_eq_some_getLast h1]
        have := h2 _ (List.getLast_mem h1)
        show (l.getLast h1).1 + 1 ≤ n
        omega
      · exact ha
  exact key f 0 hn h
theorem Wf.lanesFor {n : Nat} {f : Fam} (h : Wf n f) : lanesFor f ≤ n := lanesFor_le (by omega) fun l hl => ⟨(h.vl l hl).ne, fun p hp => ((h.vl l hl).rg p hp).2⟩
theorem cl_map_behind (T : Tx K mg) (n : Nat) (gs : List Gate) (p : Nat) (G : Gd n gs) (hp : p ≤ gs.length) (F : FewAll 60 n gs) : Cl P w K mg base "map_behind" ["net", "position"] 8 (spD none [K3.IsD (netD K n gs), K3.IsD (.int p)] (K3.IsD (mapD K (told n (gs.take p))))) :=
  cl_mk T 36 (d := d_map_behind) rfl rfl rfl rfl (by decide +kernel) (fun _ _ _ _ _ _ us hl => match us, hl with | [_, _], _ => rfl) fun fa fdd FF => by
    refine fn_ok FF sc_map_behind rfl fun cdv A outer s E0 B H vs Q hr S E q => ?_
    have wt : Wt n (told n (gs.take p)) := told_wt (G.take p)
    have G1 := G.n1
    have G2 := G.n2
    refine ws_expr S (ev_call (cl_want_place T n gs p hp (by have := G.sz; omega)) hr (ea2 (ev_v E 0) (ev_v E 1))) (fun B2 H2 s2 S => ?_)
    have E := E.mono s2.b
    refine ws_ret S (ev_make (ci_Map T (told n (gs.take p)) (fun e => by have := wt.len; rw [e] at this; simp at this; omega) (by rw [wt.len]; exact G2) (fun f hf => ⟨fun l hl => ((wt.wf f hf).vl l hl).ne, by rw [wt.len]; exact (wt.wf f hf).lanesFor⟩)) hr (ea1 (EvM.ev (em_lc (xs := told n (gs.take p)) (enc := encF) (f := famD K) (own := [("lots", 2)]) E (wk_list (Ev.cast (ev_ixL (EvM.ev (em_call (cl_all_told T n gs p G hp (few_take F hp)) hr (ea2 (ev_v E 0) (ev_v E 1)))) (ev_neg ev_int) (tolds_last n gs p)) rfl)).s rfl sc_map_behind.nd (blkOk_by (own := [("lots", 2)]) (N := N_map_behind) (sc := defScope s_map_behind) (by decide +kernel)) (fun _ _ _ _ _ => pg_name (i := 2) sc_map_behind.nd rfl (by first | exact Or.inl rfl | exact Or.inr rfl)) (fun x _ => tg1)
      (fun s0 H0 C cl fp f σ1 B1 H1 hx s1 E1 => ?_) (by rw [wt.len]; omega))))) q
    have wf := wt.wf f hx
    have kid : kept f = f := kept_id wf.nk wf.cn
    have hz : f.length ≤ 60 := F p hp f hx
    exact Ev.cast (ev_make (ci_Fam T f (wt.vl12 G2 f hx) wf.ne (by omega) (by rw [kid]; exact hz)) hr (ea1 (ev_v E1 2))) (by rw [kid])
theorem cl_map_of (T : Tx K mg) (n : Nat) (gs : List Gate) (G : Gd n gs) (F : FewAll 60 n gs) : Cl P w K mg base "map_of" ["net"] 9 (spD none [K3.IsD (netD K n gs)] (K3.IsD (mapD K (told n gs)))) :=
  cl_mk T 37 (d := d_map_of) rfl rfl rfl rfl (by decide +kernel) (fun _ _ _ _ _ _ us hl => match us, hl with | [_], _ => rfl) fun fa fdd FF => by
    refine fn_ok FF sc_map_of rfl fun cdv A outer s E0 B H vs Q hr S E q => ?_
    refine ws_ret S (Ev.cast (ev_call (cl_map_behind T n gs gs.length G (Nat.le_refl _) F) hr (ea2 (ev_v E 0) (ev_lenN T hr (by have := G.sz; omega) (ev_v E 0)))) ?_) q
    rw [List.take_length]
theorem cl_lots_of_lane (T : Tx K mg) (n : Nat) (gs : List Gate) (i : Int) (G : Gd n gs) (F : FewAll 60 n gs) (h0 : 0 ≤ i) (h1 : i < n) : Cl P w K mg base "lots_of_lane" ["net", "lane"] 7 (spD none [K3.IsD (netD K n gs), K3.IsD (.int i)] (K3.IsD (encF (at_ (told n gs) i)))) :=
  cl_mk T 38 (d := d_lots_of_lane) rfl rfl rfl rfl (by decide +kernel) (fun _ _ _ _ _ _ us hl => match us, hl with | [_, _], _ => rfl) fun fa fdd FF => by
    refine fn_ok FF sc_lots_of_lane rfl fun cdv A outer s E0 B H vs Q hr S E q => ?_
    have wt : Wt n (told n gs) := told_wt G.vg
    have tl := tolds_last n gs gs.length
    rw [List.take_length] at tl
    exact ws_ret S (ev_ixL (ev_ixL (EvM.ev (em_call (cl_all_told T n gs gs.length G (Nat.le_refl _) (few_take F (Nat.le_refl _))) hr (ea2 (ev_v E 0) (ev_lenN T hr (by have := G.sz; omega) (ev_v E 0))))) (ev_neg ev_int) tl) (ev_v E 1) (at_enc h0 (by rw [wt.len]; exact h1))) q
end
end K3
/-! TEXT M6 -/
set_option Elab.async false
set_option linter.all false
set_option maxRecDepth 100000
set_option maxHeartbeats 1000000
namespace K3
open PySem PySem.W
/-! lanes -/
theorem mem_lanesRaw {f : Fam} {i : Int} : i ∈ lanesRaw f ↔ ∃ l ∈ f, ∃ p ∈ l, p.1 = i := by
  have key : ∀ (f : Fam) (acc : List Int), i ∈ f.foldl lanesStep acc ↔ i ∈ acc ∨ ∃ l ∈ f, ∃ p ∈ l, p.1 = i := by
    intro f
    induction f with
    | nil => intro acc; simp
    | cons l f ih =>
      intro acc
      rw [List.foldl_cons, ih]
      unfold lanesStep
      rw [List.mem_append, List.mem_map]
      constructor
      · rintro ((h | ⟨p, h, e⟩) | ⟨m, h1, h2⟩)
        · exact .inl h
        · exact .inr ⟨l, List.mem_cons_self, p, (List.mem_filter.mp h).1, e⟩
        · exact .inr ⟨m, List.mem_cons_of_mem _ h1, h2⟩
      · rintro (h | ⟨m, h1, p, h2, e⟩)
        · exact .inl (.inl h)
        · rcases List.mem_cons.mp h1 with rfl | h1
          · by_cases z : i ∈ acc
            · exact .inl (.inl z)
            · exact .inl (.inr ⟨p, List.mem_filter.mpr ⟨h2, by rw [e, decide_eq_false z]; rfl⟩, e⟩)
          · exact .inr ⟨m, h1, p, h2, e⟩
  rw [lanesRaw, key]
  simp
theorem lanesRaw_nd {f : Fam} (hn : ∀ l ∈ f, Nk l) : (lanesRaw f).Nodup := by
  have key : ∀ (f : Fam) (acc : List Int), acc.Nodup → (∀ l ∈ f, Nk l) → (f.foldl lanesStep acc).Nodup := by
    intro f
    induction f with
    | nil => intro acc h _; exact h
    | cons l f ih =>
      intro acc h hn
      refine ih _ ?_ fun x hx => hn x (List.mem_cons_of_mem _ hx)
      unfold lanesStep
      refine List.nodup_append.mpr ⟨h, ?_, fun a ha b hb e => ?_⟩
      · unfold List.Nodup
        rw [List.pairwise_map]
        exact (hn l List.mem_cons_self).filter _
      · obtain ⟨p, hp, e2⟩ := List.mem_map.mp hb
        have := (List.mem_filter.mp hp).2
        rw [e2, ← e, decide_eq_true ha] at this
        cases this
  exact key f [] List.nodup_nil hn
theorem lanesIn_perm (f : Fam) : (lanesIn f).Perm (lanesRaw f) := List.mergeSort_perm _ _
theorem mem_lanesIn {f : Fam} {i : Int} : i ∈ lanesIn f ↔ ∃ l ∈ f, ∃ p ∈ l, p.1 = i := (lanesIn_perm f).mem_iff.trans mem_lanesRaw
theorem srtI_pw (l : List Int) : (srtI l).Pairwise fun a b => a ≤ b := by
  have h1 : (srtI l).Pairwise fun a b => dataLe false PyData.int a b = true := sort_pairwise (sortLe_total _ _ _) l
  have e : (dataLe false PyData.int : Int → Int → Bool) = fun a b => decide (a ≤ b) := dataLe_int (fun a : Int => a)
  rw [e] at h1
  exact h1.imp fun h => of_decide_eq_true h
theorem srtI_lt {l : List Int} (h : l.Nodup) : (srtI l).Pairwise fun a b => a < b := by
  have h2 : (srtI l).Nodup := (List.mergeSort_perm _ _).nodup_iff.mpr h
  exact ((srtI_pw l).and h2).imp fun ⟨h1, h2⟩ => Int.lt_iff_le_and_ne.mpr ⟨h1, h2⟩
theorem ints_ext {a b : List Int} (ha : a.Pairwise fun x y => x < y) (hb : b.Pairwise fun x y => x < y) (h : ∀ i, i ∈ a ↔ i ∈ b) : a = b := sorted_ext (fun x y h1 h2 => by omega) a b ha hb h
/-! the least, the greatest of numbers -/
theorem extr_least : ∀ (xs : List Int) (x : Int), (∀ y ∈ x :: xs, xs.foldl (exStep true) x ≤ y) ∧ xs.foldl (exStep true) x ∈ x :: xs
  | [], x => ⟨fun y hy => by rw [List.mem_singleton.mp hy]; exact Int.le_refl _, List.mem_cons_self⟩
  | z :: xs, x => by
    have e : exStep true x z = if z < x then z else x := by
      unfold exStep
      by_cases h : z < x
      · rw [if_pos h]; simp [h]
      · rw [if_neg h]; simp [h]
    rw [List.foldl_cons, e]
    by_cases h : z < x
    · rw [if_pos h]
      obtain ⟨h1, h2⟩ := extr_least xs z
      refine ⟨fun y hy => ?_, ?_⟩
      · rcases List.mem_cons.mp hy with rfl | hy
        · have := h1 z List.mem_cons_self; omega
        · exact h1 y hy
      · exact List.mem_cons_of_mem _ h2
    · rw [if_neg h]
      obtain ⟨h1, h2⟩ := extr_least xs x
      refine ⟨fun y hy => ?_, ?_⟩
      · rcases List.mem_cons.mp hy with rfl | hy
        · exact h1 _ List.mem_cons_self
        · rcases List.mem_cons.mp hy with rfl | hy
          · have := h1 x List.mem_cons_self; omega
          · exact h1 y (List.mem_cons_of_mem _ hy)
      · rcases List.mem_cons.mp h2 with e | h2
        · rw [e]; exact List.mem_cons_self
        · exact List.mem_cons_of_mem _ (List.mem_cons_of_mem _ h2)
theorem extr_true {xs : List Int} (h : xs ≠ []) : (∀ y ∈ xs, extr true xs ≤ y) ∧ extr true xs ∈ xs := by
  obtain ⟨x, r, rfl⟩ := List.exists_cons_of_ne_nil h
  exact extr_least r x
theorem numsOf_ne {n : Nat} {f : Fam} (h : Wf n f) : numsOf f ≠ [] := by
  obtain ⟨l, r, rfl⟩ := List.exists_cons_of_ne_nil h.ne
  obtain ⟨p, q, e⟩ := List.exists_cons_of_ne_nil (h.vl l List.mem_cons_self).ne
  unfold numsOf
  rw [List.flatMap_cons, e]
  simp
theorem mem_numsOf {f : Fam} {l : Lot} {p : Int × Int} (hl : l ∈ f) (hp : p ∈ l) : p.2 ∈ numsOf f := List.mem_flatMap.mpr ⟨l, hl, List.mem_map.mpr ⟨p, hp, rfl⟩⟩
theorem far_ge {f : Fam} (h0 : numsOf f ≠ []) : 1 ≤ farOf f ∧ ∀ l ∈ f, ∀ p ∈ l, 1 ≤ farOf f + p.2 := by
  unfold farOf
  refine ⟨by omega, fun l hl p hp => ?_⟩
  have := (extr_true h0).1 _ (mem_numsOf hl hp)
  omega
/-! corners -/
theorem setAll_at (l : Lot) : ∀ (xs : List Int), Nk l → (∀ p ∈ l, 0 ≤ p.1 ∧ p.1 < xs.length) → ∀ i : Int, 0 ≤ i → xv (setAll l xs) i = match getI l i with
    | some v => -v
    | none => xv xs i := by
  induction l with
  | nil => intro xs _ _ i _; rfl
  | cons p l ih =>
    intro xs hn hr i h0
    have hn := List.pairwise_cons.mp hn
    have hp := hr p List.mem_cons_self
    show xv (setAll l (xs.set p.1.toNat (-p.2))) i = _
    rw [ih _ hn.2 (fun q hq => by rw [List.length_set]; exact hr q (List.mem_cons_of_mem _ hq)) i h0, getI_cons]
    by_cases e : p.1 = i
    · subst e
      rw [if_pos rfl, getI_none fun q hq e => hn.1 q hq e.symm]
      show xv (xs.set p.1.toNat (-p.2)) p.1 = _
      rw [xv_set hp.1 hp.2 hp.1, if_pos rfl]
    · rw [if_neg e]
      cases getI l i with
      | some v => rfl
      | none =>
        show xv (xs.set p.1.toNat (-p.2)) i = xv xs i
        rw [xv_set hp.1 hp.2 h0, if_neg e]
theorem xv_rep {n : Nat} {v i : Int} (h0 : 0 ≤ i) (h1 : i < n) : xv (List.replicate n v) i = v := by
  unfold xv
  rw [List.getD_eq_getElem?_getD, List.getElem?_replicate, if_pos (by omega)] <;> rfl
theorem setAll_len' (l : Lot) : ∀ xs : List Int, (setAll l xs).length = xs.length := by
  unfold setAll
  induction l with
  | nil => intro xs; rfl
  | cons p l ih => intro xs; rw [List.foldl_cons, ih, List.length_set]
theorem corner_len (l : Lot) (f : Fam) (n : Nat) : (cornerV l f n).length = n := by
  unfold cornerV
  rw [setAll_len', List.length_replicate]
theorem corner_at {l : Lot} {f : Fam} {n : Nat} (hl : Vl n l) {i : Int} (h0 : 0 ≤ i) (h1 : i < n) : xv (cornerV l f n) i = match getI l i with
    | some v => -v
    | none => farOf f := by
  unfold cornerV
  rw [setAll_at l _ (up_nk hl.up) (fun p hp => by rw [List.length_replicate]; exact hl.rg p hp) i h0]
  cases getI l i with
  | some v => rfl
  | none => exact xv_rep h0 h1
/-- at the corner the lot is at 0 -/
theorem corner_own {l : Lot} {f : Fam} {n : Nat} (hl : Vl n l) : ∀ p ∈ l, xv (cornerV l f n) p.1 + p.2 = 0 := fun p hp => by
  rw [corner_at hl (hl.rg p hp).1 (hl.rg p hp).2, getI_of_mem (up_nk hl.up) hp]
  show -p.2 + p.2 = 0
  omega
/-- .. and a lot of the family that is not under it is at 1 or above -/
theorem corner_other {l m : Lot} {f : Fam} {n : Nat} (hl : Vl n l) (hm : Vl n m) (hf : m ∈ f) (h0 : numsOf f ≠ []) (hu : under m l = false) : ∃ p ∈ m, 1 ≤ xv (cornerV l f n) p.1 + p.2 := by
  have hx : ¬ (∀ p ∈ m, ∃ v, getI l p.1 = some v ∧ p.2 ≤ v) := fun z => by
    rw [under_iff.mpr z] at hu; cases hu
  have hx : ∃ p ∈ m, ¬ ∃ v, getI l p.1 = some v ∧ p.2 ≤ v := by
    apply Classical.byContradiction
    intro z
    exact hx fun p hp => Classical.byContradiction fun y => z ⟨p, hp, y⟩
  obtain ⟨p, hp, hq⟩ := hx
  refine ⟨p, hp, ?_⟩
  rw [corner_at hl (hm.rg p hp).1 (hm.rg p hp).2]
  cases g : getI l p.1 with
  | none => exact (far_ge h0).2 m hf p hp
  | some v =>
    show 1 ≤ -v + p.2
    have : ¬ p.2 ≤ v := fun z => hq ⟨v, g, z⟩
    omega
theorem corner_le0 {l : Lot} {f g : Fam} {n : Nat} (hl : Vl n l) (hf : l ∈ g) : Le g (cornerV l f n) 0 := ⟨l, hf, fun p hp => by rw [corner_own hl p hp]; exact Int.le_refl _⟩
theorem corner_not0 {l : Lot} {f : Fam} {n : Nat} (hl : Vl n l) (hv : ∀ m ∈ f, Vl n m) (h0 : numsOf f ≠ []) (hu : ∀ m ∈ f, under m l = false) : ¬ Le f (cornerV l f n) 0 := by
  rintro ⟨m, hm, h⟩
  obtain ⟨p, hp, h1⟩ := corner_other hl (hv m hm) hm h0 (hu m hm)
  have := h p hp
  omega
/-- a family that says less has a lot under each of the other's -/
theorem le_cover {n : Nat} {f g : Fam} (hf : Wf n f) (hg : Wf n g) (h : ∀ x : List Int, x.length = n → ∀ t, Le f x t → Le g x t) : ∀ l ∈ f, ∃ m ∈ g, under m l = true := by
  intro l hl
  apply Classical.byContradiction
  intro z
  have hu : ∀ m ∈ g, under m l = false := fun m hm => by
    cases q : under m l with
    | false => rfl
    | true => exact absurd ⟨m, hm, q⟩ z
  exact corner_not0 (hf.vl l hl) hg.vl (numsOf_ne hg) hu (h _ (corner_len l g n) 0 (corner_le0 (hf.vl l hl) hl))
theorem cover_le {f g : Fam} (h : ∀ l ∈ f, ∃ m ∈ g, under m l = true) {x : List Int} {t : Int} : Le f x t → Le g x t := fun ⟨l, h1, h2⟩ => by
  obtain ⟨m, h3, h4⟩ := h l h1
  exact ⟨m, h3, leL_under h4 h2⟩
/-- each lot of the one has one of the other under it, and the other way: the same -/
theorem cover_eq {n : Nat} {f g : Fam} (hf : Wf n f) (hg : Wf n g) (h1 : ∀ l ∈ f, ∃ m ∈ g, under m l = true) (h2 : ∀ l ∈ g, ∃ m ∈ f, under m l = true) : f = g := by
  have one : ∀ {n : Nat} {f g : Fam}, Wf n f → Wf n g → (∀ l ∈ f, ∃ m ∈ g, under m l = true) → (∀ l ∈ g, ∃ m ∈ f, under m l = true) → ∀ l, l ∈ f → l ∈ g := by
    intro n f g hf hg h1 h2 l hl
    obtain ⟨m, hm, u1⟩ := h1 l hl
    obtain ⟨k, hk, u2⟩ := h2 m hm
    have e := hf.cn.anti k hk l hl (under_trans u2 u1)
    subst e
    rw [under_anti (hf.up _ hk) (hg.up _ hm) u2 u1]
    exact hm
  exact fam_ext hf.cn.lt hg.cn.lt fun l => ⟨one hf hg h1 h2 l, one hg hf h2 h1 l⟩
/-- a lot of others that none of ones is under -/
def apartL (ones others : Fam) : Option Lot := others.find? fun l => (ones.find? fun m => under m l).isNone
theorem apartL_some {ones others : Fam} {l : Lot} (h : apartL ones others = some l) : l ∈ others ∧ ∀ m ∈ ones, under m l = false := by
  refine ⟨List.mem_of_find?_eq_some h, fun m hm => ?_⟩
  have h1 := List.find?_some h
  rw [Option.isNone_iff_eq_none, List.find?_eq_none] at h1
  cases z : under m l with
  | false => rfl
  | true => exact absurd z (h1 m hm)
theorem apartL_none {ones others : Fam} (h : apartL ones others = none) : ∀ l ∈ others, ∃ m ∈ ones, under m l = true := fun l hl => by
  have h1 := List.find?_eq_none.mp h l hl
  have h1 : (ones.find? fun m => under m l).isNone = false := by simpa using h1
  cases q : ones.find? fun m => under m l with
  | none => rw [q] at h1; cases h1
  | some m => exact ⟨m, List.mem_of_find?_eq_some q, by simpa using List.find?_some q⟩
theorem apartL_self {f : Fam} (hn : ∀ l ∈ f, Nk l) : apartL f f = none := by
  unfold apartL
  rw [List.find?_eq_none]
  intro l hl
  have : (f.find? fun m => under m l).isSome = true := List.find?_isSome.mpr ⟨l, hl, under_refl (hn l hl)⟩
  cases q : f.find? fun m => under m l with
  | none => rw [q] at this; cases this
  | some _ => simp
def apart2 (near far : Fam) : Option (Lot × Fam) := match apartL near far with
  | some l => some (l, near)
  | none => (apartL far near).map fun l => (l, far)
theorem apart2_ne {n : Nat} {f g : Fam} (hf : Wf n f) (hg : Wf n g) (h : f ≠ g) : (apart2 f g).isSome = true := by
  unfold apart2
  cases q : apartL f g with
  | some l => rfl
  | none =>
    cases q2 : apartL g f with
    | some l => rfl
    | none => exact absurd (cover_eq hf hg (apartL_none q2) (apartL_none q)) h
theorem apart2_self {f : Fam} (hn : ∀ l ∈ f, Nk l) : apart2 f f = none := by
  unfold apart2
  rw [apartL_self hn]; rfl
end K3
/-! TEXT F16 -/
set_option Elab.async false
set_option linter.all false
set_option maxRecDepth 100000
set_option maxHeartbeats 1000000
namespace K3
open PySem PySem.Spec L2
section
variable {P : Program} {w : World} {K : PySem.W.Frag} {mg : Str → Option Value} {base : Heap}
theorem cl_lanes_hung (T : Tx K mg) (n : Nat) (gs : List Gate) (i : Int) (G : Gd n gs) (F : FewAll 60 n gs) (h0 : 0 ≤ i) (h1 : i < n) : Cl2 P w K mg base "lanes_hung" ["net", "lane"] ["lane", "net"] rev2 8 (spM [K3.IsD (netD K n gs), K3.IsD (.int i)] ((lanesIn (at_ (told n gs) i)).map .int)) :=
  cl_mk2 T 39 (d := d_lanes_hung) rfl rfl rfl rfl (by decide +kernel) (fun _ _ _ _ _ _ us hl => match us, hl with | [_, _], _ => rfl) (fun _ _ _ _ _ _ us hl => match us, hl with | [_, _], _ => rfl) fun fa fdd FF => by
    refine fn_okM FF sc_lanes_hung rfl fun cdv A outer s E0 B H vs Q hr S E q => ?_
    have wt : Wt n (told n gs) := told_wt G.vg
    have wf := wt.at_ h0 h1
    have n2 := G.n2
    have hz : (at_ (told n gs) i).length ≤ 60 := by
      have := F gs.length (Nat.le_refl _) (at_ (told n gs) i)
      rw [List.take_length] at this
      exact this (at_mem h0 (by rw [wt.len]; exact h1))
    refine ws_expr S (ev_call (cl_want_lane T n i h0 h1) hr (ea2 (ev_lanes T hr (ev_v E 0)) (ev_v E 1))) (fun B2 H2 s2 S => ?_)
    have E := E.mono s2.b
    exact ws_retM S (em_call (cl_lanes_in T (at_ (told n gs) i) (k := 12) (fun l hl => by have := vl_len ((wf.vl l hl).mono (by omega : (n : Int) ≤ 12)); omega) (Nat.le_refl _) (by omega)) hr (ea1 (ev_call (cl_lots_of_lane T n gs i G F h0 h1) hr (ea2 (ev_v E 0) (ev_v E 1))))) q
/-- two new lists in a tuple, or None -/
def WPair (o : Option (List Int × List Int)) : WK := fun v H B' H' => match o with
  | none => v = .non
  | some (xs, ys) => ∃ t p1 p2, v = .ref t ∧ B' t = some (.tup [.ref p1, .ref p2]) ∧ p1 ≠ p2 ∧ H p1 = none ∧ H p2 = none ∧ Mu none B' H' p1 (xs.map .int) ∧ Mu none B' H' p2 (ys.map .int)
def secondV (xs : List Int) (o : Int) : List Int := xs.set o.toNat (xv xs o + 1)
def shownO (f : Fam) (n : Nat) (o : Int) : Option (List Int × List Int) := (f.find? fun l => decide (o ∈ lanesIn [l])).map fun l => (cornerV l f n, secondV (cornerV l f n) o)
theorem cl_shown (T : Tx K mg) (n : Nat) (gs : List Gate) (i o : Int) (G : Gd n gs) (F : FewAll 60 n gs) (h0 : 0 ≤ i) (h1 : i < n) (o0 : 0 ≤ o) (o1 : o < n) : Cl2 P w K mg base "shown" ["net", "lane", "other"] ["other", "lane", "net"] rev3 8 (spW [K3.IsD (netD K n gs), K3.IsD (.int i), K3.IsD (.int o)] (WPair (shownO (at_ (told n gs) i) n o))) :=
  cl_mk2 T 40 (d := d_shown) rfl rfl rfl rfl (by decide +kernel) (fun _ _ _ _ _ _ us hl => match us, hl with | [_, _, _], _ => rfl) (fun _ _ _ _ _ _ us hl => match us, hl with | [_, _, _], _ => rfl) fun fa fdd FF => by
    refine fn_okW FF sc_shown rfl fun cdv A outer s E0 B H vs Q hr S E q => ?_
    have wt : Wt n (told n gs) := told_wt G.vg
    have wf := wt.at_ h0 h1
    have n2 := G.n2
    have hz : (at_ (told n gs) i).length ≤ 60 := by
      have := F gs.length (Nat.le_refl _) (at_ (told n gs) i)
      rw [List.take_length] at this
      exact this (at_mem h0 (by rw [wt.len]; exact h1))
    have lz : ∀ l ∈ at_ (told n gs) i, l.length ≤ 12 := fun l hl => by have := vl_len ((wf.vl l hl).mono (by omega : (n : Int) ≤ 12)); omega
    refine ws_expr S (ev_call (cl_want_lane T n i h0 h1) hr (ea2 (ev_lanes T hr (ev_v E 0)) (ev_v E 1))) (fun B2 H2 s2 S => ?_)
    have E := E.mono s2.b
    refine ws_expr S (ev_call (cl_want_lane T n o o0 o1) hr (ea2 (ev_lanes T hr (ev_v E 0)) (ev_v E 2))) (fun B2 H2 s2 S => ?_)
    have E := E.mono s2.b
    refine ws_set S E 3 (ev_call (cl_lots_of_lane T n gs i G F h0 h1) hr (ea2 (ev_v E 0) (ev_v E 1))) (fun v B3 H3 s3 S r3 E => ?_) sc_shown.nd
    refine ws_for (xs := at_ (told n gs) i) (enc := encL) (u := fun q Γ => Γ.set 4 (some (K3.IsD (encL q)))) S (wk_list (ev_v E 3)) (pg_name (i := 4) sc_shown.nd rfl (by first | exact Or.inl rfl | exact Or.inr rfl)) (fun x _ => tg1) rfl PassesOwn.never
      (fun j => [some (K3.IsD (netD K n gs)), some (K3.IsD (.int i)), some (K3.IsD (.int o)), some (K3.IsD (encF (at_ (told n gs) i))), none, none, none]) (fun j _ _ => ((at_ (told n gs) i).take j).find? (fun l => decide (o ∈ lanesIn [l])) = none) (fun _ _ _ _ _ _ h => h) (fun B1 H1 s1 S => ⟨(E.mono s1.b).to, rfl⟩) (fun j l σ1 B2 H2 hx S2 sb E2 hu => ?_) (fun σ1 B2 H2 S2 sb E2 hu => ?_)
    · have hl := List.mem_of_getElem? hx
      refine ws_if S2 (kb := decide (o ∈ lanesIn [l])) (et_cmp (cm_inI lsL) (ev_v E2 2) (EvM.ev (em_call (cl_lanes_in T [l] (k := 12) (fun m hm => by rw [List.mem_singleton.mp hm]; exact lz l hl) (Nat.le_refl _) (by simp)) hr (ea1 (EvM.ev (em_lst [encL l] (ea1 (ev_v E2 4)) (Nat.le_of_ble_eq_true rfl))))))) (fun h B3 H3 s3 S3 => ?_) (fun h B3 H3 s3 S3 => ws_nil (ws_nil ⟨B3, s3.b, S3, (E2.mono s3.b).to, ?_⟩))
      · have fe : shownO (at_ (told n gs) i) n o = some (cornerV l (at_ (told n gs) i) n, secondV (cornerV l (at_ (told n gs) i) n) o) := by
          unfold shownO
          rw [find_take hu hx h] <;> rfl
        rw [fe] at q
        have E3 := E2.mono s3.b
        refine ws_setM S3 E3 5 (em_call (cl_corner T l (at_ (told n gs) i) n n2 (wf.vl l hl) lz (Nat.le_refl _) (by omega) (numsOf_ne wf)) hr (ea_cons (ev_v E3 4) (ea3 (ev_v E3 3) (ev_lanes T hr (ev_v E3 0)) ev_bl))) (fun p1 B4 H4 s4 S4 n41 n42 M4 E4 => ?_) sc_shown.nd
        refine ws_setM S4 E4 6 (em_listS (lsM M4) (T_free T) (ev_v E4 5)) (fun p2 B5 H5 s5 S5 n51 n52 M5 E5 => ?_) sc_shown.nd
        have hne : p1 ≠ p2 := fun z => by
          obtain ⟨zs, k1, _⟩ := M4.ex
          rw [z, n51] at k1; cases k1
        have M4 := M4.mono s5
        have hlen : (cornerV l (at_ (told n gs) i) n).length = n := corner_len _ _ _
        have ix : ixN ((cornerV l (at_ (told n gs) i) n).map PyData.int).length o = some o.toNat := ixN_int o0 (by rw [List.length_map, hlen]; exact o1)
        have av := atI_int (xs := cornerV l (at_ (told n gs) i) n) o0 (by rw [hlen]; omega)
        refine ws_setix S5 M5 n52 (ev_add (ev_ixM M5 (ev_v E5 6) (ev_v E5 2) av) ev_int) (ev_v E5 6) (ev_v E5 2) ix (fun B6 H6 sb6 S6 M6 oth => ?_)
        have M4 := oth p1 _ hne M4
        have E6 := E5.mono sb6
        refine ws_retT2 S6 (ev_v E6 5) (ev_v E6 6) (fun t v w B7 H7 s7 S7 ht r1 r2 => q _ B7 H7 S7 ?_)
        obtain rfl : v = .ref p1 := r1
        obtain rfl : w = .ref p2 := r2
        refine ⟨t, p1, p2, rfl, ht, hne, n42, n52, M4.mono s7, ?_⟩
        rw [← List.map_set] at M6
        exact M6.mono s7
      · rw [take_last hx, List.find?_append, hu, List.find?_cons_of_neg (by rw [h]; exact Bool.false_ne_true)] <;> rfl
    · rw [List.take_length] at hu
      have fe : shownO (at_ (told n gs) i) n o = none := by
        unfold shownO
        rw [hu] <;> rfl
      rw [fe] at q
      refine ws_ret S2 ev_non fun v B3 H3 s3 r => q v B3 H3 s3 ?_
      exact Dq.non_eq r
theorem cl_rise (T : Tx K mg) (n : Nat) (gs : List Gate) (p : Nat) (i : Int) (G : Gd n gs) (hz : gs.length ≤ 299) (F : FewAll 60 n gs) (hp : p ≤ gs.length) (h0 : 0 ≤ i) (h1 : i < n) (F2 : FewAll 60 n (insG gs p ⟨.add, i, 1⟩)) :
    Cl2 P w K mg base "rise" ["net", "position", "lane"] ["lane", "position", "net"] rev3 10 (spM [K3.IsD (netD K n gs), K3.IsD (.int p), K3.IsD (.int i)] ((List.range n).map fun (j : Nat) => pairD (riseOf (at_ (told n gs) j) (at_ (told n (insG gs p ⟨.add, i, 1⟩)) j)))) :=
  cl_mk2 T 42 (d := d_rise) rfl rfl rfl rfl (by decide +kernel) (fun _ _ _ _ _ _ us hl => match us, hl with | [_, _, _], _ => rfl) (fun _ _ _ _ _ _ us hl => match us, hl with | [_, _, _], _ => rfl) fun fa fdd FF => by
    refine fn_okM FF sc_rise rfl fun cdv A outer s E0 B H vs Q hr S E q => ?_
    have vg : Vg n ⟨.add, i, 1⟩ := ⟨⟨h0, h1⟩, fun z => absurd rfl z⟩
    have G2 : Gd n (insG gs p ⟨.add, i, 1⟩) := ⟨G.n1, G.n2, fun x hx => (mem_insG hx).elim (G.vg x) (fun z => z ▸ vg), by rw [insG_len hp]; omega⟩
    have wt : Wt n (told n gs) := told_wt G.vg
    have wt2 : Wt n (told n (insG gs p ⟨.add, i, 1⟩)) := told_wt G2.vg
    have n2 := G.n2
    have n1 := G.n1
    have tl := tolds_last n gs gs.length
    rw [List.take_length] at tl
    have tl2 := tolds_last n (insG gs p ⟨.add, i, 1⟩) (insG gs p ⟨.add, i, 1⟩).length
    rw [List.take_length] at tl2
    refine ws_expr S (ev_call (cl_want_place T n gs p hp (by omega)) hr (ea2 (ev_v E 0) (ev_v E 1))) (fun B2 H2 s2 S => ?_)
    have E := E.mono s2.b
    refine ws_expr S (ev_call (cl_want_lane T n i h0 h1) hr (ea2 (ev_lanes T hr (ev_v E 0)) (ev_v E 2))) (fun B2 H2 s2 S => ?_)
    have E := E.mono s2.b
    refine ws_set S E 3 (ev_meth (cls_N T) (cm_with T n gs p ⟨.add, i, 1⟩ n1 n2 G.vg (by omega) hp vg) hr (ev_v E 0) (ea2 (ev_v E 1) (ev_tup [.str "add", .int i, .int 1] (ea3 (ev_gstr (T_ADD T)) (ev_v E 2) ev_int) (Nat.le_of_ble_eq_true rfl)))) (fun v B3 H3 s3 S r3 E => ?_) sc_rise.nd
    refine ws_asgG S E (ev_tup [encT (told n gs), encT (told n (insG gs p ⟨.add, i, 1⟩))] (ea2 (ev_ixL (EvM.ev (em_call (cl_all_told T n gs gs.length G (Nat.le_refl _) (few_take F (Nat.le_refl _))) hr (ea2 (ev_v E 0) (ev_lenN T hr (by omega) (ev_v E 0))))) (ev_neg ev_int) tl)
      (ev_ixL (EvM.ev (em_call (cl_all_told T n (insG gs p ⟨.add, i, 1⟩) _ G2 (Nat.le_refl _) (few_take F2 (Nat.le_refl _))) hr (ea2 (ev_v E 3) (ev_lenN T hr (by have := G2.sz; omega) (ev_v E 3))))) (ev_neg ev_int) tl2)) (Nat.le_of_ble_eq_true rfl)) (pg_tup rfl (pgs_cons (pg_name (i := 4) sc_rise.nd rfl (by first | exact Or.inl rfl | exact Or.inr rfl)) (pgs_cons (pg_name (i := 5) sc_rise.nd rfl (by first | exact Or.inl rfl | exact Or.inr rfl)) pgs_nil))) tg2 (fun σ' B4 H4 s4 S E => ?_)
    refine ws_retM S (em_lc (xs := List.range n) (enc := fun (j : Nat) => PyData.int (j : Int)) (own := [("at", 6)]) E ?_ rfl sc_rise.nd (blkOk_by (own := [("at", 6)]) (N := N_rise) (sc := defScope s_rise) (by decide +kernel)) (fun _ _ _ _ _ => pg_name (i := 6) sc_rise.nd rfl (by first | exact Or.inl rfl | exact Or.inr rfl)) (fun x _ => tg1)
      (fun s0 H0 C cl fp j σ1 B1 H1 hj s1 E1 => ev_call (cl_rise_of T _ _ (n := n) (by omega) (wt.at_ (Int.natCast_nonneg j) (by have := List.mem_range.mp hj; omega)).vl ?_) hr (ea2 (ev_ixL (ev_v E1 4) (ev_v E1 6) (at_enc (Int.natCast_nonneg j) (by have := List.mem_range.mp hj; rw [wt.len]; omega))) (ev_ixL (ev_v E1 5) (ev_v E1 6) (at_enc (Int.natCast_nonneg j) (by have := List.mem_range.mp hj; rw [wt2.len]; omega))))) (by rw [List.length_range]; omega)) q
    · have e2 : rngD ((n : Int).toNat) = (List.range n).map fun (i : Nat) => PyData.int (i : Int) := by unfold rngD; rw [Int.toNat_natCast]
      rw [← e2]
      exact (wk_range (T_free T) (ev_lanes T hr (ev_v E 0)) (by omega) (by omega)).s
    · have := F gs.length (Nat.le_refl _) (at_ (told n gs) j)
      rw [List.take_length] at this
      exact this (at_mem (Int.natCast_nonneg j) (by have := List.mem_range.mp hj; rw [wt.len]; omega))
theorem cl_want_beside (T : Tx K mg) (n : Nat) (gs hs : List Gate) : Cl P w K mg base "want_net_beside" ["net", "other"] 3 (spD none [K3.IsD (netD K n gs), K3.IsD (netD K n hs)] (K3.IsD .none)) :=
  cl_mk T 43 (d := d_want_net_beside) rfl rfl rfl rfl (by decide +kernel) (fun _ _ _ _ _ _ us hl => match us, hl with | [_, _], _ => rfl) fun fa fdd FF => by
    refine fn_ok FF sc_want_net_beside rfl fun cdv A outer s E0 B H vs Q hr S E q => ?_
    refine ws_no S ((et_or2 (et_not (et_val (ev_isiO (cls_N T) (cls_x (ex_p T).xN).1 (ex_p T).gs (ex_p T).tk (cls_x (ex_p T).xN).2 (T_free T) (g_Net T) (ev_v E 1)))) fun _ => et_cmp cm_neI (ev_lanes T hr (ev_v E 1)) (ev_lanes T hr (ev_v E 0))).cast ?_) fun B1 H1 s1 S => ws_nil (q _ _ _ S .non)
    simp
theorem cl_are_alike (T : Tx K mg) (n : Nat) (gs hs : List Gate) (G : Gd n gs) (F : FewAll 60 n gs) (G2 : Gd n hs) (F2 : FewAll 60 n hs) : Cl2 P w K mg base "are_alike" ["net", "other"] ["other", "net"] rev2 10 (spD none [K3.IsD (netD K n gs), K3.IsD (netD K n hs)] (K3.IsD (.bool (decide (told n gs = told n hs))))) :=
  cl_mk2 T 44 (d := d_are_alike) rfl rfl rfl rfl (by decide +kernel) (fun _ _ _ _ _ _ us hl => match us, hl with | [_, _], _ => rfl) (fun _ _ _ _ _ _ us hl => match us, hl with | [_, _], _ => rfl) fun fa fdd FF => by
    refine fn_ok FF sc_are_alike rfl fun cdv A outer s E0 B H vs Q hr S E q => ?_
    refine ws_expr S (ev_call (cl_want_beside T n gs hs) hr (ea2 (ev_v E 0) (ev_v E 1))) (fun B2 H2 s2 S => ?_)
    have E := E.mono s2.b
    refine ws_ret S (ev_cmp (cm_eqIns1 (enc := mapD K) (fs := ["own_families"]) (fv := fun t => [.list (t.map (famD K))]) (fun _ => rfl) (fun _ => rfl) (rc_Map T rfl rfl) (hr.mono (by decide)) ?_) (ev_call (cl_map_of T n gs G F) hr (ea1 (ev_v E 0))) (ev_call (cl_map_of T n hs G2 F2) hr (ea1 (ev_v E 1)))) q
    rw [(told_wt G.vg).len, (told_wt G2.vg).len]
theorem cl_may_change (T : Tx K mg) (n : Nat) (gs : List Gate) (p : Nat) (G : Gd n gs) (F : FewAll 60 n gs) (hp : p + 1 < gs.length) (F2 : FewAll 60 n (exch gs p)) : Cl2 P w K mg base "may_change" ["net", "position"] ["position", "net"] rev2 11 (spD none [K3.IsD (netD K n gs), K3.IsD (.int p)] (K3.IsD (.bool (decide (told n gs = told n (exch gs p)))))) :=
  cl_mk2 T 47 (d := d_may_change) rfl rfl rfl rfl (by decide +kernel) (fun _ _ _ _ _ _ us hl => match us, hl with | [_, _], _ => rfl) (fun _ _ _ _ _ _ us hl => match us, hl with | [_, _], _ => rfl) fun fa fdd FF => by
    refine fn_ok FF sc_may_change rfl fun cdv A outer s E0 B H vs Q hr S E q => ?_
    have G2 : Gd n (exch gs p) := ⟨G.n1, G.n2, fun x hx => G.vg x (mem_exch hp hx), by rw [exch_len hp]; exact G.sz⟩
    exact ws_ret S (ev_call (cl_are_alike T n gs (exch gs p) G F G2 F2).1 hr (ea2 (ev_v E 0) (ev_meth (cls_N T) (cm_exch T n gs p G.n1 G.n2 G.vg (by have := G.sz; omega) hp) hr (ev_v E 0) (ea1 (ev_v E 1))))) q
end
end K3
/-! TEXT F17 -/
set_option Elab.async false
set_option linter.all false
set_option maxRecDepth 100000
set_option maxHeartbeats 1000000
namespace K3
open PySem PySem.Spec L2
section
variable {P : Program} {w : World} {K : PySem.W.Frag} {mg : Str → Option Value} {base : Heap}
def WOpt (o : Option (List Int)) : WK := fun v H B' H' => match o with
  | none => v = .non
  | some xs => ∃ p, v = .ref p ∧ H p = none ∧ Mu none B' H' p (xs.map .int)
theorem find_takeG {α : Type} {f : List α} {p : α → Bool} {i : Nat} {l : α} (hn : (f.take i).find? p = none) (hx : f[i]? = some l) (hp : p l = true) : f.find? p = some l := by
  have e : f = f.take i ++ f.drop i := (List.take_append_drop i f).symm
  have hd : f.drop i = l :: f.drop (i + 1) := by
    rw [List.drop_eq_getElem?_toList_append, hx] <;> rfl
  rw [e, List.find?_append, hn, hd, List.find?_cons_of_pos hp] <;> rfl
theorem optL_isNon (o : Option Lot) : isNon (optL o) = o.isNone := by cases o <;> rfl
theorem cl_corner_apart (T : Tx K mg) (n : Nat) (f g : Fam) (hn : n ≤ 12) (hf : Wf n f) (hg : Wf n g) (hz : f.length ≤ 60) : Cl P w K mg base "corner_apart" ["ones", "others", "lanes"] 4 (spW [K3.IsD (encF f), K3.IsD (encF g), K3.IsD (.int n)] (WOpt ((apartL f g).map fun l => cornerV l f n))) :=
  cl_mk T 45 (d := d_corner_apart) rfl rfl rfl rfl (by decide +kernel) (fun _ _ _ _ _ _ us hl => match us, hl with | [_, _, _], _ => rfl) fun fa fdd FF => by
    refine fn_okW FF sc_corner_apart rfl fun cdv A outer s E0 B H vs Q hr S E q => ?_
    have lz : ∀ l ∈ f, l.length ≤ 12 := fun l hl => by have := vl_len ((hf.vl l hl).mono (by omega : (n : Int) ≤ 12)); omega
    refine ws_for (xs := g) (enc := encL) (u := fun q Γ => Γ.set 3 (some (K3.IsD (encL q)))) S (wk_list (ev_v E 1)) (pg_name (i := 3) sc_corner_apart.nd rfl (by first | exact Or.inl rfl | exact Or.inr rfl)) (fun x _ => tg1) rfl PassesOwn.never
      (fun j => [some (K3.IsD (encF f)), some (K3.IsD (encF g)), some (K3.IsD (.int n)), none]) (fun j _ _ => (g.take j).find? (fun l => (f.find? fun m => under m l).isNone) = none) (fun _ _ _ _ _ _ h => h) (fun B1 H1 s1 S => ⟨(E.mono s1.b).to, rfl⟩) (fun j l σ1 B2 H2 hx S2 sb E2 hu => ?_) (fun σ1 B2 H2 S2 sb E2 hu => ?_)
    · have hl := List.mem_of_getElem? hx
      refine ws_if S2 (et_cmp cm_isN (ev_call (cl_first_ahead T f l (hg.vl l hl)) hr (ea3 (ev_v E2 0) (ev_v E2 3) ev_bl)) ev_non) (fun h B3 H3 s3 S3 => ?_) (fun h B3 H3 s3 S3 => ws_nil (ws_nil ⟨B3, s3.b, S3, (E2.mono s3.b).to, ?_⟩))
      · rw [optL_isNon] at h
        have fe : apartL f g = some l := by unfold apartL; exact find_takeG hu hx h
        rw [fe] at q
        have E3 := E2.mono s3.b
        exact ws_retM S3 (em_call (cl_corner T l f n hn (hg.vl l hl) lz (Nat.le_refl _) (by omega) (numsOf_ne hf)) hr (ea_cons (ev_v E3 3) (ea3 (ev_v E3 0) (ev_v E3 2) ev_bl))) fun p zs B' H' s n1 n2 hz hd => q _ B' H' s ⟨p, rfl, n1, (fun z => nomatch z), n2, zs, hz, hd⟩
      · rw [optL_isNon] at h
        rw [take_last hx, List.find?_append, hu, List.find?_cons_of_neg (by rw [h]; exact Bool.false_ne_true)] <;> rfl
    · rw [List.take_length] at hu
      have fe : apartL f g = none := hu
      rw [fe] at q
      exact ws_ret S2 ev_non fun v B3 H3 s3 r => q v B3 H3 s3 (Dq.non_eq r)
/-- the first lane whose rows differ, and a content that shows it -/
def diffAt (n : Nat) (t t' : List Fam) : Option Nat := (List.range n).find? fun i => decide (at_ t (i : Nat) ≠ at_ t' (i : Nat))
def unlikeO (n : Nat) (t t' : List Fam) : Option (Int × List Int) := (diffAt n t t').bind fun i => (apart2 (at_ t (i : Nat)) (at_ t' (i : Nat))).map fun z => ((i : Int), cornerV z.1 z.2 n)
/-- a lane and a new list in a tuple, or None -/
def WTl (o : Option (Int × List Int)) : WK := fun v H B' H' => match o with
  | none => v = .non
  | some (i, xs) => ∃ t p, v = .ref t ∧ B' t = some (.tup [.int i, .ref p]) ∧ H p = none ∧ Mu none B' H' p (xs.map .int)
theorem range_at {n j i : Nat} (h : (List.range n)[j]? = some i) : i = j ∧ j < n := by
  have h1 := List.getElem?_eq_some_iff.mp h
  obtain ⟨h2, h3⟩ := h1
  rw [List.length_range] at h2
  rw [List.getElem_range] at h3
  exact ⟨h3.symm, h2⟩
theorem cl_unlike (T : Tx K mg) (n : Nat) (gs hs : List Gate) (G : Gd n gs) (F : FewAll 60 n gs) (G2 : Gd n hs) (F2 : FewAll 60 n hs) : Cl2 P w K mg base "unlike" ["net", "other"] ["other", "net"] rev2 9 (spW [K3.IsD (netD K n gs), K3.IsD (netD K n hs)] (WTl (unlikeO n (told n gs) (told n hs)))) :=
  cl_mk2 T 46 (d := d_unlike) rfl rfl rfl rfl (by decide +kernel) (fun _ _ _ _ _ _ us hl => match us, hl with | [_, _], _ => rfl) (fun _ _ _ _ _ _ us hl => match us, hl with | [_, _], _ => rfl) fun fa fdd FF => by
    refine fn_okW FF sc_unlike rfl fun cdv A outer s E0 B H vs Q hr S E q => ?_
    have n2 := G.n2
    have w1 : Wt n (told n gs) := told_wt G.vg
    have w2 : Wt n (told n hs) := told_wt G2.vg
    have tl := tolds_last n gs gs.length
    rw [List.take_length] at tl
    have tl2 := tolds_last n hs hs.length
    rw [List.take_length] at tl2
    have f1 := F gs.length (Nat.le_refl _)
    have f2 := F2 hs.length (Nat.le_refl _)
    rw [List.take_length] at f1 f2
    refine ws_expr S (ev_call (cl_want_beside T n gs hs) hr (ea2 (ev_v E 0) (ev_v E 1))) (fun B2 H2 s2 S => ?_)
    have E := E.mono s2.b
    refine ws_par S E 2 3 (R1 := K3.IsD (encT (told n gs))) (R2 := K3.IsD (encT (told n hs))) (ev_ixL (EvM.ev (em_call (cl_all_told T n gs gs.length G (Nat.le_refl _) (few_take F (Nat.le_refl _))) hr (ea2 (ev_v E 0) (ev_lenN T hr (by have := G.sz; omega) (ev_v E 0))))) (ev_neg ev_int) tl)
      (ev_ixL (EvM.ev (em_call (cl_all_told T n hs hs.length G2 (Nat.le_refl _) (few_take F2 (Nat.le_refl _))) hr (ea2 (ev_v E 1) (ev_lenN T hr (by have := G2.sz; omega) (ev_v E 1))))) (ev_neg ev_int) tl2) (fun v w B4 H4 s4 S r4 r5 E => ?_) sc_unlike.nd
    refine ws_for (xs := List.range n) (enc := fun (j : Nat) => PyData.int (j : Int)) (u := fun j Γ => Γ.set 4 (some (K3.IsD (.int (j : Nat))))) S ?_ (pg_name (i := 4) sc_unlike.nd rfl (by first | exact Or.inl rfl | exact Or.inr rfl)) (fun x _ => tg1) rfl PassesOwn.never
      (fun j => [some (K3.IsD (netD K n gs)), some (K3.IsD (netD K n hs)), some (K3.IsD (encT (told n gs))), some (K3.IsD (encT (told n hs))), none, none]) (fun j _ _ => ((List.range n).take j).find? (fun i => decide (at_ (told n gs) (i : Nat) ≠ at_ (told n hs) (i : Nat))) = none) (fun _ _ _ _ _ _ h => h) (fun B1 H1 s1 S => ⟨(E.mono s1.b).to, rfl⟩) (fun j i σ1 B5 H5 hx S5 sb E5 hu => ?_) (fun σ1 B2 H2 S2 sb E2 hu => ?_)
    · have e2 : rngD ((n : Int).toNat) = (List.range n).map fun (i : Nat) => PyData.int (i : Int) := by unfold rngD; rw [Int.toNat_natCast]
      rw [← e2]
      exact wk_range (T_free T) (ev_lanes T hr (ev_v E 0)) (by omega) (by omega)
    · have hi : i < n := List.mem_range.mp (List.mem_of_getElem? hx)
      have i0 : 0 ≤ (i : Int) := Int.natCast_nonneg i
      have a1 := at_enc (t := told n gs) i0 (by rw [w1.len]; omega)
      have a2 := at_enc (t := told n hs) i0 (by rw [w2.len]; omega)
      have wf1 := w1.at_ i0 (by omega)
      have wf2 := w2.at_ i0 (by omega)
      have z1 : (at_ (told n gs) i).length ≤ 60 := f1 _ (at_mem i0 (by rw [w1.len]; omega))
      have z2 : (at_ (told n hs) i).length ≤ 60 := f2 _ (at_mem i0 (by rw [w2.len]; omega))
      refine ws_if S5 ((et_cmp (cm_neD hr (f_shp (at_ (told n gs) i)) (f_shp (at_ (told n hs) i))) (ev_ixL (ev_v E5 2) (ev_v E5 4) a1) (ev_ixL (ev_v E5 3) (ev_v E5 4) a2)).cast (by rw [f_eqv])) (fun h B6 H6 s6 S6 => ?_) (fun h B6 H6 s6 S6 => ws_nil (ws_nil ⟨B6, s6.b, S6, (E5.mono s6.b).to, ?_⟩))
      · have hne : at_ (told n gs) i ≠ at_ (told n hs) i := fun z => by rw [decide_eq_true z] at h; cases h
        have hd : diffAt n (told n gs) (told n hs) = some i := by unfold diffAt; exact find_takeG hu hx (decide_eq_true hne)
        have E6 := E5.mono s6.b
        -- found = corner_apart(near[lane], far[lane], net.lanes)
        refine ws_cons (ps_set (i := 5) sc_unlike.nd rfl (by first | exact Or.inl rfl | exact Or.inr rfl) pe_w rfl (by first | exact .inl rfl | exact .inr rfl)) (wcall (cl_corner_apart T n (at_ (told n gs) i) (at_ (told n hs) i) n2 wf1 wf2 z1) hr (ea3 (ev_ixL (ev_v E6 2) (ev_v E6 4) a1) (ev_ixL (ev_v E6 3) (ev_v E6 4) a2) (ev_lanes T hr (ev_v E6 0))) (fun us B7 H7 s7 ra => ⟨B7, s7.s, ra, fun v B8 H8 s8 W => ?_⟩) S6.here)
        cases qa : apartL (at_ (told n gs) i) (at_ (told n hs) i) with
        | some l =>
          rw [qa] at W
          obtain ⟨p, rfl, np, M⟩ := W
          have fe : unlikeO n (told n gs) (told n hs) = some ((i : Int), cornerV l (at_ (told n gs) i) n) := by
            unfold unlikeO apart2
            rw [hd]
            show Option.map _ (match apartL (at_ (told n gs) i) (at_ (told n hs) i) with | some l => some (l, at_ (told n gs) i) | none => _) = _
            rw [qa]; rfl
          rw [fe] at q
          have E8 := ((E6.mono (s7.trans s8).b).set (i := 5) (R := IsV (.ref p)) (v := .ref p) rfl)
          have S8 := S6.trans (s7.trans s8)
          refine ws_no S8 (et_cmp cm_isRef (ev_v E8 5) ev_non) fun B9 H9 s9 S9 => ?_
          have E9 := E8.mono s9.b
          refine ws_retT2 S9 (ev_v E9 4) (ev_v E9 5) (fun t v w B10 H10 s10 S10 ht r1 r2 => q _ B10 H10 S10 ?_)
          cases Dq.int_eq r1
          obtain rfl : w = .ref p := r2
          exact ⟨t, p, rfl, ht, S6.t p (s7.t p np), (M.mono s9).mono s10⟩
        | none =>
          rw [qa] at W
          obtain rfl : v = .non := W
          have E8 := ((E6.mono (s7.trans s8).b).set (i := 5) (R := K3.IsD .none) (v := .non) .non)
          have S8 := S6.trans (s7.trans s8)
          refine ws_ifT S8 (et_cmp cm_isN (ev_v E8 5) ev_non) fun B9 H9 s9 S9 => ?_
          have E9 := E8.mono s9.b
          refine ws_cons (ps_set (i := 5) sc_unlike.nd rfl (by first | exact Or.inl rfl | exact Or.inr rfl) pe_w rfl (by first | exact .inl rfl | exact .inr rfl)) (wcall (cl_corner_apart T n (at_ (told n hs) i) (at_ (told n gs) i) n2 wf2 wf1 z2) hr (ea3 (ev_ixL (ev_v E9 3) (ev_v E9 4) a2) (ev_ixL (ev_v E9 2) (ev_v E9 4) a1) (ev_lanes T hr (ev_v E9 0))) (fun us B10 H10 s10 ra => ⟨B10, s10.s, ra, fun v B11 H11 s11 W => ?_⟩) S9.here)
          have hs2 := apart2_ne wf1 wf2 hne
          unfold apart2 at hs2
          rw [qa] at hs2
          cases qb : apartL (at_ (told n hs) i) (at_ (told n gs) i) with
          | none => rw [qb] at hs2; cases hs2
          | some l =>
            rw [qb] at W
            obtain ⟨p, rfl, np, M⟩ := W
            have fe : unlikeO n (told n gs) (told n hs) = some ((i : Int), cornerV l (at_ (told n hs) i) n) := by
              unfold unlikeO apart2
              rw [hd]
              show Option.map _ (match apartL (at_ (told n gs) i) (at_ (told n hs) i) with | some l => some (l, at_ (told n gs) i) | none => _) = _
              rw [qa]
              show Option.map _ (Option.map _ (apartL (at_ (told n hs) i) (at_ (told n gs) i))) = _
              rw [qb]; rfl
            rw [fe] at q
            have E12 := ((E9.mono (s10.trans s11).b).set (i := 5) (R := IsV (.ref p)) (v := .ref p) rfl)
            have S12 := S9.trans (s10.trans s11)
            refine ws_nil (ws_retT2 S12 (ev_v E12 4) (ev_v E12 5) (fun t v w B13 H13 s13 S13 ht r1 r2 => q _ B13 H13 S13 ?_))
            cases Dq.int_eq r1
            obtain rfl : w = .ref p := r2
            exact ⟨t, p, rfl, ht, S9.t p (s10.t p np), M.mono s13⟩
      · have he : at_ (told n gs) i = at_ (told n hs) i := by simpa using h
        rw [take_last hx, List.find?_append, hu, List.find?_cons_of_neg (by simp [he])] <;> rfl
    · have e : ((List.range n).take (List.range n).length) = List.range n := List.take_length
      rw [e] at hu
      have fe : unlikeO n (told n gs) (told n hs) = none := by
        unfold unlikeO diffAt
        rw [hu] <;> rfl
      rw [fe] at q
      exact ws_ret S2 ev_non fun v B3 H3 s3 r => q v B3 H3 s3 (Dq.non_eq r)
end
end K3
/-! TEXT K15f -/
set_option Elab.async false
set_option linter.all false
set_option maxRecDepth 100000
set_option maxHeartbeats 1000000
/-! list(dict([(lot, True) ..])) -/
namespace K3
open PySem PySem.Spec L2
def nkP (p : Int × Int) : NestedKey := .tup [.num p.1, .num p.2]
def nkL (l : Lot) : NestedKey := .tup (l.map nkP)
theorem nkP_inj {p q : Int × Int} (h : nkP p = nkP q) : p = q := by
  simp only [nkP, NestedKey.tup.injEq, List.cons.injEq, NestedKey.num.injEq] at h
  exact Prod.ext h.1 h.2.1
theorem nkL_inj {a b : Lot} (h : nkL a = nkL b) : a = b := by
  have key : ∀ a b : Lot, a.map nkP = b.map nkP → a = b := by
    intro a
    induction a with
    | nil => intro b h; cases b with
      | nil => rfl
      | cons _ _ => cases h
    | cons p a ih => intro b h; cases b with
      | nil => cases h
      | cons q b =>
        have h := List.cons.inj h
        rw [nkP_inj h.1, ih _ h.2]
  exact key a b (NestedKey.tup.inj h)
theorem nk_depth (l : Lot) : (nkL l).depth ≤ 8 := by
  have key : ∀ l : Lot, NestedKey.depthAll (l.map nkP) ≤ 1 := by
    intro l
    induction l with
    | nil => simp [NestedKey.depthAll]
    | cons p l ih => simp [NestedKey.depthAll, nkP, NestedKey.depth] at *; omega
  have := key l
  unfold nkL NestedKey.depth
  omega
section
variable {X : Cx} {pins : List (Addr × Obj)} {σ : L2.St} {H B : Hp} {s : Shared}
theorem nest_pairs (I : Inv X pins σ H s) (sb : Same B H) : ∀ {l : Lot} {xs : List V} {us : List Value}, DqAll B xs (l.map pairD) → Vals xs us → NestedAll s.heap (l.map nkP) us
  | [], _, _, .nil, .nil => .nil
  | p :: l, _, _, .cons h t, .cons r rs => by
    refine .cons ?_ (nest_pairs I sb t rs)
    obtain ⟨a, ys, rfl, h1, h2⟩ := h.tup_ex
    cases h2 with
    | cons r1 h2 =>
      cases h2 with
      | cons r2 h2 =>
        cases h2
        cases r1.int_eq
        cases r2.int_eq
        obtain rfl := (show _ = Value.ref a from r)
        obtain ⟨its, rv, ⟨o, ho, hc, n, hd⟩, hz⟩ := I.tuple (SqT.of (sb _ _ h1))
        refine .tup ho hc hd ?_
        cases rv with
        | cons q1 rv =>
          cases rv with
          | cons q2 rv =>
            cases rv
            obtain ⟨t1, rfl⟩ := q1
            obtain ⟨t2, rfl⟩ := q2
            exact .cons (.int _ _) (.cons (.int _ _) .nil)
theorem nest_lot (I : Inv X pins σ H s) (sb : Same B H) {l : Lot} {b : Addr} (h : Dq B (.ref b) (encL l)) : NestedIs s.heap (nkL l) (.ref b) := by
  obtain ⟨a, xs, e, h1, h2⟩ := Dq.tup_ex h
  cases e
  obtain ⟨its, rv, ⟨o, ho, hc, n, hd⟩, hz⟩ := I.tuple (SqT.of (sb _ _ h1))
  exact .tup ho hc hd (by simpa using nest_pairs I sb h2 rv)
end
/-- what dict() keeps of the keys -/
theorem stored_ddp (ts : List (Addr × Addr × Lot)) : ∀ (xs : List (NestedKey × Addr × Value)) (acc : Fam), xs.map (·.1) = acc.map nkL →
    (storedAllH xs (ts.map fun t => (nkL t.2.2, t.2.1, Value.bool true))).map (·.1) = ((ts.map (·.2.2)).foldl (fun acc l => if l ∈ acc then acc else acc ++ [l]) acc).map nkL ∧
      ∀ x ∈ storedAllH xs (ts.map fun t => (nkL t.2.2, t.2.1, Value.bool true)), (∃ y ∈ xs, y.1 = x.1 ∧ y.2.1 = x.2.1) ∨ ∃ t ∈ ts, x.1 = nkL t.2.2 ∧ x.2.1 = t.2.1 := by
  induction ts with
  | nil => intro xs acc h; exact ⟨h, fun x hx => .inl ⟨x, hx, rfl, rfl⟩⟩
  | cons t ts ih =>
    intro xs acc h
    have hk : (atKey xs (nkL t.2.2)).isSome = decide (t.2.2 ∈ acc) := by
      unfold atKey
      rw [Bool.eq_iff_iff, decide_eq_true_iff]
      have e1 : ((xs.find? fun x => decide (x.1 = nkL t.2.2)).map (·.2)).isSome = (xs.find? fun x => decide (x.1 = nkL t.2.2)).isSome := by cases xs.find? fun x => decide (x.1 = nkL t.2.2) <;> rfl
      rw [e1, List.find?_isSome]
      constructor
      · rintro ⟨x, hx, e⟩
        have m : x.1 ∈ acc.map nkL := by rw [← h]; exact List.mem_map.mpr ⟨x, hx, rfl⟩
        obtain ⟨l, hl, e2⟩ := List.mem_map.mp m
        rw [of_decide_eq_true e] at e2
        rw [← nkL_inj e2]; exact hl
      · intro hl
        have m : nkL t.2.2 ∈ xs.map (·.1) := by rw [h]; exact List.mem_map.mpr ⟨_, hl, rfl⟩
        obtain ⟨x, hx, e⟩ := List.mem_map.mp m
        exact ⟨x, hx, decide_eq_true e⟩
    show (storedAllH (storedH xs (nkL t.2.2) t.2.1 (Value.bool true)) _).map _ = _ ∧ ∀ x ∈ storedAllH (storedH xs (nkL t.2.2) t.2.1 (Value.bool true)) _, _
    by_cases hm : t.2.2 ∈ acc
    · have hs : storedH xs (nkL t.2.2) t.2.1 (Value.bool true) = xs.map (putAt (nkL t.2.2) (Value.bool true)) := by
        unfold storedH
        rw [hk, if_pos (decide_eq_true hm)]
      have hput : ∀ x : NestedKey × Addr × Value, (putAt (nkL t.2.2) (Value.bool true) x).1 = x.1 ∧ (putAt (nkL t.2.2) (Value.bool true) x).2.1 = x.2.1 := fun x => by
        unfold putAt
        split <;> exact ⟨rfl, rfl⟩
      rw [hs]
      obtain ⟨h1, h2⟩ := ih (xs.map (putAt (nkL t.2.2) (Value.bool true))) acc (by rw [List.map_map, ← h]; exact List.map_congr_left fun x _ => (hput x).1)
      refine ⟨by rw [h1, List.map_cons, List.foldl_cons, if_pos hm], fun x hx => ?_⟩
      rcases h2 x hx with ⟨y, hy, e1, e2⟩ | ⟨t', ht', e⟩
      · obtain ⟨z, hz, rfl⟩ := List.mem_map.mp hy
        exact .inl ⟨z, hz, (hput z).1.symm.trans e1, (hput z).2.symm.trans e2⟩
      · exact .inr ⟨t', List.mem_cons_of_mem _ ht', e⟩
    · have hs : storedH xs (nkL t.2.2) t.2.1 (Value.bool true) = xs ++ [(nkL t.2.2, t.2.1, Value.bool true)] := by
        unfold storedH
        rw [hk, if_neg (by simpa using hm)]
      rw [hs]
      obtain ⟨h1, h2⟩ := ih (xs ++ [(nkL t.2.2, t.2.1, Value.bool true)]) (acc ++ [t.2.2]) (by rw [List.map_append, List.map_append, h]; rfl)
      refine ⟨by rw [h1, List.map_cons, List.foldl_cons, if_neg hm], fun x hx => ?_⟩
      rcases h2 x hx with ⟨y, hy, e1, e2⟩ | ⟨t', ht', e⟩
      · rcases List.mem_append.mp hy with hy | hy
        · exact .inl ⟨y, hy, e1, e2⟩
        · rw [List.mem_singleton.mp hy] at e1 e2
          exact .inr ⟨t, List.mem_cons_self, e1.symm, e2.symm⟩
      · exact .inr ⟨t', List.mem_cons_of_mem _ ht', e⟩
/-- a dict as its entries stand -/
def rawO (d : Addr) (es : Array DictEntry) (ep : Nat) : HO := .ext fun h => h.DictRaw d es ep ∧ (d == sysModules) = false ∧ es.size ≤ sizeLine
section
variable {X : Cx}
theorem call_dictT (hc : X.calm = true) (hu : X.A.units + 10 < cLine) : CallR X (.type "dict") (fun vs H Q => ∃ (a : Addr) (ts : List (Addr × Addr × Lot)) (B : Hp), vs = [V.ref a] ∧ Same B H ∧ H a = some (.lst (ts.map fun t => V.ref t.1)) ∧ (∀ t ∈ ts, H t.1 = some (.tup [V.ref t.2.1, V.bl true]) ∧ Dq B (V.ref t.2.1) (encL t.2.2)) ∧
    ∀ d es ep (ys : List Addr), H d = none → es.toList.map (·.key) = ys.map Value.ref → DqAll B (ys.map V.ref) ((ddp (ts.map (·.2.2))).map encL) → Q (.ref d) (upd H d (rawO d es ep))) := by
  intro pins s σ H xs us Q I r q
  obtain ⟨a, ts, B, ex, sb, hl, ht, q⟩ := q
  subst ex
  obtain ⟨u, eu, rx⟩ := vals1 r
  subst eu
  obtain rfl : u = Value.ref a := rx
  obtain ⟨its, rv, pl, hz⟩ := I.list (SqL.of hl)
  have e1 : (ts.map fun t => V.ref t.1) = (ts.map (·.1)).map V.ref := by rw [List.map_map]; rfl
  rw [e1] at rv
  have ei := refs_at rv
  subst ei
  rw [List.length_map] at hz
  obtain ⟨o, n, ho, hcl, hd, hdat⟩ := pl
  let psV : List (Value × Value) := ts.map fun t => (Value.ref t.2.1, Value.bool true)
  let Ts : Nat → Addr := fun j => ((ts[j]?).map (·.1)).getD 0
  refine call_dict_pairsH (knd := nestedKind X.prog X.w) (ps := ts.map fun t => (nkL t.2.2, t.2.1, Value.bool true)) (PairArg.list a ((ts.map (·.1)).map Value.ref).toArray Ts psV) (I.ok.hd hc) (by show X.A.units + 1 + 1 + 8 < cLine; omega) ⟨⟨o, n, ho, hcl, hd, hdat⟩, by simp [psV], fun j k v e => ?_⟩ ⟨by simp [psV], fun i key v e => ?_⟩ (fun h' hk x hx => ?_) (by simp [psV]; exact hz) fun h' tk hd' hk => ?_
  · have e : (ts.map fun t => (Value.ref t.2.1, Value.bool true))[j]? = some (k, v) := e
    rw [List.getElem?_map] at e
    cases g : ts[j]? with
    | none => rw [g] at e; cases e
    | some t =>
      rw [g] at e
      cases e
      have hT : Ts j = t.1 := by show ((ts[j]?).map (·.1)).getD 0 = _; rw [g]; rfl
      refine ⟨by simp [g, hT], ?_⟩
      rw [hT]
      obtain ⟨its, rv, p, _⟩ := I.tuple (SqT.of (ht t (List.mem_of_getElem? g)).1)
      cases rv with
      | cons q1 rv =>
        cases rv with
        | cons q2 rv =>
          cases rv
          obtain rfl := (show _ = Value.ref t.2.1 from q1)
          obtain rfl := (show _ = Value.bool true from q2)
          exact .inl p
  · have e : (ts.map fun t => (Value.ref t.2.1, Value.bool true))[i]? = some (key, v) := e
    rw [List.getElem?_map] at e
    cases g : ts[i]? with
    | none => rw [g] at e; cases e
    | some t =>
      rw [g] at e
      cases e
      exact ⟨nkL t.2.2, t.2.1, by rw [List.getElem?_map, g]; rfl, rfl⟩
  · obtain ⟨t, htm, rfl⟩ := List.mem_map.mp hx
    refine ⟨NestedIs.at (fun b ob vs n hb hc => hk b ob (Nat.ne_of_lt (Heap.lt_size hb)) (fun z => nomatch z) hb) _ _ (nest_lot I sb (ht t htm).2), nk_depth _⟩
  · obtain ⟨o', es, ep, ho', hx', hdt, he, hks, hnd⟩ := hd'
    have hm : (s.heap.objs.size == sysModules) = false := beq_eq_false_iff_ne.mpr (Nat.ne_of_gt I.big)
    obtain ⟨k1, k2⟩ := stored_ddp ts [] [] rfl
    have hlen : (storedAllH ([] : List (NestedKey × Addr × Value)) (ts.map fun t => (nkL t.2.2, t.2.1, Value.bool true))).length ≤ sizeLine := by
      refine Nat.le_trans (storedAllH_length _ _) ?_
      rw [List.length_nil, Nat.zero_add, List.length_map]
      simpa using hz
    have hes : es.size = (storedAllH ([] : List (NestedKey × Addr × Value)) (ts.map fun t => (nkL t.2.2, t.2.1, Value.bool true))).length := size_of_entries he
    refine ⟨.ref s.heap.objs.size, _, I.laid (t' := tk) (o := rawO s.heap.objs.size es ep) (fun b ob e => hk b ob (fun z => nomatch z) e) (Nat.le_refl _) ⟨⟨⟨o', ho', hx', hdt⟩, hm, by omega⟩, ⟨o', ho'⟩, fun h1 h2 p k => ⟨p.1.at k, p.2⟩⟩, rfl, q _ es ep ((storedAllH ([] : List (NestedKey × Addr × Value)) (ts.map fun t => (nkL t.2.2, t.2.1, Value.bool true))).map (·.2.1)) (I.hok.fresh (Nat.le_refl _)) ?_ ?_⟩
    · rw [he, List.map_map, List.map_map]; rfl
    · refine DqAll.of_get ?_ fun i x d hx hd => ?_
      · have := congrArg List.length k1
        simp only [List.length_map] at this ⊢
        exact this
      · rw [List.getElem?_map, List.getElem?_map] at hx
        rw [List.getElem?_map] at hd
        cases g : (storedAllH ([] : List (NestedKey × Addr × Value)) (ts.map fun t => (nkL t.2.2, t.2.1, Value.bool true)))[i]? with
        | none => rw [g] at hx; cases hx
        | some z =>
          rw [g] at hx
          cases hx
          cases g2 : (ddp (ts.map (·.2.2)))[i]? with
          | none => rw [g2] at hd; cases hd
          | some l =>
            rw [g2] at hd
            cases hd
            rcases k2 z (List.mem_of_getElem? g) with ⟨y, hy, _⟩ | ⟨t, htm, e1, e2⟩
            · cases hy
            · have e3 := congrArg (fun q => q[i]?) k1
              simp only [List.getElem?_map] at e3
              rw [g] at e3
              have g3 : ((ts.map (·.2.2)).foldl (fun acc l => if l ∈ acc then acc else acc ++ [l]) [])[i]? = some l := g2
              rw [g3] at e3
              have e4 : z.1 = nkL l := Option.some.inj e3
              have e5 : t.2.2 = l := nkL_inj (e1.symm.trans e4)
              show Dq B (V.ref z.2.1) (encL l)
              rw [e2, ← e5]
              exact (ht t htm).2
theorem call_listRaw (hc : X.calm = true) : CallR X (.type "list") (fun vs H Q => ∃ (d : Addr) (es : Array DictEntry) (ep : Nat) (ys : List Addr), vs = [V.ref d] ∧ H d = some (rawO d es ep) ∧ es.toList.map (·.key) = ys.map Value.ref ∧ ∀ p, H p = none → Q (.ref p) (upd H p (.lst (ys.map V.ref)))) := by
  intro pins s σ H xs us Q I r h
  obtain ⟨d, es, ep, ys, rfl, hd, hk, q⟩ := h
  obtain ⟨u, rfl, rx⟩ := r.one
  obtain rfl : u = Value.ref d := rx
  obtain ⟨⟨⟨o, ho, hx, hdt⟩, hs, hz⟩, _, _⟩ := (show ObjOk X.prog X.w H s.heap d (rawO d es ep) from I.hok d _ hd)
  refine PySem.W.kdl_call (kdl_raw hs hx hdt) (I.ok.hd hc) ho hz fun h' tk acc' c' kp e it => ?_
  have ea : acc'.toList = ys.map Value.ref := by
    rw [← hk]
    apply List.ext_getElem?
    intro j
    rw [List.getElem?_map]
    have hl : acc'.toList.length = es.toList.length := by rw [Array.length_toList, it.1, Array.length_toList]
    cases hj : acc'.toList[j]? with
    | none =>
      have h1 := List.getElem?_eq_none_iff.mp hj
      rw [List.getElem?_eq_none (by omega)]
      all_goals rfl
    | some v =>
      obtain ⟨en, hen, hv⟩ := it.2 j v (by rw [← Array.getElem?_toList]; exact hj)
      rw [← Array.getElem?_toList] at hen
      rw [hen, hv] <;> rfl
  have rv : Vals (ys.map V.ref) acc'.toList := by rw [ea]; exact vals_refs _
  have hzz : (ys.map V.ref).length ≤ sizeLine := by
    have := congrArg List.length hk
    simp only [List.length_map, Array.length_toList] at this
    rw [List.length_map, ← this]; exact hz
  refine ⟨.ref s.heap.objs.size, _, I.laid (t' := tk) (o := .lst (ys.map V.ref)) kp (Nat.le_refl _) ?_, rfl, q _ (I.hok.fresh (Nat.le_refl _))⟩
  exact ⟨hzz, acc'.toList, c', rv, by rw [Array.toArray_toList]; exact e⟩
end
section
variable {m : Option Addr} {X : Cx} {e : Expr} {σ : L2.St} {B H : Hp} {pos p1 p2 p3 cpos : Pos} {k : Nat}
theorem lotT_ex : ∀ {f : Fam} {xs : List V}, DqAll B xs (f.map fun l => .tuple [encL l, .bool true]) → ∃ ts : List (Addr × Addr × Lot), xs = ts.map (fun t => V.ref t.1) ∧ ts.map (·.2.2) = f ∧ ∀ t ∈ ts, B t.1 = some (.tup [V.ref t.2.1, V.bl true]) ∧ Dq B (V.ref t.2.1) (encL t.2.2)
  | [], _, .nil => ⟨[], rfl, rfl, fun _ h => (nomatch h)⟩
  | l :: f, _, .cons h t => by
    obtain ⟨ts, e1, e2, e3⟩ := lotT_ex t
    obtain ⟨a, xs, rfl, h1, h2⟩ := h.tup_ex
    cases h2 with
    | cons r1 h2 =>
      cases h2 with
      | cons r2 h2 =>
        cases h2
        obtain ⟨b, ys, rfl, _, _⟩ := r1.tup_ex
        cases r2.bl_eq
        refine ⟨(a, b, l) :: ts, by rw [e1]; rfl, by rw [List.map_cons, e2], fun t ht => ?_⟩
        rcases List.mem_cons.mp ht with rfl | ht
        · exact ⟨h1, r1⟩
        · exact e3 t ht
/-- list(dict([(lot, True), ..])) -/
theorem em_keysT {f : Fam} (hr : Room k X.A) (hml : X.mg "list" = none) (hmd : X.mg "dict" = none) (hc : X.calm = true) (h : Ev m X e σ B H (K3.IsD (.list (f.map fun l => .tuple [encL l, .bool true])))) (hg : Gl X "list" := by rfl) (hg2 : Gl X "dict" := by rfl) (hs : starEach [e] X.env = (false, eval e X.env) :: starEach [] X.env := by rfl)
    (hs2 : starEach [.Call (.Name "dict" p2) [e] [] cpos] X.env = (false, eval (.Call (.Name "dict" p2) [e] [] cpos) X.env) :: starEach [] X.env := by rfl) : EvM m X (.Call (.Name "list" p1) [.Call (.Name "dict" p2) [e] [] cpos] [] pos) σ B H ((ddp f).map encL) := fun B1 H1 s1 Q q =>
  wE.of (pe_callTy (call_listRaw hc) hg hml PyProof.Rows.boot_list (pa_cons (pe_callTy (call_dictT hc (by have := hr.un; omega)) hg2 hmd PyProof.Rows.boot_dict (pa_cons pe_w pa_nil hs) (he := hs)) pa_nil hs2) (he := hs2)) (h B1 H1 s1 _ fun v B2 H2 s2 r => by
    obtain ⟨a, xs, rfl, h1, h2⟩ := Dq.lst_ex r
    obtain ⟨ts, rfl, e2, e3⟩ := lotT_ex h2
    refine ⟨a, ts, B2, rfl, s2.s, s2.s _ _ h1, fun t ht => ⟨s2.s _ _ (e3 t ht).1, (e3 t ht).2⟩, fun d es ep ys hd hk hq => ?_⟩
    refine ⟨d, es, ep, ys, rfl, upd_same, hk, fun p hp => ?_⟩
    rw [e2] at hq
    have s3 := s2.mnew (o := rawO d es ep) hd
    exact q p _ B2 _ (s3.mnew hp) (s3.t p hp) (s3.s.free hp) upd_same hq)
end
end K3
/-! TEXT K16f -/
set_option Elab.async false
set_option linter.all false
set_option maxRecDepth 100000
set_option maxHeartbeats 1000000
namespace K3
open PySem PySem.Spec L2
section
variable {m : Option Addr} {X : Cx} {e a b c o i : Expr} {es : List Expr} {σ : L2.St} {B H B' H' B0 H0 : Hp} {R R1 R2 R3 : Rt} {Rs : List Rt} {pos p1 p2 p3 apos cpos : Pos} {Γ : List (Option Rt)} {d d1 d2 : PyData} {ds : List PyData} {x y f mt : Str} {k n : Nat} {rest : List Stmt} {D : Ends} {p q C : Addr}
theorem ev_sum {ns : List Int} (hm : X.mg "sum" = none) (hc : X.calm = true) (h : Ev m X e σ B H (K3.IsD (.list (ns.map .int)))) (hg : Gl X "sum" := by rfl) (hs : starEach [e] X.env = (false, eval e X.env) :: starEach [] X.env := by rfl) : Ev m X (.Call (.Name "sum" p1) [e] [] pos) σ B H (K3.IsD (.int ns.sum)) :=
  ev_blt (cr_sum hc) hm PyProof.Rows.boot_sum (ea1 h hs) (fun vs B1 H1 Q s1 r q => by
    obtain ⟨v, rfl, r5⟩ := args1 r
    obtain ⟨a, xs, rfl, h1, h2⟩ := Dq.lst_ex r5
    have e := dq_ints h2
    subst e
    exact ⟨a, ns, rfl, SqL.of (s1.s _ _ h1), q _ B1 H1 s1.here (.int _)⟩) hg (he := hs)
/-- a slot of which is known that some of many things holds -/
theorem Sl.open_ {α : Type} {S : α → Rt} (E : Sl σ B Γ) (i : Nat) (h : Γ[i]? = some (some (fun v B => ∃ a, S a v B))) (hm : ∀ a, Mn (S a)) : ∃ a, Sl σ B (Γ.set i (some (S a))) := by
  obtain ⟨v, h1, a, h2⟩ := E.get i h
  refine ⟨a, by rw [List.length_set]; exact E.1, fun j R' hj => ?_⟩
  by_cases hij : i = j
  · subst hij
    have hl : i < Γ.length := by
      rcases Nat.lt_or_ge i Γ.length with z | z
      · exact z
      · rw [List.getElem?_eq_none z] at h; cases h
    rw [List.getElem?_set_self hl] at hj
    cases hj
    exact ⟨v, h1, fun B2 e => (hm a).mn v _ _ e h2⟩
  · rw [List.getElem?_set_ne hij] at hj
    exact E.2 j R' hj
/-! ### {}; d[i] = True; sorted(d) -/
def toB (ks : List Int) : List (L2.Key × V) := ks.map fun k => (Sum.inl k, V.bl true)
def addK (ks : List Int) (k : Int) : List Int := if k ∈ ks then ks else ks ++ [k]
theorem putK_toB (ks : List Int) (k : Int) : putK (toB ks) (Sum.inl k) (V.bl true) = toB (addK ks k) := by
  have hany : ((toB ks).any fun kv => decide (kv.1 = (Sum.inl k : L2.Key))) = decide (k ∈ ks) := by
    unfold toB
    rw [List.any_map, Bool.eq_iff_iff, List.any_eq_true, decide_eq_true_iff]
    constructor
    · rintro ⟨j, hj, e⟩
      have e : (Sum.inl j : L2.Key) = Sum.inl k := of_decide_eq_true e
      rw [← Sum.inl.inj e]; exact hj
    · intro h
      exact ⟨k, h, decide_eq_true rfl⟩
  unfold putK addK
  rw [hany]
  by_cases h : k ∈ ks
  · rw [if_pos (decide_eq_true h), if_pos h]
    unfold toB
    rw [List.map_map]
    refine List.map_congr_left fun j _ => ?_
    show (if (Sum.inl j : L2.Key) = Sum.inl k then _ else _) = _
    split <;> rfl
  · rw [if_neg (by simpa using h), if_neg h]
    unfold toB
    rw [List.map_append] <;> rfl
theorem en_dnew : EvN m X (.Dict [] [] pos) σ B H (.dK (toB [])) := fun B1 H1 s1 Q q =>
  wE.of pe_dnewK fun p hp => q p B1 _ (s1.here.mnew hp) hp (s1.s.free hp) upd_same
theorem ws_dputB {u : Int} {ks : List Int} (hr : Room n X.A) (S : Stp m B0 H0 B H) (M : MuO m B H p (.dK (toB ks))) (h0 : H0 p = none) (ha : Ev m X e σ B H (K3.IsD (.bool true))) (ho : Ev m X o σ B H (IsV (.ref p))) (hi : Ev m X i σ B H (K3.IsD (.int u))) (hz : ks.length < 100000)
    (k : ∀ B' H', Same B B' → Stp m B0 H0 B' H' → MuO m B' H' p (.dK (toB (addK ks u))) → wSs X rest D σ H')
    (hs : swapsWith e (some (.Subscript o i p1)) pos.line X.env = pure false := by rfl) : wSs X (.Assign [.Subscript o i p1] e pos :: rest) D σ H := by
  refine ws_cons (ps_dput (hu_of hr) pe_w pe_w pe_w hs) ?_
  refine ha B H S.here _ fun v B1 H1 s1 r1 => ?_
  refine ho B1 H1 s1 _ fun w B2 H2 s2 r2 => ?_
  obtain rfl : w = .ref p := r2
  refine hi B2 H2 (s1.trans s2) _ fun u B3 H3 s3 r3 => ?_
  have s := (s1.trans s2).trans s3
  have M2 := M.mono s
  cases Dq.bl_eq r1
  cases Dq.int_eq r3
  have hl : (toB ks).length < sizeLine := by unfold toB; rw [List.length_map]; exact Nat.lt_trans hz (by decide)
  refine ⟨p, _, rfl, DPut.k (k := Sum.inl _) M2.at_ hl, ?_⟩
  rw [putK_toB]
  exact k B3 _ s.b ((S.trans s).mut h0 M2.b M2.ne) M2.put
theorem em_sortedDB {ks : List Int} (hm : X.mg "sorted" = none) (hc : X.calm = true) (M : MuO m B H p (.dK (toB ks))) (h : Ev m X e σ B H (IsV (.ref p))) (hz : ks.length < 64) (hg : Gl X "sorted" := by rfl) (hs : starEach [e] X.env = (false, eval e X.env) :: starEach [] X.env := by rfl) : EvM m X (.Call (.Name "sorted" p1) [e] [] pos) σ B H ((srtI ks).map .int) :=
  em_blt (call_sortedDI hc) hm PyProof.Rows.boot_sorted (ea1 h hs) (fun vs B1 H1 Q s1 r q => by
    obtain ⟨v, rfl, r5⟩ := args1 r
    obtain rfl : v = .ref p := r5
    refine ⟨p, toB ks, ks, rfl, .inl (M.mono s1).at_, by unfold toB; rw [List.map_map]; rfl, hz, fun ys p2 hp hw hn => ?_⟩
    have e : ys = srtI ks := by
      have h1 := srtI_pw ks
      have h2 : (srtI ks).Perm ks := List.mergeSort_perm _ _
      have h3 : ys.Perm (srtI ks) := hp.trans h2.symm
      exact List.Perm.eq_of_pairwise (le := fun a b => a ≤ b) (fun a b _ _ h1 h2 => by omega) hw h1 h3
    subst e
    exact q p2 _ B1 _ (s1.here.mnew hn) hn (s1.s.free hn) upd_same (dq_of_ints _)) hg (he := hs)
/-! ### a, (b, c, d) = (new list, tuple) -/
theorem ws_unpkM {i : Nat} {g2 : TG} {ixs : List Nat} {u : List (Option Rt) → List (Option Rt)} {tg : Expr} {kk : Nat} (S : Stp m B0 H0 B H) (E : Sl σ B Γ) (ha : EvM m X a σ B H ds) (hb : Ev m X b σ B H (K3.IsD d2)) (hg : PG X tg (gTup X.K 2 (gCons (gName i) (gCons g2 gNil)))) (T : TgE X.K g2 d2 ixs u)
    (k : ∀ p σ' B' H', Stp m B H B' H' → Stp m B0 H0 B' H' → H p = none → H0 p = none → Mu m B' H' p ds → Sl σ' B' (u (Γ.set i (some (IsV (.ref p))))) → wSs X rest D σ' H')
    (hs : swapsWithSole [tg] (.Tuple [a, b] kk p1) pos.line X.env = pure false := by rfl) (hw : swappedStores [tg] (.Tuple [a, b] kk p1) X.env = pure none := by rfl) (h1 : (assignEach [tg] X.env).map (·.2) = [assign tg X.env] := by rfl)
    (hst : starEach (a :: [b]) X.env = (false, eval a X.env) :: starEach [b] X.env := by rfl) (hst2 : starEach [b] X.env = (false, eval b X.env) :: starEach [] X.env := by rfl) : wSs X (.Assign [tg] (.Tuple [a, b] kk p1) pos :: rest) D σ H := by
  refine ws_cons (ps_asg (pe_tup (pa_cons pe_w (pa_cons pe_w pa_nil hst2) hst)) hg hs hw h1) ?_
  refine ha B H S.here _ fun p zs B1 H1 s1 n1 n2 hz hd => hb B1 H1 s1 _ fun v B2 H2 s2 r2 => ?_
  refine ⟨by show 2 ≤ sizeLine; decide, fun t ht => ?_⟩
  have M : Mu m B1 H1 p ds := ⟨S.p.ne n1, n2, zs, hz, hd⟩
  have s3 := (s1.trans s2).new (o := .tup [.ref p, v]) ht
  have M3 := M.mono (s2.new (o := .tup [.ref p, v]) ht)
  have E3 := (E.mono s3.b).set (i := i) (R := IsV (.ref p)) (v := .ref p) rfl
  refine ⟨t, _, rfl, SqT.of upd_same, rfl, _, _, rfl, _, _, rfl, T v _ _ _ _ _ E3 (Dq.mono r2 (same_upd (s2.s.free ht))) s3.s fun σ' E' _ => ⟨rfl, ?_⟩⟩
  exact k p σ' _ _ s3 (S.trans s3) n1 (S.t p n1) M3 E'
end
end K3
/-! TEXT G1 -/
set_option Elab.async false
set_option linter.all false
set_option maxRecDepth 100000
set_option maxHeartbeats 1000000
namespace K3
open PySem PySem.Spec L2
section
variable {P : Program} {w : World} {K : PySem.W.Frag} {mg : Str → Option Value} {base : Heap}
theorem cl_L_done (T : Tx K mg) (n : Nat) (g : Gate) (xs : List Int) (h : Vg n g) (hn : xs.length = n) (hn2 : n ≤ 1000) : Cl P w K mg base "_law_done" ["_law_gate_here", "_law_now"] 1 (spM [K3.IsD (encG g), K3.IsD (encI xs)] ((doStep xs g).map .int)) :=
  cl_mk T 64 (d := d_L_done) rfl rfl rfl rfl (by decide +kernel) (fun _ _ _ _ _ _ us hl => match us, hl with | [_, _], _ => rfl) fun fa fdd FF => by
    refine fn_okM FF sc_L_done rfl fun cdv A outer s E0 B H vs Q hr S E q => ?_
    have i1 : g.one.toNat < xs.length := by have := h.one; omega
    have x1 : ∀ ys : List PyData, ys.length = n → ixN ys.length g.one = some g.one.toNat := fun ys hy => ixN_int h.one.1 (by rw [hy]; exact h.one.2)
    have a1 := atI_int (xs := xs) h.one.1 i1
    refine ws_unpkM S E (em_listL (T_free T) (ev_v E 1)) (ev_v E 0) (pg_tup rfl (pgs_cons (pg_name (i := 2) sc_L_done.nd rfl (Or.inl rfl)) (pgs_cons (pg_tup rfl (pgs_cons (pg_name (i := 3) sc_L_done.nd rfl (by first | exact Or.inl rfl | exact Or.inr rfl)) (pgs_cons (pg_name (i := 4) sc_L_done.nd rfl (by first | exact Or.inl rfl | exact Or.inr rfl)) (pgs_cons (pg_name (i := 5) sc_L_done.nd rfl (by first | exact Or.inl rfl | exact Or.inr rfl)) pgs_nil)))) pgs_nil))) (tg3 (e1 := .str g.kind.s) (e2 := .int g.one) (e3 := .int g.other)) (fun p σ' B1 H1 s1 S n1 h0 M E => ?_)
    -- add
    refine ws_if S (et_cmp (k := decide (g.kind.s = Gk.s .add)) cm_eqS (ev_v E 3) ev_str) (fun hk B2 H2 s2 S => ?_) (fun hk B2 H2 s2 S => ws_nil ?_)
    · rw [gk_dec] at hk
      have hk := of_decide_eq_true hk
      have E := E.mono s2.b
      have M := M.mono s2
      refine ws_setix S M h0 (ev_add (ev_ixL (ev_v E 1) (ev_v E 4) a1) (ev_v E 5)) (ev_v E 2) (ev_v E 4) (x1 _ (by rw [List.length_map]; exact hn)) (fun B3 H3 sb3 S M _ => ws_nil ?_)
      have E := E.mono sb3
      refine ws_no S ((et_cmp cm_eqS (ev_v E 3) ev_str).cast (by rw [hk]; decide)) fun B4 H4 s4 S => ?_
      have E := E.mono s4.b
      have M := M.mono s4
      refine ws_no S ((et_cmp (cm_inS lsT) (ev_v E 3) (ev_tup ((["low", "sort"] : List Str).map PyData.str) (ea2 ev_str ev_str) (Nat.le_of_ble_eq_true rfl))).cast (by rw [hk]; decide)) fun B4 H4 s4 S => ?_
      have E := E.mono s4.b
      have M := M.mono s4
      refine ws_no S ((et_cmp cm_eqS (ev_v E 3) ev_str).cast (by rw [hk]; decide)) fun B4 H4 s4 S => ?_
      have E := E.mono s4.b
      have M := M.mono s4
      refine ws_no S ((et_cmp cm_eqS (ev_v E 3) ev_str).cast (by rw [hk]; decide)) fun B4 H4 s4 S => ?_
      have E := E.mono s4.b
      have M := M.mono s4
      refine ws_retOwn S ?_ h0 (ev_v E 2) q
      unfold doStep
      rw [hk, List.map_set]
      exact M
    rw [gk_dec] at hk
    have hk := of_decide_eq_false hk
    have ho := h.other hk
    have i2 : g.other.toNat < xs.length := by omega
    have x2 : ∀ ys : List PyData, ys.length = n → ixN ys.length g.other = some g.other.toNat := fun ys hy => ixN_int ho.1 (by rw [hy]; exact ho.2.1)
    have a2 := atI_int (xs := xs) ho.1 i2
    have E := E.mono s2.b
    have M := M.mono s2
    cases hkk : g.kind with
    | add => exact absurd hkk hk
    | copy =>
      rw [hkk] at E
      refine ws_ifT S ((et_cmp cm_eqS (ev_v E 3) ev_str).cast (by decide)) fun B4 H4 s4 S => ?_
      have E := E.mono s4.b
      have M := M.mono s4
      refine ws_setix S M h0 (ev_ixL (ev_v E 1) (ev_v E 5) a2) (ev_v E 2) (ev_v E 4) (x1 _ (by rw [List.length_map]; exact hn)) (fun B3 H3 sb3 S M _ => ws_nil ?_)
      have E := E.mono sb3
      refine ws_no S ((et_cmp (cm_inS lsT) (ev_v E 3) (ev_tup ((["low", "sort"] : List Str).map PyData.str) (ea2 ev_str ev_str) (Nat.le_of_ble_eq_true rfl))).cast (by decide)) fun B4 H4 s4 S => ?_
      have E := E.mono s4.b
      have M := M.mono s4
      refine ws_no S ((et_cmp cm_eqS (ev_v E 3) ev_str).cast (by decide)) fun B4 H4 s4 S => ?_
      have E := E.mono s4.b
      have M := M.mono s4
      refine ws_no S ((et_cmp cm_eqS (ev_v E 3) ev_str).cast (by decide)) fun B4 H4 s4 S => ?_
      have E := E.mono s4.b
      have M := M.mono s4
      refine ws_retOwn S ?_ h0 (ev_v E 2) q
      unfold doStep
      rw [hkk, List.map_set]
      exact M
    | high =>
      rw [hkk] at E
      refine ws_no S ((et_cmp cm_eqS (ev_v E 3) ev_str).cast (by decide)) fun B4 H4 s4 S => ?_
      have E := E.mono s4.b
      have M := M.mono s4
      refine ws_no S ((et_cmp (cm_inS lsT) (ev_v E 3) (ev_tup ((["low", "sort"] : List Str).map PyData.str) (ea2 ev_str ev_str) (Nat.le_of_ble_eq_true rfl))).cast (by decide)) fun B4 H4 s4 S => ?_
      have E := E.mono s4.b
      have M := M.mono s4
      refine ws_ifT S ((et_cmp cm_eqS (ev_v E 3) ev_str).cast (by decide)) fun B4 H4 s4 S => ?_
      have E := E.mono s4.b
      have M := M.mono s4
      refine ws_setix S M h0 (ev_max2 (T_free T) rfl (ev_ixL (ev_v E 1) (ev_v E 4) a1) (ev_ixL (ev_v E 1) (ev_v E 5) a2)) (ev_v E 2) (ev_v E 4) (x1 _ (by rw [List.length_map]; exact hn)) (fun B3 H3 sb3 S M _ => ws_nil ?_)
      have E := E.mono sb3
      refine ws_no S ((et_cmp cm_eqS (ev_v E 3) ev_str).cast (by decide)) fun B4 H4 s4 S => ?_
      have E := E.mono s4.b
      have M := M.mono s4
      refine ws_retOwn S ?_ h0 (ev_v E 2) q
      unfold doStep
      rw [hkk, List.map_set]
      exact M
    | low =>
      rw [hkk] at E
      refine ws_no S ((et_cmp cm_eqS (ev_v E 3) ev_str).cast (by decide)) fun B4 H4 s4 S => ?_
      have E := E.mono s4.b
      have M := M.mono s4
      refine ws_ifT S ((et_cmp (cm_inS lsT) (ev_v E 3) (ev_tup ((["low", "sort"] : List Str).map PyData.str) (ea2 ev_str ev_str) (Nat.le_of_ble_eq_true rfl))).cast (by decide)) fun B4 H4 s4 S => ?_
      have E := E.mono s4.b
      have M := M.mono s4
      refine ws_setix S M h0 (ev_min2 (T_free T) rfl (ev_ixL (ev_v E 1) (ev_v E 4) a1) (ev_ixL (ev_v E 1) (ev_v E 5) a2)) (ev_v E 2) (ev_v E 4) (x1 _ (by rw [List.length_map]; exact hn)) (fun B3 H3 sb3 S M _ => ws_nil ?_)
      have E := E.mono sb3
      refine ws_no S ((et_cmp cm_eqS (ev_v E 3) ev_str).cast (by decide)) fun B4 H4 s4 S => ?_
      have E := E.mono s4.b
      have M := M.mono s4
      refine ws_no S ((et_cmp cm_eqS (ev_v E 3) ev_str).cast (by decide)) fun B4 H4 s4 S => ?_
      have E := E.mono s4.b
      have M := M.mono s4
      refine ws_retOwn S ?_ h0 (ev_v E 2) q
      unfold doStep
      rw [hkk, List.map_set]
      exact M
    | sort =>
      rw [hkk] at E
      refine ws_no S ((et_cmp cm_eqS (ev_v E 3) ev_str).cast (by decide)) fun B4 H4 s4 S => ?_
      have E := E.mono s4.b
      have M := M.mono s4
      refine ws_ifT S ((et_cmp (cm_inS lsT) (ev_v E 3) (ev_tup ((["low", "sort"] : List Str).map PyData.str) (ea2 ev_str ev_str) (Nat.le_of_ble_eq_true rfl))).cast (by decide)) fun B4 H4 s4 S => ?_
      have E := E.mono s4.b
      have M := M.mono s4
      refine ws_setix S M h0 (ev_min2 (T_free T) rfl (ev_ixL (ev_v E 1) (ev_v E 4) a1) (ev_ixL (ev_v E 1) (ev_v E 5) a2)) (ev_v E 2) (ev_v E 4) (x1 _ (by rw [List.length_map]; exact hn)) (fun B3 H3 sb3 S M _ => ws_nil ?_)
      have E := E.mono sb3
      refine ws_no S ((et_cmp cm_eqS (ev_v E 3) ev_str).cast (by decide)) fun B4 H4 s4 S => ?_
      have E := E.mono s4.b
      have M := M.mono s4
      refine ws_ifT S ((et_cmp cm_eqS (ev_v E 3) ev_str).cast (by decide)) fun B4 H4 s4 S => ?_
      have E := E.mono s4.b
      have M := M.mono s4
      refine ws_setix S M h0 (ev_max2 (T_free T) rfl (ev_ixL (ev_v E 1) (ev_v E 4) a1) (ev_ixL (ev_v E 1) (ev_v E 5) a2)) (ev_v E 2) (ev_v E 5) (x2 _ (by rw [List.length_set, List.length_map]; exact hn)) (fun B3 H3 sb3 S M _ => ws_nil ?_)
      have E := E.mono sb3
      refine ws_retOwn S ?_ h0 (ev_v E 2) q
      unfold doStep
      rw [hkk, List.map_set, List.map_set]
      exact M
theorem cl_L_run (T : Tx K mg) (n : Nat) (gs : List Gate) (xs : List Int) (h : ∀ g ∈ gs, Vg n g) (hn : xs.length = n) (hn2 : n ≤ 1000) : Cl P w K mg base "_law_run" ["_law_gates_here", "_law_content"] 2 (spD none [K3.IsD (.list (gs.map encG)), K3.IsD (encI xs)] (K3.IsD (encI (runG gs xs)))) :=
  cl_mk T 65 (d := d_L_run) rfl rfl rfl rfl (by decide +kernel) (fun _ _ _ _ _ _ us hl => match us, hl with | [_, _], _ => rfl) fun fa fdd FF => by
    refine fn_ok FF sc_L_run rfl fun cdv A outer s E0 B H vs Q hr S E q => ?_
    refine ws_set S E 2 (EvM.ev (em_listL (T_free T) (ev_v E 1))) (fun p B1 H1 s1 S r E => ?_) sc_L_run.nd
    refine ws_for (xs := gs) (enc := encG) (u := fun q Γ => Γ.set 3 (some (K3.IsD (encG q)))) S (wk_list (ev_v E 0)) (pg_name (i := 3) sc_L_run.nd rfl (by first | exact Or.inl rfl | exact Or.inr rfl)) (fun x _ => tg1) rfl PassesOwn.never
      (fun i => [some (K3.IsD (.list (gs.map encG))), some (K3.IsD (encI xs)), some (K3.IsD (encI (runG (gs.take i) xs))), none]) (fun i B H => True) (fun _ _ _ _ _ s M => M) (fun B1 H1 s1 S => ⟨(E.mono s1.b).to, trivial⟩) (fun i x σ1 B2 H2 hx S2 sb E2 _ => ?_) (fun σ1 B2 H2 S2 sb E2 _ => ?_)
    · have hm := h x (List.mem_of_getElem? hx)
      refine ws_set S2 E2 2 (EvM.ev (em_call (cl_L_done T n x (runG (gs.take i) xs) hm (by rw [run_len, hn]) hn2) hr (ea2 (ev_v E2 3) (ev_v E2 2)))) (fun v B3 H3 s3 S3 r E3 => ws_nil ⟨B3, s3.b, S3, ?_, trivial⟩) sc_L_run.nd
      rw [runG_take hx]
      exact E3.to
    · rw [List.take_length] at E2
      exact ws_ret S2 (ev_v E2 2) q
theorem cl_L_is_under (T : Tx K mg) (a b : Lot) {n : Int} (hb : Vl n b) (hz : a.length ≤ 1000) : Cl P w K mg base "_law_is_under" ["_law_one", "_law_other_now"] 1 (spD none [K3.IsD (encL a), K3.IsD (encL b)] (K3.IsD (.bool (under a b)))) :=
  cl_mk T 66 (d := d_L_is_under) rfl rfl rfl rfl (by decide +kernel) (fun _ _ _ _ _ _ us hl => match us, hl with | [_, _], _ => rfl) fun fa fdd FF => by
    refine fn_ok FF sc_L_is_under rfl fun cdv A outer s E0 B H vs Q hr S E q => ?_
    refine ws_set S E 2 (ev_dict (T_free T) rfl (kvs := b) (em_listT (T_free T) (ev_v E 1)).ev) (fun v B1 H1 s1 S r E => ?_) sc_L_is_under.nd
    rw [hb.merge] at E
    refine ws_ret S (Ev.cast (ev_allB (T_free T) (em_lc (xs := a) (enc := pairD) (f := fun p => .bool (match getI b p.1 with | none => false | some v => decide (p.2 ≤ v))) (own := [("_law_lane_now", 3), ("_law_number", 4)]) E (wk_tup (ev_v E 0)).s rfl sc_L_is_under.nd (blkOk_by (own := [("_law_lane_now", 3), ("_law_number", 4)]) (N := N_L_is_under) (sc := defScope s_L_is_under) (by decide +kernel)) (fun _ _ _ _ _ => pg_tup rfl (pgs_cons (pg_name (i := 3) sc_L_is_under.nd rfl (by first | exact Or.inl rfl | exact Or.inr rfl)) (pgs_cons (pg_name (i := 4) sc_L_is_under.nd rfl (by first | exact Or.inl rfl | exact Or.inr rfl)) pgs_nil))) (fun x _ => tg2 (e1 := .int x.1) (e2 := .int x.2))
      (fun s0 H0 C cl fp p σ1 B1 H1 hx s1 E1 => ?_) (by omega))) rfl) q
    cases g : getI b p.1 with
    | none => exact Ev.cast (ev_and2 (k := false) (k' := false) (Ev.cast (ev_din hr dkD (ev_v E1 3) (ev_v E1 2)) (by rw [g]; rfl)) (fun z => nomatch z)) rfl
    | some v => exact Ev.cast (ev_and2 (k := true) (k' := decide (p.2 ≤ v)) (Ev.cast (ev_din hr dkD (ev_v E1 3) (ev_v E1 2)) (by rw [g]; rfl)) (fun _ => ev_cmp cm_le (ev_v E1 4) (ev_dget hr dkD (ev_v E1 2) (ev_v E1 3) g))) rfl
end
end K3
/-! TEXT G2 -/
set_option Elab.async false
set_option linter.all false
set_option maxRecDepth 100000
set_option maxHeartbeats 1000000
namespace K3
open PySem PySem.Spec L2
section
variable {P : Program} {w : World} {K : PySem.W.Frag} {mg : Str → Option Value} {base : Heap}
theorem cl_L_least (T : Tx K mg) (f : Fam) {n : Int} (hn : n ≤ 12) (hv : ∀ l ∈ f, Vl n l) (hz : f.length ≤ 10000) : Cl P w K mg base "_law_least" ["_law_lots"] 2 (spD none [K3.IsD (encF f)] (K3.IsD (encF (kept f)))) :=
  cl_mk T 67 (d := d_L_least) rfl rfl rfl rfl (by decide +kernel) (fun _ _ _ _ _ _ us hl => match us, hl with | [_], _ => rfl) fun fa fdd FF => by
    refine fn_ok FF sc_L_least rfl fun cdv A outer s E0 B H vs Q hr S E q => ?_
    have dl := ddp_len f
    have sl : (srt (ddp f)).length = (ddp f).length := (srt_perm _).length_eq
    have dm : ∀ l ∈ ddp f, Vl n l := fun l hl => hv l (mem_ddp.mp hl)
    have sm : ∀ l ∈ srt (ddp f), Vl n l := fun l hl => dm l ((srt_perm _).mem_iff.mp hl)
    rw [← least_kept (fun l hl => (hv l hl).up)] at q
    refine ws_set S E 1 (R := K3.IsD (encF (srt (ddp f)))) (EvM.ev (em_sorted (bs := ddp f) (enc := encL) hr (T_free T) (EvM.ev (em_keysT (f := f) hr (T_free T) (T_free T) rfl (EvM.ev (em_lc (xs := f) (enc := encL) (f := fun l => .tuple [encL l, .bool true]) (own := [("_law_lot", 2)]) E (wk_list (ev_v E 0)).s rfl sc_L_least.nd (blkOk_by (own := [("_law_lot", 2)]) (N := N_L_least) (sc := defScope s_L_least) (by decide +kernel)) (fun _ _ _ _ _ => pg_name (i := 2) sc_L_least.nd rfl (by first | exact Or.inl rfl | exact Or.inr rfl)) (fun x _ => tg1)
      (fun s0 H0 C cl fp l σ1 B1 H1 hx s1 E1 => ev_tup [encL l, .bool true] (ea2 (ev_v E1 2) ev_bl) (Nat.le_of_ble_eq_true rfl)) (by omega))))) (l_alls _) (l_sort fun l hl => (dm l hl).ne) (by omega) (fun l hl => ⟨Nat.le_trans (l_dep l) (by decide), l_can l⟩))) (fun v B1 H1 s1 S r E => ?_) sc_L_least.nd
    refine ws_ret S (EvM.ev (em_lcF (xs := srt (ddp f)) (enc := encL) (f := encL) (p := fun l => !(srt (ddp f)).any fun n => decide (n ≠ l) && under n l) (own := [("_law_lot", 2)]) E (wk_list (ev_v E 1)).s rfl sc_L_least.nd (blkOk_by (own := [("_law_lot", 2)]) (N := N_L_least) (sc := defScope s_L_least) (by decide +kernel)) (fun _ _ _ _ _ => pg_name (i := 2) sc_L_least.nd rfl (by first | exact Or.inl rfl | exact Or.inr rfl)) (fun x _ => tg1)
      (fun s0 H0 C cl fp l σ1 B1 H1 hx s1 E1 => et_not (et_val (ev_anyB (f := fun n => decide (n ≠ l) && under n l) (T_free T) (em_lc (xs := srt (ddp f)) (enc := encL) (own := [("_law_near", 3)]) E1 (wk_list (ev_v E1 1)).s rfl sc_L_least.nd (blkOk_by (own := [("_law_near", 3)]) (by rfl)) (fun _ _ _ _ _ => pg_name (i := 3) sc_L_least.nd rfl (by first | exact Or.inl rfl | exact Or.inr rfl)) (fun x _ => tg1)
        (fun s0 H0 C cl fp m σ2 B2 H2 hm s2 E2 => ev_and2 (Ev.cast (ev_cmp (cm_neD hr (l_shp m) (l_shp l)) (ev_v E2 3) (ev_v E2 2)) (by rw [l_eqv]; simp)) (fun _ => ev_call (cl_L_is_under T m l (sm l hx) (by have := vl_len (sm m hm); omega)) hr (ea2 (ev_v E2 3) (ev_v E2 2)))) (by omega))))) (fun s0 H0 C cl fp l σ1 B1 H1 hx hp s1 E1 => ev_v E1 2) (by omega))) q
theorem cl_L_join (T : Tx K mg) {n : Int} (a b : Lot) (ha : Vl n a) (hz : a.length ≤ 1000) (hz2 : b.length ≤ 1000) : Cl P w K mg base "_law_join" ["_law_one", "_law_other_now"] 1 (spD none [K3.IsD (encL a), K3.IsD (encL b)] (K3.IsD (encL (join a b)))) :=
  cl_mk T 68 (d := d_L_join) rfl rfl rfl rfl (by decide +kernel) (fun _ _ _ _ _ _ us hl => match us, hl with | [_, _], _ => rfl) fun fa fdd FF => by
    refine fn_ok FF sc_L_join rfl fun cdv A outer s E0 B H vs Q hr S E q => ?_
    refine ws_setN S E 2 (en_dict (T_free T) rfl (kvs := a) (em_listT (T_free T) (ev_v E 0)).ev) (fun p B1 H1 s1 S n1 n2 M E => ?_) sc_L_join.nd
    rw [ha.merge] at M
    refine ws_for (xs := b) (enc := pairD) (u := fun q Γ => (Γ.set 3 (some (K3.IsD (.int q.1)))).set 4 (some (K3.IsD (.int q.2)))) S (wk_tup (ev_v E 1)) (pg_tup rfl (pgs_cons (pg_name (i := 3) sc_L_join.nd rfl (by first | exact Or.inl rfl | exact Or.inr rfl)) (pgs_cons (pg_name (i := 4) sc_L_join.nd rfl (by first | exact Or.inl rfl | exact Or.inr rfl)) pgs_nil))) (fun x _ => tg2) rfl PassesOwn.never
      (fun i => [some (K3.IsD (encL a)), some (K3.IsD (encL b)), some (IsV (.ref p)), none, none]) (fun i B H => MuO none B H p (.dK (toK ((b.take i).foldl joinStep a)))) (fun _ _ _ _ _ s M => M.mono s) (fun B1 H1 s1 S => ⟨(E.mono s1.b).to, M.mono s1⟩) (fun i x σ1 B2 H2 hx S2 sb E2 M2 => ?_) (fun σ1 B2 H2 S2 sb E2 M2 => ?_)
    · have hl := (foldl_getI (b.take i) a (up_nk ha.up)).2.1
      have hl2 := List.length_take_le' i b
      refine ws_dput hr S2 M2 n2 (ev_max2 (T_free T) rfl (ev_dget2 hr (dkM M2) (ev_v E2 2) (ev_v E2 3) (ev_v E2 4)) (ev_v E2 4)) (ev_v E2 2) (ev_v E2 3) (by omega) (fun B3 H3 sb3 S3 M3 => ws_nil ⟨B3, sb3, S3, (E2.mono sb3).to, ?_⟩)
      rw [foldl_take hx]
      unfold joinStep
      rw [Int.max_comm]
      exact M3
    · rw [List.take_length] at M2
      have hl := (foldl_getI b a (up_nk ha.up)).2.1
      exact ws_ret S2 (ev_tupleL (T_free T) ((em_sorted (bs := b.foldl joinStep a) (enc := pairD) hr (T_free T) ((em_items (T_free T) rfl (dkM M2) (ev_v E2 2)).ev) (p_alls _) (p_sort _) (by omega) (fun p _ => ⟨Nat.le_trans (pr_dep p) (by decide), pr_can p⟩)).ev)) q
theorem cl_L_joins (T : Tx K mg) (f g : Fam) (hf : ∀ l ∈ f, Vl 12 l) (hg : ∀ l ∈ g, Vl 12 l) (hz : f.length ≤ 60) (hz2 : g.length ≤ 60) : Cl P w K mg base "_law_joins" ["_law_some", "_law_more"] 3 (spD none [K3.IsD (encF f), K3.IsD (encF g)] (K3.IsD (encF (joins f g)))) :=
  cl_mk T 69 (d := d_L_joins) rfl rfl rfl rfl (by decide +kernel) (fun _ _ _ _ _ _ us hl => match us, hl with | [_, _], _ => rfl) fun fa fdd FF => by
    refine fn_ok FF sc_L_joins rfl fun cdv A outer s E0 B H vs Q hr S E q => ?_
    have lz : ∀ {l : Lot}, Vl 12 l → l.length ≤ 1000 := fun h => by have := vl_len h; omega
    have hq : ∀ i, (joinsAll (f.take i) g).length ≤ 3600 := fun i => by
      rw [joinsAll_len]
      have := List.length_take_le' i f
      exact Nat.le_trans (Nat.mul_le_mul (Nat.le_trans this hz) hz2) (by decide)
    refine ws_setM S E 2 (em_lst [] ea_nil) (fun p B1 H1 s1 S n1 n2 M E => ?_) sc_L_joins.nd
    refine ws_for (xs := f) (enc := encL) (u := fun q Γ => Γ.set 3 (some (K3.IsD (encL q)))) S (wk_list (ev_v E 0)) (pg_name (i := 3) sc_L_joins.nd rfl (by first | exact Or.inl rfl | exact Or.inr rfl)) (fun x _ => tg1) rfl PassesOwn.never
      (fun i => [some (K3.IsD (encF f)), some (K3.IsD (encF g)), some (IsV (.ref p)), none, none]) (fun i B H => Mu none B H p ((joinsAll (f.take i) g).map encL)) (fun _ _ _ _ _ s M => M.mono s) (fun B1 H1 s1 S => ⟨(E.mono s1.b).to, M.mono s1⟩) (fun i x σ1 B2 H2 hx S2 sb E2 M2 => ?_) (fun σ1 B2 H2 S2 sb E2 M2 => ?_)
    · have hm := hf x (List.mem_of_getElem? hx)
      have h1 := hq i
      refine ws_ext S2 M2 n2 (ev_v E2 2) (EvM.ev (em_lc (xs := g) (enc := encL) (f := fun y => encL (join x y)) (own := [("_law_other_now", 4)]) E2 (wk_list (ev_v E2 1)).s rfl sc_L_joins.nd (blkOk_by (own := [("_law_other_now", 4)]) (N := N_L_joins) (sc := defScope s_L_joins) (by decide +kernel)) (fun _ _ _ _ _ => pg_name (i := 4) sc_L_joins.nd rfl (by first | exact Or.inl rfl | exact Or.inr rfl)) (fun x _ => tg1)
        (fun s0 H0 C cl fp y σ1 B1 H1 hy s1 E1 => ev_call (cl_L_join T x y hm (lz hm) (lz (hg y hy))) hr (ea2 (ev_v E1 3) (ev_v E1 4))) (by omega))) (by rw [List.length_map, List.length_map]; omega) (fun B3 H3 sb3 S3 M3 _ => ws_nil ⟨B3, sb3, S3, (E2.mono sb3).to, ?_⟩)
      rw [take_last hx]
      unfold joinsAll at M3 ⊢
      rw [List.flatMap_append, List.map_append]
      simpa [Function.comp_def] using M3
    · rw [List.take_length] at M2
      have h1 := hq f.length
      rw [List.take_length] at h1
      obtain ⟨B3, sb3, S3, r3⟩ := M2.frz S2 n2
      have E3 := (E2.mono sb3).re (R := K3.IsD _) 2 rfl r3
      exact ws_ret S3 (ev_call (cl_L_least T (joinsAll f g) (Int.le_refl 12) (Vl.all_join hf hg) (by omega)) hr (ea1 (ev_v E3 2))) q
theorem cl_L_raised (T : Tx K mg) (f : Fam) (n : Int) (hz : f.length ≤ 100000) (hl : ∀ l ∈ f, l.length ≤ 1000) : Cl P w K mg base "_law_raised" ["_law_lots", "_law_number"] 1 (spD none [K3.IsD (encF f), K3.IsD (.int n)] (K3.IsD (encF (raised f n)))) :=
  cl_mk T 70 (d := d_L_raised) rfl rfl rfl rfl (by decide +kernel) (fun _ _ _ _ _ _ us hl => match us, hl with | [_, _], _ => rfl) fun fa fdd FF => by
    refine fn_ok FF sc_L_raised rfl fun cdv A outer s E0 B H vs Q hr S E q => ?_
    refine ws_ret S (EvM.ev (ds := (raised f n).map encL) ?_) q
    rw [show (raised f n).map encL = f.map fun l => encL (l.map fun p => (p.1, p.2 + n)) from by unfold raised; rw [List.map_map]; rfl]
    refine em_lc (xs := f) (enc := encL) (own := [("_law_lot", 4)]) E (wk_list (ev_v E 0)).s rfl sc_L_raised.nd (blkOk_by (own := [("_law_lot", 4)]) (N := N_L_raised) (sc := defScope s_L_raised) (by decide +kernel)) (fun _ _ _ _ _ => pg_name (i := 4) sc_L_raised.nd rfl (by first | exact Or.inl rfl | exact Or.inr rfl)) (fun x _ => tg1)
      (fun s0 H0 C cl fp l σ1 B1 H1 hx s1 E1 => ev_tupleL (T_free T) (EvM.ev ?_)) hz
    rw [show (l.map fun p => (p.1, p.2 + n)).map pairD = l.map fun p => .tuple [.int p.1, .int (p.2 + n)] from by rw [List.map_map]; rfl]
    exact em_lc (xs := l) (enc := pairD) (own := [("_law_lane_now", 2), ("_law_a", 3)]) E1 (wk_tup (ev_v E1 4)).s rfl sc_L_raised.nd (blkOk_by (own := [("_law_lane_now", 2), ("_law_a", 3)]) (by rfl)) (fun _ _ _ _ _ => pg_tup rfl (pgs_cons (pg_name (i := 2) sc_L_raised.nd rfl (by first | exact Or.inl rfl | exact Or.inr rfl)) (pgs_cons (pg_name (i := 3) sc_L_raised.nd rfl (by first | exact Or.inl rfl | exact Or.inr rfl)) pgs_nil))) (fun x _ => tg2 (e1 := .int x.1) (e2 := .int x.2))
      (fun s0 H0 C cl fp p σ1 B1 H1 hp s1 E1 => ev_tup [.int p.1, .int (p.2 + n)] (ea2 (ev_v E1 2) (ev_add (ev_v E1 3) (ev_v E1 1))) (Nat.le_of_ble_eq_true rfl)) (by have := hl l hx; omega)
end
end K3
/-! TEXT G3 -/
set_option Elab.async false
set_option linter.all false
set_option maxRecDepth 100000
set_option maxHeartbeats 1000000
namespace K3
open PySem PySem.Spec L2
section
variable {P : Program} {w : World} {K : PySem.W.Frag} {mg : Str → Option Value} {base : Heap}
theorem extr_of {xs : List Int} {m : Int} (h1 : m ∈ xs) (h2 : ∀ y ∈ xs, m ≤ y) : extr true xs = m := by
  have := extr_true (xs := xs) (fun e => by rw [e] at h1; cases h1)
  have a := this.1 m h1
  have b := h2 _ this.2
  omega
theorem cl_L_corner (T : Tx K mg) (l : Lot) (f : Fam) (n : Nat) (hn : n ≤ 12) (hl : Vl n l) (hf : Wf n f) (hz : f.length ≤ 1000) : Cl P w K mg base "_law_corner" ["_law_lot", "_law_lots", "_law_lanes_here"] 1 (spD none [K3.IsD (encL l), K3.IsD (encF f), K3.IsD (.int n)] (K3.IsD (encI (cornerV l f n)))) :=
  cl_mk T 72 (d := d_L_corner) rfl rfl rfl rfl (by decide +kernel) (fun _ _ _ _ _ _ us hl => match us, hl with | [_, _, _], _ => rfl) fun fa fdd FF => by
    refine fn_ok FF sc_L_corner rfl fun cdv A outer s E0 B H vs Q hr S E q => ?_
    have lz : ∀ m ∈ f, m.length ≤ 12 := fun m hm => by have := vl_len ((hf.vl m hm).mono (by omega : (n : Int) ≤ 12)); omega
    have hne : ∀ m ∈ f, m.map (·.2) ≠ [] := fun m hm e => (hf.vl m hm).ne (List.map_eq_nil_iff.mp e)
    have h0 := extr_true (numsOf_ne hf)
    have hmin : (∀ y ∈ f.map (fun m => extr true (m.map (·.2))), extr true (numsOf f) ≤ y) ∧ extr true (numsOf f) ∈ f.map (fun m => extr true (m.map (·.2))) := by
      have lb : ∀ y ∈ f.map (fun m => extr true (m.map (·.2))), extr true (numsOf f) ≤ y := fun y hy => by
        obtain ⟨m, hm, rfl⟩ := List.mem_map.mp hy
        obtain ⟨p, hp, e⟩ := List.mem_map.mp (extr_true (hne m hm)).2
        have e : p.2 = extr true (m.map (·.2)) := e
        rw [← e]
        exact h0.1 _ (mem_numsOf hm hp)
      refine ⟨lb, ?_⟩
      obtain ⟨m, hm, h2⟩ := List.mem_flatMap.mp h0.2
      have h3 := (extr_true (hne m hm)).1 _ h2
      have h4 := lb _ (List.mem_map.mpr ⟨m, hm, rfl⟩)
      exact List.mem_map.mpr ⟨m, hm, by show extr true (m.map (·.2)) = extr true (numsOf f); omega⟩
    refine ws_asgG S E (ev_tup [.int (farOf f), dictD l] (ea2 (ev_max2 (T_free T) rfl ev_int (ev_sub ev_int (ev_minL (mx := extr true (numsOf f)) (ns := f.map fun m => extr true (m.map (·.2))) (T_free T) rfl (Ev.cast (EvM.ev (em_lc (xs := f) (enc := encL) (f := fun m => .int (extr true (m.map (·.2)))) (own := [("_law_near", 7)]) E (wk_list (ev_v E 1)).s rfl sc_L_corner.nd (blkOk_by (own := [("_law_near", 7)]) (N := N_L_corner) (sc := defScope s_L_corner) (by decide +kernel)) (fun _ _ _ _ _ => pg_name (i := 7) sc_L_corner.nd rfl (by first | exact Or.inl rfl | exact Or.inr rfl)) (fun x _ => tg1)
      (fun s0 H0 C cl fp m σ1 B1 H1 hm s1 E1 => ev_minL (mx := extr true (m.map (·.2))) (ns := m.map (·.2)) (T_free T) rfl (Ev.cast (EvM.ev (em_lc (xs := m) (enc := pairD) (f := fun p => .int p.2) (own := [("_law_lane_now", 5), ("_law_number", 6)]) E1 (wk_tup (ev_v E1 7)).s rfl sc_L_corner.nd (blkOk_by (own := [("_law_lane_now", 5), ("_law_number", 6)]) (by rfl)) (fun _ _ _ _ _ => pg_tup rfl (pgs_cons (pg_name (i := 5) sc_L_corner.nd rfl (by first | exact Or.inl rfl | exact Or.inr rfl)) (pgs_cons (pg_name (i := 6) sc_L_corner.nd rfl (by first | exact Or.inl rfl | exact Or.inr rfl)) pgs_nil))) (fun x _ => tg2 (e1 := .int x.1) (e2 := .int x.2))
        (fun s0 H0 C cl fp p σ2 B2 H2 hp s2 E2 => ev_v E2 6) (by have := lz m hm; omega))) (by rw [List.map_map]; rfl)) (extr_true (hne m hm)).2 (extr_true (hne m hm)).1) (by omega))) (by rw [List.map_map]; rfl)) hmin.2 hmin.1)))
      (Ev.cast (ev_dict (T_free T) rfl (kvs := l) (em_listT (T_free T) (ev_v E 0)).ev) (by rw [hl.merge]))) (Nat.le_of_ble_eq_true rfl)) (pg_tup rfl (pgs_cons (pg_name (i := 3) sc_L_corner.nd rfl (by first | exact Or.inl rfl | exact Or.inr rfl)) (pgs_cons (pg_name (i := 4) sc_L_corner.nd rfl (by first | exact Or.inl rfl | exact Or.inr rfl)) pgs_nil))) (tg2 (e1 := .int (farOf f)) (e2 := dictD l)) (fun σ' B4 H4 s4 S E => ?_)
    have e2 : rngD ((n : Int).toNat) = (List.range n).map fun (i : Nat) => PyData.int (i : Int) := by unfold rngD; rw [Int.toNat_natCast]
    have ec : encI (cornerV l f n) = .list ((List.range n).map fun (j : Nat) => PyData.int (match getI l (j : Nat) with | some v => 0 - v | none => farOf f)) := by
      unfold encI
      congr 1
      apply List.ext_getElem?
      intro j
      rw [List.getElem?_map, List.getElem?_map]
      rcases Nat.lt_or_ge j n with hj | hj
      · rw [List.getElem?_range hj]
        have hc := corner_at (l := l) (f := f) hl (i := (j : Int)) (Int.natCast_nonneg j) (by omega)
        unfold xv at hc
        rw [Int.toNat_natCast] at hc
        rw [getD_some (by rw [corner_len]; exact hj), hc]
        show some (PyData.int _) = some (PyData.int _)
        cases getI l (j : Nat) with
        | none => rfl
        | some v => simp
      · rw [List.getElem?_eq_none (by rw [corner_len]; exact hj), List.getElem?_eq_none (by rw [List.length_range]; exact hj)] <;> rfl
    rw [ec] at q
    refine ws_ret S (EvM.ev (em_lc (xs := List.range n) (enc := fun (j : Nat) => PyData.int (j : Int)) (own := [("_law_lane_now", 5)]) E ?_ rfl sc_L_corner.nd (blkOk_by (own := [("_law_lane_now", 5)]) (N := N_L_corner) (sc := defScope s_L_corner) (by decide +kernel)) (fun _ _ _ _ _ => pg_name (i := 5) sc_L_corner.nd rfl (by first | exact Or.inl rfl | exact Or.inr rfl)) (fun x _ => tg1)
      (fun s0 H0 C cl fp j σ1 B1 H1 hj s1 E1 => ?_) (by rw [List.length_range]; omega))) q
    · rw [← e2]
      exact (wk_range (T_free T) (ev_v E 2) (by omega) (by omega)).s
    · cases g : getI l (j : Nat) with
      | none => exact ev_if (k := false) (EvT.cast (et_din hr dkD (ev_v E1 5) (ev_v E1 4)) (by rw [g]; rfl)) (fun z => nomatch z) (fun _ => ev_v E1 3)
      | some v => exact ev_if (k := true) (EvT.cast (et_din hr dkD (ev_v E1 5) (ev_v E1 4)) (by rw [g]; rfl)) (fun _ => ev_sub ev_int (ev_dget hr dkD (ev_v E1 4) (ev_v E1 5) g)) (fun z => nomatch z)
def lkStep (acc : List Int) (p : Int × Int) : List Int := addK acc p.1
def lkLot (acc : List Int) (l : Lot) : List Int := l.foldl lkStep acc
def lk (f : Fam) : List Int := f.foldl lkLot []
theorem mem_addK {ks : List Int} {k i : Int} : i ∈ addK ks k ↔ i ∈ ks ∨ i = k := by
  unfold addK
  split
  · rename_i h
    exact ⟨.inl, fun z => z.elim id fun e => e ▸ h⟩
  · rw [List.mem_append, List.mem_singleton]
theorem nd_addK {ks : List Int} {k : Int} (h : ks.Nodup) : (addK ks k).Nodup := by
  unfold addK
  split
  · exact h
  · rename_i hk
    exact List.nodup_append.mpr ⟨h, List.pairwise_singleton _ _, fun a ha b hb e => hk (by rw [List.mem_singleton.mp hb] at e; exact e ▸ ha)⟩
theorem lkLot_ok (l : Lot) : ∀ acc : List Int, acc.Nodup → (lkLot acc l).Nodup ∧ ∀ i, i ∈ lkLot acc l ↔ i ∈ acc ∨ ∃ p ∈ l, p.1 = i := by
  induction l with
  | nil => intro acc h; exact ⟨h, fun i => by simp [lkLot]⟩
  | cons p l ih =>
    intro acc h
    obtain ⟨h1, h2⟩ := ih (addK acc p.1) (nd_addK h)
    refine ⟨h1, fun i => ?_⟩
    show i ∈ lkLot (addK acc p.1) l ↔ _
    rw [h2, mem_addK]
    constructor
    · rintro ((z | z) | ⟨q, hq, e⟩)
      · exact .inl z
      · exact .inr ⟨p, List.mem_cons_self, z.symm⟩
      · exact .inr ⟨q, List.mem_cons_of_mem _ hq, e⟩
    · rintro (z | ⟨q, hq, e⟩)
      · exact .inl (.inl z)
      · rcases List.mem_cons.mp hq with rfl | hq
        · exact .inl (.inr e.symm)
        · exact .inr ⟨q, hq, e⟩
theorem lk_ok (f : Fam) : (lk f).Nodup ∧ ∀ i, i ∈ lk f ↔ ∃ l ∈ f, ∃ p ∈ l, p.1 = i := by
  have key : ∀ (f : Fam) (acc : List Int), acc.Nodup → (f.foldl lkLot acc).Nodup ∧ ∀ i, i ∈ f.foldl lkLot acc ↔ i ∈ acc ∨ ∃ l ∈ f, ∃ p ∈ l, p.1 = i := by
    intro f
    induction f with
    | nil => intro acc h; exact ⟨h, fun i => by simp⟩
    | cons l f ih =>
      intro acc h
      obtain ⟨h1, h2⟩ := lkLot_ok l acc h
      obtain ⟨h3, h4⟩ := ih (lkLot acc l) h1
      refine ⟨h3, fun i => ?_⟩
      rw [List.foldl_cons, h4, h2]
      constructor
      · rintro ((z | ⟨p, hp, e⟩) | ⟨m, hm, e⟩)
        · exact .inl z
        · exact .inr ⟨l, List.mem_cons_self, p, hp, e⟩
        · exact .inr ⟨m, List.mem_cons_of_mem _ hm, e⟩
      · rintro (z | ⟨m, hm, p, hp, e⟩)
        · exact .inl (.inl z)
        · rcases List.mem_cons.mp hm with rfl | hm
          · exact .inl (.inr ⟨p, hp, e⟩)
          · exact .inr ⟨m, hm, p, hp, e⟩
  obtain ⟨h1, h2⟩ := key f [] List.nodup_nil
  exact ⟨h1, fun i => by unfold lk; rw [h2]; simp⟩
theorem bnd_len {ks : List Int} {n : Nat} (h : ks.Nodup) (hb : ∀ i ∈ ks, 0 ≤ i ∧ i < n) : ks.length ≤ n := by
  have h1 := srtI_lt h
  have hp : (srtI ks).Perm ks := List.mergeSort_perm _ _
  rw [← hp.length_eq]
  have key : ∀ (l : List Int) (a : Int), l.Pairwise (fun p q => p < q) → (∀ p ∈ l, a ≤ p ∧ p < n) → a ≤ n → (l.length : Int) ≤ n - a := by
    intro l
    induction l with
    | nil => intro a _ _ h; simp; omega
    | cons p l ih =>
      intro a h1 h2 h3
      have h4 := List.pairwise_cons.mp h1
      have h5 := h2 p List.mem_cons_self
      have h6 := ih (p + 1) h4.2 (fun q hq => ⟨by have := h4.1 q hq; omega, (h2 q (List.mem_cons_of_mem _ hq)).2⟩) (by omega)
      rw [List.length_cons]
      omega
  have := key (srtI ks) 0 h1 (fun p hp' => hb p (hp.mem_iff.mp hp')) (by omega)
  omega
theorem lk_lanes {f : Fam} (hn : ∀ l ∈ f, Nk l) : srtI (lk f) = lanesIn f := by
  obtain ⟨h1, h2⟩ := lk_ok f
  refine ints_ext (srtI_lt h1) (srtI_lt (lanesRaw_nd hn)) fun i => ?_
  have hp : (srtI (lk f)).Perm (lk f) := List.mergeSort_perm _ _
  rw [hp.mem_iff, h2, mem_lanesIn]
theorem cl_L_lanes (T : Tx K mg) (f : Fam) (n : Nat) (hn : n ≤ 12) (hf : Wf n f) : Cl P w K mg base "_law_lanes" ["_law_lots"] 1 (spD none [K3.IsD (encF f)] (K3.IsD (encI (lanesIn f)))) :=
  cl_mk T 73 (d := d_L_lanes) rfl rfl rfl rfl (by decide +kernel) (fun _ _ _ _ _ _ us hl => match us, hl with | [_], _ => rfl) fun fa fdd FF => by
    refine fn_ok FF sc_L_lanes rfl fun cdv A outer s E0 B H vs Q hr S E q => ?_
    have lk_b : ∀ (g : Fam), (∀ l ∈ g, l ∈ f) → ∀ i ∈ lk g, 0 ≤ i ∧ i < n := fun g hg i hi => by
      obtain ⟨l, hl, p, hp, e⟩ := ((lk_ok g).2 i).mp hi
      rw [← e]; exact (hf.vl l (hg l hl)).rg p hp
    refine ws_setN S E 1 en_dnew (fun p B1 H1 s1 S n1 n2 M E => ?_) sc_L_lanes.nd
    refine ws_for (xs := f) (enc := encL) (u := fun q Γ => Γ.set 2 (some (K3.IsD (encL q)))) S (wk_list (ev_v E 0)) (pg_name (i := 2) sc_L_lanes.nd rfl (by first | exact Or.inl rfl | exact Or.inr rfl)) (fun x _ => tg1) rfl PassesOwn.never
      (fun i => [some (K3.IsD (encF f)), some (IsV (.ref p)), none, none, none]) (fun i B H => MuO none B H p (.dK (toB (lk (f.take i))))) (fun _ _ _ _ _ s M => M.mono s) (fun B1 H1 s1 S => ⟨(E.mono s1.b).to, M.mono s1⟩) (fun i l σ1 B2 H2 hx S2 sb E2 M2 => ?_) (fun σ1 B2 H2 S2 sb E2 M2 => ?_)
    · have ht : lk (f.take (i + 1)) = lkLot (lk (f.take i)) l := foldl_take hx
      have hl := List.mem_of_getElem? hx
      have nd0 := (lk_ok (f.take i)).1
      have z0 := bnd_len nd0 (lk_b (f.take i) fun m hm => List.mem_of_mem_take hm)
      have lz : l.length ≤ 12 := by have := vl_len ((hf.vl l hl).mono (by omega : (n : Int) ≤ 12)); omega
      have zl : ∀ (acc : List Int) (l : Lot), (lkLot acc l).length ≤ acc.length + l.length := by
        intro acc l
        induction l generalizing acc with
        | nil => simp [lkLot]
        | cons p l ih =>
          have h1 := ih (addK acc p.1)
          have h2 : (addK acc p.1).length ≤ acc.length + 1 := by unfold addK; split <;> simp
          show (lkLot (addK acc p.1) l).length ≤ _
          rw [List.length_cons]; omega
      refine ws_for (xs := l) (enc := pairD) (u := fun q Γ => (Γ.set 3 (some (K3.IsD (.int q.1)))).set 4 (some (K3.IsD (.int q.2)))) S2 (wk_tup (ev_v E2 2)) (pg_tup rfl (pgs_cons (pg_name (i := 3) sc_L_lanes.nd rfl (by first | exact Or.inl rfl | exact Or.inr rfl)) (pgs_cons (pg_name (i := 4) sc_L_lanes.nd rfl (by first | exact Or.inl rfl | exact Or.inr rfl)) pgs_nil))) (fun x _ => tg2) rfl PassesOwn.never
        (fun j => [some (K3.IsD (encF f)), some (IsV (.ref p)), none, none, none]) (fun j B H => MuO none B H p (.dK (toB (lkLot (lk (f.take i)) (l.take j))))) (fun _ _ _ _ _ s M => M.mono s) (fun B1 H1 s1 S => ⟨(E2.mono s1.b).to, M2.mono s1⟩) (fun j x σ3 B3 H3 hx3 S3 sb3 E3 M3 => ?_) (fun σ3 B3 H3 S3 sb3 E3 M3 => ?_)
      · have ht3 : lkLot (lk (f.take i)) (l.take (j + 1)) = addK (lkLot (lk (f.take i)) (l.take j)) x.1 := foldl_take hx3
        refine ws_dputB hr S3 M3 n2 ev_bl (ev_v E3 1) (ev_v E3 3) (by have := zl (lk (f.take i)) (l.take j); have := List.length_take_le' j l; omega) (fun B4 H4 sb4 S4 M4 => ws_nil ⟨B4, sb4, S4, (E3.mono sb4).to, ?_⟩)
        rw [ht3]; exact M4
      · rw [List.take_length] at M3
        refine ws_nil ⟨B3, sb3, S3, E3, ?_⟩
        rw [ht]; exact M3
    · rw [List.take_length] at M2
      have z := bnd_len (lk_ok f).1 (lk_b f fun m hm => hm)
      have e : encI (lanesIn f) = .list ((srtI (lk f)).map .int) := by rw [lk_lanes hf.nk]; rfl
      rw [e] at q
      exact ws_ret S2 (EvM.ev (em_sortedDB (T_free T) rfl M2 (ev_v E2 1) (by omega))) q
end
end K3
/-! TEXT G4 -/
set_option Elab.async false
set_option linter.all false
set_option maxRecDepth 100000
set_option maxHeartbeats 1000000
namespace K3
open PySem PySem.Spec L2
section
variable {P : Program} {w : World} {K : PySem.W.Frag} {mg : Str → Option Value} {base : Heap}
theorem Sl.put1 {τ : L2.St} {B : Hp} {Γ : List (Option Rt)} {i : Nat} {v : V} {R : Rt} [mr : Mn R] (E : Sl (τ.set i (some v)) B Γ) (hi : i < Γ.length) (r : R v B) : Sl (τ.set i (some v)) B (Γ.set i (some R)) := by
  refine ⟨by rw [List.length_set (as := Γ)]; exact E.1, fun j R' hj => ?_⟩
  by_cases hij : i = j
  · subst hij
    rw [List.getElem?_set_self hi] at hj
    cases hj
    exact ⟨v, List.getElem?_set_self (by have := E.1; rw [List.length_set] at this; omega), fun B2 e => mr.mn v _ _ e r⟩
  · rw [List.getElem?_set_ne hij] at hj
    exact E.2 j R' hj
theorem max_ex : ∀ {ns : List Int}, ns ≠ [] → ∃ mx, mx ∈ ns ∧ ∀ y ∈ ns, y ≤ mx
  | [], h => absurd rfl h
  | [x], _ => ⟨x, List.mem_cons_self, fun y hy => by rw [List.mem_singleton.mp hy]; exact Int.le_refl _⟩
  | x :: z :: ns, _ => by
    obtain ⟨mx, h1, h2⟩ := max_ex (ns := z :: ns) (by simp)
    by_cases h : mx ≤ x
    · exact ⟨x, List.mem_cons_self, fun y hy => (List.mem_cons.mp hy).elim (fun e => by omega) fun hy => by have := h2 y hy; omega⟩
    · exact ⟨mx, List.mem_cons_of_mem _ h1, fun y hy => (List.mem_cons.mp hy).elim (fun e => by omega) (h2 y)⟩
/-- the rows, or None -/
def TR (k n : Nat) (gs : List Gate) : Rt := fun v B => (FewAll k n gs ∧ Dq B v (encT (told n gs))) ∨ v = .non
instance {k n : Nat} {gs : List Gate} : Mn (TR k n gs) := ⟨fun v B B' e h => h.imp (fun ⟨a, b⟩ => ⟨a, b.mono e⟩) id⟩
theorem cl_L_told (T : Tx K mg) (n k : Nat) (gs : List Gate) (hn1 : 1 ≤ n) (hn2 : n ≤ 12) (hk1 : 1 ≤ k) (hk : k ≤ 60) (hv : ∀ g ∈ gs, Vg n g) : Cl P w K mg base "_law_told" ["_law_lanes_here", "_law_gates_here", "_law_most"] 4 (spD none [K3.IsD (.int n), K3.IsD (.list (gs.map encG)), K3.IsD (.int k)] (TR k n gs)) :=
  cl_mk T 71 (d := d_L_told) rfl rfl rfl rfl (by decide +kernel) (fun _ _ _ _ _ _ us hl => match us, hl with | [_, _, _], _ => rfl) fun fa fdd FF => by
    refine fn_ok FF sc_L_told rfl fun cdv A outer s E0 B H vs Q hr S E q => ?_
    have e2 : rngD ((n : Int).toNat) = (List.range n).map fun (i : Nat) => PyData.int (i : Int) := by unfold rngD; rw [Int.toNat_natCast]
    have e1 : encT (told0 n) = .list ((List.range n).map fun (i : Nat) => encF [[((i : Int), 0)]]) := by unfold told0 encT; rw [List.map_map]; rfl
    refine ws_lc (xs := List.range n) (enc := fun (i : Nat) => PyData.int (i : Int)) (f := fun (i : Nat) => encF [[((i : Int), 0)]]) (own := [("_law_lane_now", 8)]) S E 3 (by rw [← e2]; exact (wk_range (T_free T) (ev_v E 0) (by omega) (by omega)).s) rfl sc_L_told.nd (blkOk_by (own := [("_law_lane_now", 8)]) (N := N_L_told) (sc := defScope s_L_told) (by decide +kernel)) (fun _ _ _ _ _ => pg_name (i := 8) sc_L_told.nd rfl (by first | exact Or.inl rfl | exact Or.inr rfl)) (fun x _ => tg1)
      (fun s0 H0 C cl fp i σ1 B1 H1 hx s1 E1 => EvM.ev (em_lst [encL [((i : Int), 0)]] (ea1 (ev_tup [pairD ((i : Int), 0)] (ea1 (ev_tup [.int (i : Int), .int 0] (ea2 (ev_v E1 8) ev_int) (Nat.le_of_ble_eq_true rfl))) (Nat.le_of_ble_eq_true rfl))) (Nat.le_of_ble_eq_true rfl))) (by rw [List.length_range]; omega) (fun p B1 H1 s1 S n1 h0 M E => ?_)
    obtain ⟨B2, sb2, S, r2⟩ := M.frz S h0
    rw [← e1] at r2
    have E := (E.mono sb2).re (R := K3.IsD (encT (told0 n))) 3 rfl r2
    refine ws_for (xs := gs) (enc := encG) (u := fun g Γ => ((Γ.set 4 (some (K3.IsD (.str g.kind.s)))).set 5 (some (K3.IsD (.int g.one)))).set 6 (some (K3.IsD (.int g.other)))) S (wk_list (ev_v E 1)) (pg_tup rfl (pgs_cons (pg_name (i := 4) sc_L_told.nd rfl (by first | exact Or.inl rfl | exact Or.inr rfl)) (pgs_cons (pg_name (i := 5) sc_L_told.nd rfl (by first | exact Or.inl rfl | exact Or.inr rfl)) (pgs_cons (pg_name (i := 6) sc_L_told.nd rfl (by first | exact Or.inl rfl | exact Or.inr rfl)) pgs_nil)))) (fun x _ => tg3) rfl PassesOwn.never
      (fun i => [some (K3.IsD (.int n)), some (K3.IsD (.list (gs.map encG))), some (K3.IsD (.int k)), some (K3.IsD (encT (told n (gs.take i)))), none, none, none, none, none, none]) (fun i _ _ => ∀ j, j ≤ i → few k (told n (gs.take j))) (fun _ _ _ _ _ _ h => h) (fun B1 H1 s1 S => ⟨(E.mono s1.b).to, fun j hj => ?_⟩) (fun i g σ1 B2 H2 hx S sb E hJ => ?_) (fun σ1 B2 H2 S2 sb E2 hJ => ?_)
    · obtain rfl : j = 0 := by omega
      intro f hf
      obtain ⟨i, _, rfl⟩ := List.mem_map.mp hf
      exact hk1
    · have hg := hv g (List.mem_of_getElem? hx)
      have ht : told n (gs.take (i + 1)) = toldStep (told n (gs.take i)) g := by unfold told; exact foldl_take hx
      have hfew := hJ i (Nat.le_refl _)
      have wt : Wt n (told n (gs.take i)) := told_wt fun g hg => hv g (List.mem_of_mem_take hg)
      generalize hT : told n (gs.take i) = t at *
      have a1 := at_enc (t := t) hg.one.1 (by rw [wt.len]; exact hg.one.2)
      have vl1 := wt.vl12 hn2 _ (at_mem hg.one.1 (by rw [wt.len]; exact hg.one.2))
      have z1 : (at_ t g.one).length ≤ 60 := Nat.le_trans (hfew _ (at_mem hg.one.1 (by rw [wt.len]; exact hg.one.2))) hk
      have lz1 : ∀ l ∈ at_ t g.one, l.length ≤ 1000 := fun l hl => by have := vl_len (vl1 l hl); omega
      have x1 : ∀ ys : List PyData, ys.length = n → ixN ys.length g.one = some g.one.toNat := fun ys hy => ixN_int hg.one.1 (by rw [hy]; exact hg.one.2)
      refine ws_setM S E 7 (em_listL (T_free T) (ev_v E 3)) (fun p B4 H4 s4 S n1 h0 M E => ?_) sc_L_told.nd
      have sB := s4.b
      cases hkk : g.kind with
      | add =>
        rw [hkk] at E
        refine ws_ifT S (EvT.cast (et_cmp cm_eqS (ev_v E 4) ev_str) (by decide)) fun B5 H5 s5 S => ?_
        have E := E.mono s5.b
        have M := M.mono s5
        refine ws_setix S M h0 (ev_call (cl_L_raised T (at_ t g.one) g.other (by omega) lz1) hr (ea2 (ev_ixL (ev_v E 3) (ev_v E 5) a1) (ev_v E 6))) (ev_v E 7) (ev_v E 5) (x1 _ (by simp [wt.len])) (fun B5 H5 sb5 S M _ => ws_nil ?_)
        have E := E.mono sb5
        have sB := sB.trans (s5.b.trans sb5)
        refine ws_no S (EvT.cast (et_cmp cm_eqS (ev_v E 4) ev_str) (by decide)) fun B5 H5 s5 S => ?_
        have E := E.mono s5.b
        have M := M.mono s5
        have sB := sB.trans s5.b
        refine ws_no S (EvT.cast (et_cmp (cm_inS lsT) (ev_v E 4) (ev_tup ((["low", "sort"] : List Str).map PyData.str) (ea2 ev_str ev_str) (Nat.le_of_ble_eq_true rfl))) (by decide)) fun B5 H5 s5 S => ?_
        have E := E.mono s5.b
        have M := M.mono s5
        have sB := sB.trans s5.b
        refine ws_no S (EvT.cast (et_cmp cm_eqS (ev_v E 4) ev_str) (by decide)) fun B5 H5 s5 S => ?_
        have E := E.mono s5.b
        have M := M.mono s5
        have sB := sB.trans s5.b
        refine ws_no S (EvT.cast (et_cmp cm_eqS (ev_v E 4) ev_str) (by decide)) fun B5 H5 s5 S => ?_
        have E := E.mono s5.b
        have M := M.mono s5
        have sB := sB.trans s5.b
        have eM : Mu none B5 H5 p ((toldStep t g).map encF) := by
          unfold toldStep
          rw [hkk, List.map_set]
          exact M
        obtain ⟨mx, mx1, mx2⟩ := max_ex (ns := (toldStep t g).map fun f => ((f.length : Nat) : Int)) (fun e => by have := (toldStep_wt wt hg).len; rw [List.map_eq_nil_iff.mp e] at this; simp at this; omega)
        refine ws_if S (kb := decide ((k : Int) < mx)) (et_cmp cm_gt (ev_maxL (mx := mx) (ns := (toldStep t g).map fun f => ((f.length : Nat) : Int)) (T_free T) rfl (Ev.cast (EvM.ev (em_lc (xs := toldStep t g) (enc := encF) (f := fun f => .int ((f.length : Nat) : Int)) (own := [("_law_row", 9)]) E (wk_listM eM (ev_v E 7)) rfl sc_L_told.nd (blkOk_by (own := [("_law_row", 9)]) (N := N_L_told) (sc := defScope s_L_told) (by decide +kernel)) (fun _ _ _ _ _ => pg_name (i := 9) sc_L_told.nd rfl (by first | exact Or.inl rfl | exact Or.inr rfl)) (fun x _ => tg1)
          (fun s0 H0 C cl fp f σ9 B9 H9 hf s9 E9 => Ev.cast (ev_lenL (T_free T) (ev_v E9 9)) (by rw [List.length_map])) (by have := (toldStep_wt wt hg).len; omega))) (by rw [List.map_map]; rfl)) mx1 mx2) (ev_v E 2)) (fun hm B6 H6 s6 S => ?_) (fun hm B6 H6 s6 S => ws_nil ?_)
        · exact ws_ret S ev_non fun v B7 H7 s7 r => q v B7 H7 s7 (.inr (Dq.non_eq r))
        · have E := E.mono s6.b
          have M := eM.mono s6
          refine ws_set S E 3 (ev_v E 7) (fun v B7 H7 s7 S r E => ?_) sc_L_told.nd
          obtain ⟨B8, sb8, S8, r8⟩ := (M.mono s7).frz S h0
          have E8 := (E.mono sb8).re (R := K3.IsD (encT (toldStep t g))) 3 rfl r8
          refine ws_nil ⟨B8, sB.trans (s6.b.trans (s7.b.trans sb8)), S8, ?_, ?_⟩
          · rw [ht]; exact E8.to
          · intro j hj
            rcases Nat.lt_or_ge j (i + 1) with z | z
            · exact hJ j (by omega)
            · have e : j = i + 1 := by omega
              subst e
              rw [ht]
              intro f hf
              have h1 := mx2 _ (List.mem_map.mpr ⟨f, hf, rfl⟩)
              have h2 := of_decide_eq_false hm
              omega
      | copy =>
        have ho := hg.other (by rw [hkk]; simp)
        have a2 := at_enc (t := t) ho.1 (by rw [wt.len]; exact ho.2.1)
        have vl2 := wt.vl12 hn2 _ (at_mem ho.1 (by rw [wt.len]; exact ho.2.1))
        have z2 : (at_ t g.other).length ≤ 60 := Nat.le_trans (hfew _ (at_mem ho.1 (by rw [wt.len]; exact ho.2.1))) hk
        have x2 : ∀ ys : List PyData, ys.length = n → ixN ys.length g.other = some g.other.toNat := fun ys hy => ixN_int ho.1 (by rw [hy]; exact ho.2.1)
        have v12 : ∀ l ∈ at_ t g.one ++ at_ t g.other, Vl 12 l := fun l hl => (List.mem_append.mp hl).elim (vl1 l) (vl2 l)
        rw [hkk] at E
        refine ws_no S (EvT.cast (et_cmp cm_eqS (ev_v E 4) ev_str) (by decide)) fun B5 H5 s5 S => ?_
        have E := E.mono s5.b
        have M := M.mono s5
        have sB := sB.trans s5.b
        refine ws_ifT S (EvT.cast (et_cmp cm_eqS (ev_v E 4) ev_str) (by decide)) fun B5 H5 s5 S => ?_
        have E := E.mono s5.b
        have M := M.mono s5
        refine ws_setix S M h0 (ev_ixL (ev_v E 3) (ev_v E 6) a2) (ev_v E 7) (ev_v E 5) (x1 _ (by simp [wt.len])) (fun B5 H5 sb5 S M _ => ws_nil ?_)
        have E := E.mono sb5
        have sB := sB.trans (s5.b.trans sb5)
        refine ws_no S (EvT.cast (et_cmp (cm_inS lsT) (ev_v E 4) (ev_tup ((["low", "sort"] : List Str).map PyData.str) (ea2 ev_str ev_str) (Nat.le_of_ble_eq_true rfl))) (by decide)) fun B5 H5 s5 S => ?_
        have E := E.mono s5.b
        have M := M.mono s5
        have sB := sB.trans s5.b
        refine ws_no S (EvT.cast (et_cmp cm_eqS (ev_v E 4) ev_str) (by decide)) fun B5 H5 s5 S => ?_
        have E := E.mono s5.b
        have M := M.mono s5
        have sB := sB.trans s5.b
        refine ws_no S (EvT.cast (et_cmp cm_eqS (ev_v E 4) ev_str) (by decide)) fun B5 H5 s5 S => ?_
        have E := E.mono s5.b
        have M := M.mono s5
        have sB := sB.trans s5.b
        have eM : Mu none B5 H5 p ((toldStep t g).map encF) := by
          unfold toldStep
          rw [hkk, List.map_set]
          exact M
        obtain ⟨mx, mx1, mx2⟩ := max_ex (ns := (toldStep t g).map fun f => ((f.length : Nat) : Int)) (fun e => by have := (toldStep_wt wt hg).len; rw [List.map_eq_nil_iff.mp e] at this; simp at this; omega)
        refine ws_if S (kb := decide ((k : Int) < mx)) (et_cmp cm_gt (ev_maxL (mx := mx) (ns := (toldStep t g).map fun f => ((f.length : Nat) : Int)) (T_free T) rfl (Ev.cast (EvM.ev (em_lc (xs := toldStep t g) (enc := encF) (f := fun f => .int ((f.length : Nat) : Int)) (own := [("_law_row", 9)]) E (wk_listM eM (ev_v E 7)) rfl sc_L_told.nd (blkOk_by (own := [("_law_row", 9)]) (N := N_L_told) (sc := defScope s_L_told) (by decide +kernel)) (fun _ _ _ _ _ => pg_name (i := 9) sc_L_told.nd rfl (by first | exact Or.inl rfl | exact Or.inr rfl)) (fun x _ => tg1)
          (fun s0 H0 C cl fp f σ9 B9 H9 hf s9 E9 => Ev.cast (ev_lenL (T_free T) (ev_v E9 9)) (by rw [List.length_map])) (by have := (toldStep_wt wt hg).len; omega))) (by rw [List.map_map]; rfl)) mx1 mx2) (ev_v E 2)) (fun hm B6 H6 s6 S => ?_) (fun hm B6 H6 s6 S => ws_nil ?_)
        · exact ws_ret S ev_non fun v B7 H7 s7 r => q v B7 H7 s7 (.inr (Dq.non_eq r))
        · have E := E.mono s6.b
          have M := eM.mono s6
          refine ws_set S E 3 (ev_v E 7) (fun v B7 H7 s7 S r E => ?_) sc_L_told.nd
          obtain ⟨B8, sb8, S8, r8⟩ := (M.mono s7).frz S h0
          have E8 := (E.mono sb8).re (R := K3.IsD (encT (toldStep t g))) 3 rfl r8
          refine ws_nil ⟨B8, sB.trans (s6.b.trans (s7.b.trans sb8)), S8, ?_, ?_⟩
          · rw [ht]; exact E8.to
          · intro j hj
            rcases Nat.lt_or_ge j (i + 1) with z | z
            · exact hJ j (by omega)
            · have e : j = i + 1 := by omega
              subst e
              rw [ht]
              intro f hf
              have h1 := mx2 _ (List.mem_map.mpr ⟨f, hf, rfl⟩)
              have h2 := of_decide_eq_false hm
              omega
      | low =>
        have ho := hg.other (by rw [hkk]; simp)
        have a2 := at_enc (t := t) ho.1 (by rw [wt.len]; exact ho.2.1)
        have vl2 := wt.vl12 hn2 _ (at_mem ho.1 (by rw [wt.len]; exact ho.2.1))
        have z2 : (at_ t g.other).length ≤ 60 := Nat.le_trans (hfew _ (at_mem ho.1 (by rw [wt.len]; exact ho.2.1))) hk
        have x2 : ∀ ys : List PyData, ys.length = n → ixN ys.length g.other = some g.other.toNat := fun ys hy => ixN_int ho.1 (by rw [hy]; exact ho.2.1)
        have v12 : ∀ l ∈ at_ t g.one ++ at_ t g.other, Vl 12 l := fun l hl => (List.mem_append.mp hl).elim (vl1 l) (vl2 l)
        rw [hkk] at E
        refine ws_no S (EvT.cast (et_cmp cm_eqS (ev_v E 4) ev_str) (by decide)) fun B5 H5 s5 S => ?_
        have E := E.mono s5.b
        have M := M.mono s5
        have sB := sB.trans s5.b
        refine ws_no S (EvT.cast (et_cmp cm_eqS (ev_v E 4) ev_str) (by decide)) fun B5 H5 s5 S => ?_
        have E := E.mono s5.b
        have M := M.mono s5
        have sB := sB.trans s5.b
        refine ws_ifT S (EvT.cast (et_cmp (cm_inS lsT) (ev_v E 4) (ev_tup ((["low", "sort"] : List Str).map PyData.str) (ea2 ev_str ev_str) (Nat.le_of_ble_eq_true rfl))) (by decide)) fun B5 H5 s5 S => ?_
        have E := E.mono s5.b
        have M := M.mono s5
        refine ws_setix S M h0 (ev_call (cl_L_least T (at_ t g.one ++ at_ t g.other) (n := (12 : Int)) (Int.le_refl 12) v12 (by rw [List.length_append]; omega)) hr (ea1 (Ev.cast (EvM.ev (em_cat (ds := (at_ t g.one).map encL) (es := (at_ t g.other).map encL) (by rw [List.length_map, List.length_map]; omega) (ev_ixL (ev_v E 3) (ev_v E 5) a1) (ev_ixL (ev_v E 3) (ev_v E 6) a2))) (by rw [encF, List.map_append])))) (ev_v E 7) (ev_v E 5) (x1 _ (by simp [wt.len])) (fun B5 H5 sb5 S M _ => ws_nil ?_)
        have E := E.mono sb5
        have sB := sB.trans (s5.b.trans sb5)
        refine ws_no S (EvT.cast (et_cmp cm_eqS (ev_v E 4) ev_str) (by decide)) fun B5 H5 s5 S => ?_
        have E := E.mono s5.b
        have M := M.mono s5
        have sB := sB.trans s5.b
        refine ws_no S (EvT.cast (et_cmp cm_eqS (ev_v E 4) ev_str) (by decide)) fun B5 H5 s5 S => ?_
        have E := E.mono s5.b
        have M := M.mono s5
        have sB := sB.trans s5.b
        have eM : Mu none B5 H5 p ((toldStep t g).map encF) := by
          unfold toldStep
          rw [hkk, List.map_set]
          exact M
        obtain ⟨mx, mx1, mx2⟩ := max_ex (ns := (toldStep t g).map fun f => ((f.length : Nat) : Int)) (fun e => by have := (toldStep_wt wt hg).len; rw [List.map_eq_nil_iff.mp e] at this; simp at this; omega)
        refine ws_if S (kb := decide ((k : Int) < mx)) (et_cmp cm_gt (ev_maxL (mx := mx) (ns := (toldStep t g).map fun f => ((f.length : Nat) : Int)) (T_free T) rfl (Ev.cast (EvM.ev (em_lc (xs := toldStep t g) (enc := encF) (f := fun f => .int ((f.length : Nat) : Int)) (own := [("_law_row", 9)]) E (wk_listM eM (ev_v E 7)) rfl sc_L_told.nd (blkOk_by (own := [("_law_row", 9)]) (N := N_L_told) (sc := defScope s_L_told) (by decide +kernel)) (fun _ _ _ _ _ => pg_name (i := 9) sc_L_told.nd rfl (by first | exact Or.inl rfl | exact Or.inr rfl)) (fun x _ => tg1)
          (fun s0 H0 C cl fp f σ9 B9 H9 hf s9 E9 => Ev.cast (ev_lenL (T_free T) (ev_v E9 9)) (by rw [List.length_map])) (by have := (toldStep_wt wt hg).len; omega))) (by rw [List.map_map]; rfl)) mx1 mx2) (ev_v E 2)) (fun hm B6 H6 s6 S => ?_) (fun hm B6 H6 s6 S => ws_nil ?_)
        · exact ws_ret S ev_non fun v B7 H7 s7 r => q v B7 H7 s7 (.inr (Dq.non_eq r))
        · have E := E.mono s6.b
          have M := eM.mono s6
          refine ws_set S E 3 (ev_v E 7) (fun v B7 H7 s7 S r E => ?_) sc_L_told.nd
          obtain ⟨B8, sb8, S8, r8⟩ := (M.mono s7).frz S h0
          have E8 := (E.mono sb8).re (R := K3.IsD (encT (toldStep t g))) 3 rfl r8
          refine ws_nil ⟨B8, sB.trans (s6.b.trans (s7.b.trans sb8)), S8, ?_, ?_⟩
          · rw [ht]; exact E8.to
          · intro j hj
            rcases Nat.lt_or_ge j (i + 1) with z | z
            · exact hJ j (by omega)
            · have e : j = i + 1 := by omega
              subst e
              rw [ht]
              intro f hf
              have h1 := mx2 _ (List.mem_map.mpr ⟨f, hf, rfl⟩)
              have h2 := of_decide_eq_false hm
              omega
      | high =>
        have ho := hg.other (by rw [hkk]; simp)
        have a2 := at_enc (t := t) ho.1 (by rw [wt.len]; exact ho.2.1)
        have vl2 := wt.vl12 hn2 _ (at_mem ho.1 (by rw [wt.len]; exact ho.2.1))
        have z2 : (at_ t g.other).length ≤ 60 := Nat.le_trans (hfew _ (at_mem ho.1 (by rw [wt.len]; exact ho.2.1))) hk
        have x2 : ∀ ys : List PyData, ys.length = n → ixN ys.length g.other = some g.other.toNat := fun ys hy => ixN_int ho.1 (by rw [hy]; exact ho.2.1)
        have v12 : ∀ l ∈ at_ t g.one ++ at_ t g.other, Vl 12 l := fun l hl => (List.mem_append.mp hl).elim (vl1 l) (vl2 l)
        rw [hkk] at E
        refine ws_no S (EvT.cast (et_cmp cm_eqS (ev_v E 4) ev_str) (by decide)) fun B5 H5 s5 S => ?_
        have E := E.mono s5.b
        have M := M.mono s5
        have sB := sB.trans s5.b
        refine ws_no S (EvT.cast (et_cmp cm_eqS (ev_v E 4) ev_str) (by decide)) fun B5 H5 s5 S => ?_
        have E := E.mono s5.b
        have M := M.mono s5
        have sB := sB.trans s5.b
        refine ws_no S (EvT.cast (et_cmp (cm_inS lsT) (ev_v E 4) (ev_tup ((["low", "sort"] : List Str).map PyData.str) (ea2 ev_str ev_str) (Nat.le_of_ble_eq_true rfl))) (by decide)) fun B5 H5 s5 S => ?_
        have E := E.mono s5.b
        have M := M.mono s5
        have sB := sB.trans s5.b
        refine ws_ifT S (EvT.cast (et_cmp cm_eqS (ev_v E 4) ev_str) (by decide)) fun B5 H5 s5 S => ?_
        have E := E.mono s5.b
        have M := M.mono s5
        refine ws_setix S M h0 (ev_call (cl_L_joins T (at_ t g.one) (at_ t g.other) vl1 vl2 z1 z2) hr (ea2 (ev_ixL (ev_v E 3) (ev_v E 5) a1) (ev_ixL (ev_v E 3) (ev_v E 6) a2))) (ev_v E 7) (ev_v E 5) (x1 _ (by simp [wt.len])) (fun B5 H5 sb5 S M _ => ws_nil ?_)
        have E := E.mono sb5
        have sB := sB.trans (s5.b.trans sb5)
        refine ws_no S (EvT.cast (et_cmp cm_eqS (ev_v E 4) ev_str) (by decide)) fun B5 H5 s5 S => ?_
        have E := E.mono s5.b
        have M := M.mono s5
        have sB := sB.trans s5.b
        have eM : Mu none B5 H5 p ((toldStep t g).map encF) := by
          unfold toldStep
          rw [hkk, List.map_set]
          exact M
        obtain ⟨mx, mx1, mx2⟩ := max_ex (ns := (toldStep t g).map fun f => ((f.length : Nat) : Int)) (fun e => by have := (toldStep_wt wt hg).len; rw [List.map_eq_nil_iff.mp e] at this; simp at this; omega)
        refine ws_if S (kb := decide ((k : Int) < mx)) (et_cmp cm_gt (ev_maxL (mx := mx) (ns := (toldStep t g).map fun f => ((f.length : Nat) : Int)) (T_free T) rfl (Ev.cast (EvM.ev (em_lc (xs := toldStep t g) (enc := encF) (f := fun f => .int ((f.length : Nat) : Int)) (own := [("_law_row", 9)]) E (wk_listM eM (ev_v E 7)) rfl sc_L_told.nd (blkOk_by (own := [("_law_row", 9)]) (N := N_L_told) (sc := defScope s_L_told) (by decide +kernel)) (fun _ _ _ _ _ => pg_name (i := 9) sc_L_told.nd rfl (by first | exact Or.inl rfl | exact Or.inr rfl)) (fun x _ => tg1)
          (fun s0 H0 C cl fp f σ9 B9 H9 hf s9 E9 => Ev.cast (ev_lenL (T_free T) (ev_v E9 9)) (by rw [List.length_map])) (by have := (toldStep_wt wt hg).len; omega))) (by rw [List.map_map]; rfl)) mx1 mx2) (ev_v E 2)) (fun hm B6 H6 s6 S => ?_) (fun hm B6 H6 s6 S => ws_nil ?_)
        · exact ws_ret S ev_non fun v B7 H7 s7 r => q v B7 H7 s7 (.inr (Dq.non_eq r))
        · have E := E.mono s6.b
          have M := eM.mono s6
          refine ws_set S E 3 (ev_v E 7) (fun v B7 H7 s7 S r E => ?_) sc_L_told.nd
          obtain ⟨B8, sb8, S8, r8⟩ := (M.mono s7).frz S h0
          have E8 := (E.mono sb8).re (R := K3.IsD (encT (toldStep t g))) 3 rfl r8
          refine ws_nil ⟨B8, sB.trans (s6.b.trans (s7.b.trans sb8)), S8, ?_, ?_⟩
          · rw [ht]; exact E8.to
          · intro j hj
            rcases Nat.lt_or_ge j (i + 1) with z | z
            · exact hJ j (by omega)
            · have e : j = i + 1 := by omega
              subst e
              rw [ht]
              intro f hf
              have h1 := mx2 _ (List.mem_map.mpr ⟨f, hf, rfl⟩)
              have h2 := of_decide_eq_false hm
              omega
      | sort =>
        have ho := hg.other (by rw [hkk]; simp)
        have a2 := at_enc (t := t) ho.1 (by rw [wt.len]; exact ho.2.1)
        have vl2 := wt.vl12 hn2 _ (at_mem ho.1 (by rw [wt.len]; exact ho.2.1))
        have z2 : (at_ t g.other).length ≤ 60 := Nat.le_trans (hfew _ (at_mem ho.1 (by rw [wt.len]; exact ho.2.1))) hk
        have x2 : ∀ ys : List PyData, ys.length = n → ixN ys.length g.other = some g.other.toNat := fun ys hy => ixN_int ho.1 (by rw [hy]; exact ho.2.1)
        have v12 : ∀ l ∈ at_ t g.one ++ at_ t g.other, Vl 12 l := fun l hl => (List.mem_append.mp hl).elim (vl1 l) (vl2 l)
        rw [hkk] at E
        refine ws_no S (EvT.cast (et_cmp cm_eqS (ev_v E 4) ev_str) (by decide)) fun B5 H5 s5 S => ?_
        have E := E.mono s5.b
        have M := M.mono s5
        have sB := sB.trans s5.b
        refine ws_no S (EvT.cast (et_cmp cm_eqS (ev_v E 4) ev_str) (by decide)) fun B5 H5 s5 S => ?_
        have E := E.mono s5.b
        have M := M.mono s5
        have sB := sB.trans s5.b
        refine ws_ifT S (EvT.cast (et_cmp (cm_inS lsT) (ev_v E 4) (ev_tup ((["low", "sort"] : List Str).map PyData.str) (ea2 ev_str ev_str) (Nat.le_of_ble_eq_true rfl))) (by decide)) fun B5 H5 s5 S => ?_
        have E := E.mono s5.b
        have M := M.mono s5
        refine ws_setix S M h0 (ev_call (cl_L_least T (at_ t g.one ++ at_ t g.other) (n := (12 : Int)) (Int.le_refl 12) v12 (by rw [List.length_append]; omega)) hr (ea1 (Ev.cast (EvM.ev (em_cat (ds := (at_ t g.one).map encL) (es := (at_ t g.other).map encL) (by rw [List.length_map, List.length_map]; omega) (ev_ixL (ev_v E 3) (ev_v E 5) a1) (ev_ixL (ev_v E 3) (ev_v E 6) a2))) (by rw [encF, List.map_append])))) (ev_v E 7) (ev_v E 5) (x1 _ (by simp [wt.len])) (fun B5 H5 sb5 S M _ => ws_nil ?_)
        have E := E.mono sb5
        have sB := sB.trans (s5.b.trans sb5)
        refine ws_no S (EvT.cast (et_cmp cm_eqS (ev_v E 4) ev_str) (by decide)) fun B5 H5 s5 S => ?_
        have E := E.mono s5.b
        have M := M.mono s5
        have sB := sB.trans s5.b
        refine ws_ifT S (EvT.cast (et_cmp cm_eqS (ev_v E 4) ev_str) (by decide)) fun B5 H5 s5 S => ?_
        have E := E.mono s5.b
        have M := M.mono s5
        refine ws_setix S M h0 (ev_call (cl_L_joins T (at_ t g.one) (at_ t g.other) vl1 vl2 z1 z2) hr (ea2 (ev_ixL (ev_v E 3) (ev_v E 5) a1) (ev_ixL (ev_v E 3) (ev_v E 6) a2))) (ev_v E 7) (ev_v E 6) (x2 _ (by simp [wt.len])) (fun B5 H5 sb5 S M _ => ws_nil ?_)
        have E := E.mono sb5
        have sB := sB.trans (s5.b.trans sb5)
        have eM : Mu none B5 H5 p ((toldStep t g).map encF) := by
          unfold toldStep
          rw [hkk, List.map_set, List.map_set]
          exact M
        obtain ⟨mx, mx1, mx2⟩ := max_ex (ns := (toldStep t g).map fun f => ((f.length : Nat) : Int)) (fun e => by have := (toldStep_wt wt hg).len; rw [List.map_eq_nil_iff.mp e] at this; simp at this; omega)
        refine ws_if S (kb := decide ((k : Int) < mx)) (et_cmp cm_gt (ev_maxL (mx := mx) (ns := (toldStep t g).map fun f => ((f.length : Nat) : Int)) (T_free T) rfl (Ev.cast (EvM.ev (em_lc (xs := toldStep t g) (enc := encF) (f := fun f => .int ((f.length : Nat) : Int)) (own := [("_law_row", 9)]) E (wk_listM eM (ev_v E 7)) rfl sc_L_told.nd (blkOk_by (own := [("_law_row", 9)]) (N := N_L_told) (sc := defScope s_L_told) (by decide +kernel)) (fun _ _ _ _ _ => pg_name (i := 9) sc_L_told.nd rfl (by first | exact Or.inl rfl | exact Or.inr rfl)) (fun x _ => tg1)
          (fun s0 H0 C cl fp f σ9 B9 H9 hf s9 E9 => Ev.cast (ev_lenL (T_free T) (ev_v E9 9)) (by rw [List.length_map])) (by have := (toldStep_wt wt hg).len; omega))) (by rw [List.map_map]; rfl)) mx1 mx2) (ev_v E 2)) (fun hm B6 H6 s6 S => ?_) (fun hm B6 H6 s6 S => ws_nil ?_)
        · exact ws_ret S ev_non fun v B7 H7 s7 r => q v B7 H7 s7 (.inr (Dq.non_eq r))
        · have E := E.mono s6.b
          have M := eM.mono s6
          refine ws_set S E 3 (ev_v E 7) (fun v B7 H7 s7 S r E => ?_) sc_L_told.nd
          obtain ⟨B8, sb8, S8, r8⟩ := (M.mono s7).frz S h0
          have E8 := (E.mono sb8).re (R := K3.IsD (encT (toldStep t g))) 3 rfl r8
          refine ws_nil ⟨B8, sB.trans (s6.b.trans (s7.b.trans sb8)), S8, ?_, ?_⟩
          · rw [ht]; exact E8.to
          · intro j hj
            rcases Nat.lt_or_ge j (i + 1) with z | z
            · exact hJ j (by omega)
            · have e : j = i + 1 := by omega
              subst e
              rw [ht]
              intro f hf
              have h1 := mx2 _ (List.mem_map.mpr ⟨f, hf, rfl⟩)
              have h2 := of_decide_eq_false hm
              omega
    · rw [List.take_length] at E2
      exact ws_ret S2 (ev_v E2 3) fun v B3 H3 s3 r => q v B3 H3 s3 (.inl ⟨fun i hi => hJ i hi, r⟩)
end
end K3
/-! TEXT G5 -/
set_option Elab.async false
set_option linter.all false
set_option maxRecDepth 100000
set_option maxHeartbeats 1000000
namespace K3
open PySem PySem.Spec L2
section
variable {P : Program} {w : World} {K : PySem.W.Frag} {mg : Str → Option Value} {base : Heap}
def encU : Option (Int × List Int) → PyData
  | none => .none
  | some (i, xs) => .tuple [.int i, encI xs]
def leftL (near far : Fam) : Fam := far.filter fun l => !near.any fun m => under m l
theorem leftL_nil {near far : Fam} : leftL near far = [] ↔ apartL near far = none := by
  unfold leftL apartL
  rw [List.filter_eq_nil_iff, List.find?_eq_none]
  constructor
  · intro h l hl
    have h1 := h l hl
    have h1 : near.any (fun m => under m l) = true := by simpa using h1
    have : (near.find? fun m => under m l).isSome = true := by rw [List.find?_isSome]; obtain ⟨m, hm, hu⟩ := List.any_eq_true.mp h1; exact ⟨m, hm, hu⟩
    cases q : near.find? fun m => under m l with
    | none => rw [q] at this; cases this
    | some _ => simp
  · intro h l hl
    have h1 := h l hl
    cases q : near.find? fun m => under m l with
    | none => rw [q] at h1; exact absurd rfl h1
    | some m =>
      have hm := List.mem_of_find?_eq_some q
      have hu : under m l = true := by simpa using List.find?_some q
      have : near.any (fun m => under m l) = true := List.any_eq_true.mpr ⟨m, hm, hu⟩
      simp [this]
theorem leftL_head {near far : Fam} : (leftL near far).head? = apartL near far := by
  unfold leftL apartL
  rw [List.head?_filter]
  congr 1
  funext l
  cases q : near.find? fun m => under m l with
  | none =>
    have : near.any (fun m => under m l) = false := by
      cases z : near.any fun m => under m l with
      | false => rfl
      | true =>
        obtain ⟨m, hm, hu⟩ := List.any_eq_true.mp z
        exact absurd hu (by simpa using List.find?_eq_none.mp q m hm)
    rw [this]; rfl
  | some m =>
    have hm := List.mem_of_find?_eq_some q
    have hu : under m l = true := by simpa using List.find?_some q
    have : near.any (fun m => under m l) = true := List.any_eq_true.mpr ⟨m, hm, hu⟩
    rw [this]; rfl
theorem unlike_of {n i : Nat} {t t' : List Fam} {z : Lot × Fam} (hn : ((List.range n).take i).find? (fun i => decide (at_ t (i : Nat) ≠ at_ t' (i : Nat))) = none) (hi : i < n) (hne : at_ t (i : Nat) ≠ at_ t' (i : Nat)) (hz : apart2 (at_ t (i : Nat)) (at_ t' (i : Nat)) = some z) : unlikeO n t t' = some ((i : Int), cornerV z.1 z.2 n) := by
  have hd : diffAt n t t' = some i := by
    unfold diffAt
    exact find_takeG hn (List.getElem?_range hi) (decide_eq_true hne)
  unfold unlikeO
  rw [hd]
  show Option.map _ (apart2 _ _) = _
  rw [hz]; rfl
theorem cl_L_unlike (T : Tx K mg) (n : Nat) (t t' : List Fam) (hn : n ≤ 12) (w1 : Wt n t) (w2 : Wt n t') (f1 : few 60 t) (f2 : few 60 t') : Cl P w K mg base "_law_unlike" ["_law_rows", "_law_more"] 3 (spD none [K3.IsD (encT t), K3.IsD (encT t')] (K3.IsD (encU (unlikeO n t t')))) :=
  cl_mk T 76 (d := d_L_unlike) rfl rfl rfl rfl (by decide +kernel) (fun _ _ _ _ _ _ us hl => match us, hl with | [_, _], _ => rfl) fun fa fdd FF => by
    refine fn_ok FF sc_L_unlike rfl fun cdv A outer s E0 B H vs Q hr S E q => ?_
    have e2 : rngD (((t.map encF).length : Int).toNat) = (List.range n).map fun (i : Nat) => PyData.int (i : Int) := by unfold rngD; rw [Int.toNat_natCast, List.length_map, w1.len]
    refine ws_for (xs := List.range n) (enc := fun (j : Nat) => PyData.int (j : Int)) (u := fun j Γ => Γ.set 2 (some (K3.IsD (.int (j : Nat))))) S (by rw [← e2]; exact wk_range (T_free T) (ev_lenL (T_free T) (ev_v E 0)) (by omega) (by rw [List.length_map, w1.len]; omega)) (pg_name (i := 2) sc_L_unlike.nd rfl (by first | exact Or.inl rfl | exact Or.inr rfl)) (fun x _ => tg1) rfl PassesOwn.never
      (fun j => [some (K3.IsD (encT t)), some (K3.IsD (encT t')), none, none, none, none, none, none]) (fun j _ _ => ((List.range n).take j).find? (fun i => decide (at_ t (i : Nat) ≠ at_ t' (i : Nat))) = none) (fun _ _ _ _ _ _ h => h) (fun B1 H1 s1 S => ⟨(E.mono s1.b).to, rfl⟩) (fun j i σ1 B5 H5 hx S5 sb E5 hu => ?_) (fun σ1 B2 H2 S2 sb E2 hu => ?_)
    · obtain ⟨hij, hjn⟩ := range_at hx
      subst hij
      have i0 : 0 ≤ (i : Int) := Int.natCast_nonneg i
      have a1 := at_enc (t := t) i0 (by rw [w1.len]; omega)
      have a2 := at_enc (t := t') i0 (by rw [w2.len]; omega)
      have wf1 := w1.at_ i0 (by omega)
      have wf2 := w2.at_ i0 (by omega)
      have z1 : (at_ t i).length ≤ 60 := f1 _ (at_mem i0 (by rw [w1.len]; omega))
      have z2 : (at_ t' i).length ≤ 60 := f2 _ (at_mem i0 (by rw [w2.len]; omega))
      generalize ha : at_ t (i : Nat) = a at *
      generalize hb : at_ t' (i : Nat) = b at *
      refine ws_for (xs := [(a, b), (b, a)]) (enc := fun z => .tuple [encF z.1, encF z.2]) (u := fun z Γ => (Γ.set 3 (some (K3.IsD (encF z.1)))).set 4 (some (K3.IsD (encF z.2)))) S5 (wk_list (EvM.ev (em_lst [.tuple [encF a, encF b], .tuple [encF b, encF a]] (ea2 (ev_tup [encF a, encF b] (ea2 (ev_ixL (ev_v E5 0) (ev_v E5 2) a1) (ev_ixL (ev_v E5 1) (ev_v E5 2) a2)) (Nat.le_of_ble_eq_true rfl)) (ev_tup [encF b, encF a] (ea2 (ev_ixL (ev_v E5 1) (ev_v E5 2) a2) (ev_ixL (ev_v E5 0) (ev_v E5 2) a1)) (Nat.le_of_ble_eq_true rfl))) (Nat.le_of_ble_eq_true rfl)))) (pg_tup rfl (pgs_cons (pg_name (i := 3) sc_L_unlike.nd rfl (by first | exact Or.inl rfl | exact Or.inr rfl)) (pgs_cons (pg_name (i := 4) sc_L_unlike.nd rfl (by first | exact Or.inl rfl | exact Or.inr rfl)) pgs_nil))) (fun x _ => tg2) rfl PassesOwn.never
        (fun _ => [some (K3.IsD (encT t)), some (K3.IsD (encT t')), some (K3.IsD (.int (i : Nat))), none, none, none, none, none]) (fun j _ _ => (1 ≤ j → apartL a b = none) ∧ (2 ≤ j → apartL b a = none)) (fun _ _ _ _ _ _ h => h) (fun B1 H1 s1 S => ⟨(E5.mono s1.b).to, fun z => by omega, fun z => by omega⟩) (fun j z σ3 B3 H3 hz S3 sb3 E3 hJ => ?_) (fun σ3 B3 H3 S3 sb3 E3 hJ => ?_)
      · have hzz : (j = 0 ∧ z = (a, b)) ∨ (j = 1 ∧ z = (b, a)) := by
          match j, hz with
          | 0, hz => cases hz; exact .inl ⟨rfl, rfl⟩
          | 1, hz => cases hz; exact .inr ⟨rfl, rfl⟩
          | j + 2, hz => simp at hz
        have wn : Wf n z.1 := by rcases hzz with ⟨_, rfl⟩ | ⟨_, rfl⟩ <;> assumption
        have wf : Wf n z.2 := by rcases hzz with ⟨_, rfl⟩ | ⟨_, rfl⟩ <;> assumption
        have zn : z.1.length ≤ 60 := by rcases hzz with ⟨_, rfl⟩ | ⟨_, rfl⟩ <;> assumption
        have zf : z.2.length ≤ 60 := by rcases hzz with ⟨_, rfl⟩ | ⟨_, rfl⟩ <;> assumption
        refine ws_lcF (xs := z.2) (enc := encL) (p := fun l => !z.1.any fun m => under m l) (f := encL) (own := [("_law_lot", 7)]) S3 E3 5 (wk_list (ev_v E3 4)).s rfl sc_L_unlike.nd (blkOk_by (own := [("_law_lot", 7)]) (N := N_L_unlike) (sc := defScope s_L_unlike) (by decide +kernel)) (fun _ _ _ _ _ => pg_name (i := 7) sc_L_unlike.nd rfl (by first | exact Or.inl rfl | exact Or.inr rfl)) (fun x _ => tg1)
          (fun s0 H0 C cl fp l σ1 B1 H1 hl s1 E1 => et_not (et_val (ev_anyB (f := fun m => under m l) (T_free T) (em_lc (xs := z.1) (enc := encL) (own := [("_law_one", 6)]) E1 (wk_list (ev_v E1 3)).s rfl sc_L_unlike.nd (blkOk_by (own := [("_law_one", 6)]) (by rfl)) (fun _ _ _ _ _ => pg_name (i := 6) sc_L_unlike.nd rfl (by first | exact Or.inl rfl | exact Or.inr rfl)) (fun x _ => tg1)
            (fun s0 H0 C cl fp m σ2 B2 H2 hm s2 E2 => ev_call (cl_L_is_under T m l (wf.vl l hl) (by have := vl_len ((wn.vl m hm).mono (by omega : (n : Int) ≤ 12)); omega)) hr (ea2 (ev_v E2 6) (ev_v E2 7))) (by omega))))) (fun s0 H0 C cl fp l σ1 B1 H1 hx hp s1 E1 => ev_v E1 7) (by omega) (fun p B4 H4 s4 S4 n1 n2 M E4 => ?_)
        have M : Mu none B4 H4 p ((leftL z.1 z.2).map encL) := M
        refine ws_if S4 (kb := decide (leftL z.1 z.2 ≠ [])) (EvT.cast (et_cmp (cm_neA hr (daM M) daD (f_shp (leftL z.1 z.2)) (f_shp [])) (ev_v E4 5) (EvM.ev (em_lst [] ea_nil))) (by
          have h9 := f_eqv (leftL z.1 z.2) []
          show (!PyData.eqv (encF (leftL z.1 z.2)) (encF [])) = _
          rw [h9]
          simp)) (fun h B6 H6 s6 S6 => ?_) (fun h B6 H6 s6 S6 => ws_nil (ws_nil ⟨B6, s4.b.trans s6.b, S6, (E4.mono s6.b).to, ?_⟩))
        · have hne := of_decide_eq_true h
          obtain ⟨l, r, hlr⟩ := List.exists_cons_of_ne_nil hne
          have hap : apartL z.1 z.2 = some l := by rw [← leftL_head, hlr]; rfl
          have hl2 := (apartL_some hap).1
          have E6 := E4.mono s6.b
          have M6 := M.mono s6
          have res : unlikeO n t t' = some ((i : Int), cornerV l z.1 n) := by
            rcases hzz with ⟨_, rfl⟩ | ⟨rfl, rfl⟩
            · have hne : a ≠ b := fun e => by rw [e, apartL_self wf2.nk] at hap; cases hap
              refine unlike_of (z := (l, a)) hu hjn (by rw [ha, hb]; exact hne) ?_
              rw [ha, hb]
              unfold apart2
              rw [show apartL a b = some l from hap]
            · have hne : a ≠ b := fun e => by rw [e, apartL_self wf2.nk] at hap; cases hap
              refine unlike_of (z := (l, b)) hu hjn (by rw [ha, hb]; exact hne) ?_
              rw [ha, hb]
              unfold apart2
              rw [hJ.1 (Nat.le_refl _)]
              show Option.map _ (apartL b a) = _
              rw [show apartL b a = some l from hap]; rfl
          rw [res] at q
          refine ws_ret S6 (ev_tup [.int (i : Int), encI (cornerV l z.1 n)] (ea2 (ev_v E6 2) (ev_call (cl_L_corner T l z.1 n hn (wf.vl l hl2) wn (by omega)) hr (ea3 (ev_ixM M6 (ev_v E6 5) ev_int (i := 0) (d := encL l) (by rw [hlr]; exact atI_ok (Int.le_refl 0) rfl)) (ev_v E6 3) (Ev.cast (ev_lenL (T_free T) (ev_v E6 0)) (by rw [List.length_map, w1.len]))))) (Nat.le_of_ble_eq_true rfl)) q
        · have hnil : leftL z.1 z.2 = [] := by simpa using of_decide_eq_false h
          have hap := leftL_nil.mp hnil
          rcases hzz with ⟨rfl, rfl⟩ | ⟨rfl, rfl⟩
          · exact ⟨fun _ => hap, fun z => by omega⟩
          · exact ⟨fun _ => hJ.1 (Nat.le_refl _), fun _ => hap⟩
      · have e : a = b := cover_eq wf1 wf2 (apartL_none (hJ.2 (by simp))) (apartL_none (hJ.1 (by simp)))
        refine ws_nil ⟨B3, sb3, S3, E3.to, ?_⟩
        rw [take_last hx, List.find?_append, hu, List.find?_cons_of_neg (by rw [ha, hb]; simp [e])] <;> rfl
    · have e : ((List.range n).take (List.range n).length) = List.range n := List.take_length
      rw [e] at hu
      have fe : unlikeO n t t' = none := by
        unfold unlikeO diffAt
        rw [hu] <;> rfl
      rw [fe] at q
      exact ws_ret S2 ev_non q
end
end K3
/-! TEXT K17f -/
set_option Elab.async false
set_option linter.all false
set_option maxRecDepth 100000
set_option maxHeartbeats 1000000
/-! draws -/
namespace K3
open PySem PySem.Spec L2
section
variable {m : Option Addr} {X : Cx} {e a b c o i : Expr} {es : List Expr} {σ : L2.St} {B H B' H' B0 H0 : Hp} {R R1 R2 R3 : Rt} {Rs : List Rt} {pos p1 p2 p3 apos cpos tpos : Pos} {Γ : List (Option Rt)} {d d1 d2 : PyData} {ds : List PyData} {x y f mt : Str} {k n : Nat} {rest : List Stmt} {D : Ends} {p q C : Addr}
/-! ### the draws' list as one's own -/
def hide (H : Hp) (p : Addr) : Hp := fun x => if x = p then none else H x
theorem hide_at : hide H p p = none := if_pos rfl
theorem pot_own (S : Stp (some p) B H B H) : ∃ a b : Int, 0 ≤ a ∧ 0 ≤ b ∧ b < 2147483648 ∧ Stp none B (hide H p) B H ∧ Mu none B H p [.int a, .int b] := by
  obtain ⟨⟨a, b, h1, h2, h3, h4⟩, h5⟩ := S.p p rfl
  refine ⟨a, b, h2, h3, h4, ⟨Same.refl _, S.s, fun x o _ h => ?_, fun x h => ?_, fun x o h h2 => h2, pot0⟩, ⟨(fun z => nomatch z), h5, _, h1, .cons (.int _) (.cons (.int _) .nil)⟩⟩
  · unfold hide at h
    split at h
    · cases h
    · exact h
  · unfold hide
    split
    · rfl
    · exact h
theorem pot_back {a b : Int} (S : Stp none B (hide H p) B' H') (hB : B p = none) (M : Mu none B' H' p [.int a, .int b]) (h1 : 0 ≤ a) (h2 : 0 ≤ b) (h3 : b < 2147483648) : Stp (some p) B H B' H' := by
  obtain ⟨zs, k1, k2⟩ := M.ex
  have e : zs = [V.int a, V.int b] := by
    cases k2 with
    | cons r1 k2 => cases k2 with
      | cons r2 k2 => cases k2; rw [r1.int_eq, r2.int_eq]
  subst e
  have hne : ∀ x, x ≠ p → hide H p x = H x := fun x h => if_neg h
  refine ⟨S.b, S.s, fun x o hx h => ?_, fun x h => ?_, fun x o h h4 => ?_, fun q hq => ?_⟩
  · have hxp : x ≠ p := fun z => hx (by rw [z])
    exact S.h x o (fun z => nomatch z) (by rw [hne x hxp]; exact h)
  · have hxp : x ≠ p := fun z => by rw [z, k1] at h; cases h
    rw [← hne x hxp]; exact S.t x h
  · by_cases hxp : x = p
    · rw [hxp]; exact M.b
    · exact S.f x o (by rw [hne x hxp]; exact h) h4
  · cases hq
    exact ⟨⟨a, b, k1, h1, h2, h3⟩, M.b⟩
/-! ### numbers of which is known what they may be -/
def IntP (P : Int → Prop) : Rt := fun v _ => ∃ i, P i ∧ v = .int i
instance {P : Int → Prop} : Mn (IntP P) := ⟨fun _ _ _ _ h => h⟩
theorem xp_of {i : Int} {P : Int → Prop} (h : Ev m X e σ B H (K3.IsD (.int i))) (hp : P i) : Ev m X e σ B H (IntP P) := h.imp fun v _ _ r => ⟨i, hp, Dq.int_eq r⟩
theorem xp_imp {P P' : Int → Prop} (h : Ev m X e σ B H (IntP P)) (hp : ∀ i, P i → P' i) : Ev m X e σ B H (IntP P') := h.imp fun v _ _ ⟨i, h, e⟩ => ⟨i, hp i h, e⟩
theorem oe_X {f : Value → Value → Sem Value} {C : Int → Int → Prop} {g : Int → Int → Int} {P P' : Int → Prop} {j : Int} (ho : OpR X f (rI C fun i j => .int (g i j))) (hc : ∀ i, P i → C i j) (hp : ∀ i, P i → P' (g i j)) : OpE m X f B H (IntP P) (K3.IsD (.int j)) (IntP P') :=
  ⟨_, ho, fun x y B1 H1 Q s1 ⟨i, h, e⟩ ry q => ⟨i, j, e, Dq.int_eq ry, hc i h, q _ B1 H1 s1.here ⟨_, hp i h, rfl⟩⟩⟩
theorem oe_X0 {f : Value → Value → Sem Value} {g : Int → Int → Int} {P P' : Int → Prop} {j : Int} (ho : OpR X f (rI0 fun i j => .int (g i j))) (hp : ∀ i, P i → P' (g i j)) : OpE m X f B H (IntP P) (K3.IsD (.int j)) (IntP P') :=
  ⟨_, ho, fun x y B1 H1 Q s1 ⟨i, h, e⟩ ry q => ⟨i, j, e, Dq.int_eq ry, q _ B1 H1 s1.here ⟨_, hp i h, rfl⟩⟩⟩
theorem oe_0X {f : Value → Value → Sem Value} {g : Int → Int → Int} {P P' : Int → Prop} {j : Int} (ho : OpR X f (rI0 fun i j => .int (g i j))) (hp : ∀ i, P i → P' (g j i)) : OpE m X f B H (K3.IsD (.int j)) (IntP P) (IntP P') :=
  ⟨_, ho, fun x y B1 H1 Q s1 rx ⟨i, h, e⟩ q => ⟨j, i, Dq.int_eq rx, e, q _ B1 H1 s1.here ⟨_, hp i h, rfl⟩⟩⟩
theorem xp_subR {P P' : Int → Prop} {j : Int} (ha : Ev m X a σ B H (IntP P)) (hb : Ev m X b σ B H (K3.IsD (.int j))) (hp : ∀ i, P i → P' (i - j)) : Ev m X (.BinOp a .Sub b pos) σ B H (IntP P') := ev_op (oe_X0 (g := fun i j => i - j) op_sub hp) ha hb
theorem xp_addL {P P' : Int → Prop} {j : Int} (ha : Ev m X a σ B H (K3.IsD (.int j))) (hb : Ev m X b σ B H (IntP P)) (hp : ∀ i, P i → P' (j + i)) : Ev m X (.BinOp a .Add b pos) σ B H (IntP P') := ev_op (oe_0X (g := fun i j => i + j) op_add hp) ha hb
theorem xp_addR {P P' : Int → Prop} {j : Int} (ha : Ev m X a σ B H (IntP P)) (hb : Ev m X b σ B H (K3.IsD (.int j))) (hp : ∀ i, P i → P' (i + j)) : Ev m X (.BinOp a .Add b pos) σ B H (IntP P') := ev_op (oe_X0 (g := fun i j => i + j) op_add hp) ha hb
theorem xp_mod {P P' : Int → Prop} {j : Int} (ha : Ev m X a σ B H (IntP P)) (hb : Ev m X b σ B H (K3.IsD (.int j))) (hj : 0 < j) (hp : ∀ i, P i → P' (i % j)) : Ev m X (.BinOp a .Mod b pos) σ B H (IntP P') := ev_op (oe_X (g := fun i j => i % j) op_mod (fun _ _ => hj) hp) ha hb
theorem xp_int1 {P : Int → Prop} (hm : X.mg "int" = none) (h : Ev m X e σ B H (IntP P)) (hg : Gl X "int" := by rfl) (hs : starEach [e] X.env = (false, eval e X.env) :: starEach [] X.env := by rfl) : Ev m X (.Call (.Name "int" p1) [e] [] pos) σ B H (IntP P) :=
  ev_ty call_int1 hm PyProof.Rows.boot_int (ea1 h hs) (fun vs B1 H1 Q s1 r q => by
    obtain ⟨v, rfl, i, hi, rfl⟩ := args1 r
    exact .inl ⟨i, rfl, q _ B1 H1 s1.here ⟨i, hi, rfl⟩⟩) hg (he := hs)
/-- one of some -/
def OneOf (ds : List PyData) : Rt := fun v B => ∃ d, d ∈ ds ∧ Dq B v d
instance {ds : List PyData} : Mn (OneOf ds) := ⟨fun _ _ _ e ⟨d, h, r⟩ => ⟨d, h, r.mono e⟩⟩
theorem ev_ixLX (ha : Ev m X a σ B H (K3.IsD (.list ds))) (hb : Ev m X b σ B H (IntP fun i => 0 ≤ i ∧ i < ds.length)) (hs : PlainIx b := by intro _ _; rfl) : Ev m X (.Subscript a b pos) σ B H (OneOf ds) :=
  ev_by (pe_ix ix_list pe_w pe_w hs) fun B1 H1 s1 Q q => ha B1 H1 s1 _ fun x B2 H2 s2 rx => hb B2 H2 (s1.trans s2) _ fun y B3 H3 s3 ⟨i, hi, ey⟩ => by
    obtain ⟨p, xs, rfl, h1, h2⟩ := Dq.lst_ex (Dq.mono rx s3.b)
    have h : atI ds i = some ds[i.toNat] := atI_ok hi.1 (List.getElem?_eq_getElem (by omega))
    obtain ⟨v, e1, e2⟩ := atI_dp h2 h
    exact ⟨p, xs, i, v, rfl, ey, SqL.of (s3.s _ _ h1), e1, q v B3 H3 (s2.trans s3) ⟨_, List.getElem_mem _, e2⟩⟩
/-- (a, b, c), c a number of which is known what it may be -/
theorem ev_tup3X {P : Int → Prop} {kk : Nat} (ha : Ev m X a σ B H (K3.IsD d1)) (hb : Ev m X b σ B H (K3.IsD d2)) (hc : Ev m X c σ B H (IntP P)) (hs : starEach (a :: [b, c]) X.env = (false, eval a X.env) :: starEach [b, c] X.env := by rfl) (hs2 : starEach (b :: [c]) X.env = (false, eval b X.env) :: starEach [c] X.env := by rfl)
    (hs3 : starEach [c] X.env = (false, eval c X.env) :: starEach [] X.env := by rfl) : Ev m X (.Tuple [a, b, c] kk pos) σ B H (fun v B => ∃ j, P j ∧ Dq B v (.tuple [d1, d2, .int j])) :=
  ev_by (pe_tup pa_w) fun B1 H1 s1 Q q => (ea3 ha hb hc hs hs2 hs3) B1 H1 s1 _ fun vs B2 H2 s2 r => by
    match vs, r with
    | [v1, v2, v3], ⟨r1, r2, ⟨j, hj, e⟩, _⟩ =>
      subst e
      refine ⟨by show 3 ≤ sizeLine; decide, fun p hp => q (.ref p) _ _ (s2.new hp) ⟨j, hj, .tup upd_same ?_⟩⟩
      have n := same_upd (o := .tup [v1, v2, .int j]) (s2.s.free hp)
      exact .cons (Dq.mono r1 n) (.cons (Dq.mono r2 n) (.cons (.int _) .nil))
/-- o[0], x = divmod(a, b), o one's own list -/
theorem ws_divmod {px py pz pc pt : Pos} {kt : Nat} {j : Nat} {z i1 i2 : Int} {ii : Nat} (S : Stp m B0 H0 B H) (E : Sl σ B Γ) (M : Mu m B H p ds) (h0 : H0 p = none) (hm : X.mg "divmod" = none) (ha : Ev m X a σ B H (K3.IsD (.int i1))) (hb : Ev m X b σ B H (K3.IsD (.int i2))) (hc : CDiv i1 i2) (ho : ∀ {σ : L2.St} {B H : Hp} {Γ : List (Option Rt)}, Sl σ B Γ → Γ[0]? = some (some (IsV (.ref p))) → Ev m X o σ B H (IsV (.ref p))) (hΓ : Γ[0]? = some (some (IsV (.ref p))))
    (hi : ∀ {σ : L2.St} {B H : Hp}, Ev m X i σ B H (K3.IsD (.int z))) (hj : ixN ds.length z = some j) (hN : X.N.Nodup) (hy : X.N[ii]? = some y) (hyl : Loc X.env.scope y) (hcl : X.calm = true)
    (k : ∀ B' H', Same B B' → Stp m B0 H0 B' H' → Mu m B' H' p (ds.set j (.int (i1 / i2))) → Sl (σ.set ii (some (.int (i1 % i2)))) B' (Γ.set ii (some (K3.IsD (.int (i1 % i2))))) → wSs X rest D (σ.set ii (some (.int (i1 % i2)))) H')
    (hg : Gl X "divmod" := by rfl) (hst : starEach (a :: [b]) X.env = (false, eval a X.env) :: starEach [b] X.env := by rfl) (hst2 : starEach [b] X.env = (false, eval b X.env) :: starEach [] X.env := by rfl) (hpl : (backTo pc (starEach [b] X.env)).any (·.1) = false := by rfl)
    (hs : swapsWithSole [.Tuple [.Subscript o i px, .Name y py] kt pt] (.Call (.Name "divmod" pz) [a, b] [] pc) pos.line X.env = pure false := by rfl) (hw : swappedStores [.Tuple [.Subscript o i px, .Name y py] kt pt] (.Call (.Name "divmod" pz) [a, b] [] pc) X.env = pure none := by rfl) (h1 : (assignEach [.Tuple [.Subscript o i px, .Name y py] kt pt] X.env).map (·.2) = [assign (.Tuple [.Subscript o i px, .Name y py] kt pt) X.env] := by rfl)
    (hPG : PG X (.Tuple [.Subscript o i px, .Name y py] kt pt) (gTup X.K 2 (gCons (gSub (wE X o) (wE X i) rSetL) (gCons (gName ii) gNil)))) : wSs X (.Assign [.Tuple [.Subscript o i px, .Name y py] kt pt] (.Call (.Name "divmod" pz) [a, b] [] pc) pos :: rest) D σ H := by
  refine ws_cons (ps_asg (pe_callB call_divmod hg hm PyProof.Rows.boot_divmod (pa_cons pe_w (pa_cons pe_w pa_nil hst2) hst) (he := hst) (hpl := hpl)) hPG hs hw h1) ?_
  refine ha B H S.here _ fun v1 B1 H1 s1 r1 => hb B1 H1 s1 _ fun v2 B2 H2 s2 r2 => ?_
  cases Dq.int_eq r1
  cases Dq.int_eq r2
  refine ⟨i1, i2, rfl, hc, fun t ht => ?_⟩
  have s12 := s1.trans s2
  have s3 := s12.new (o := .tup [.int (i1 / i2), .int (i1 % i2)]) ht
  have M3 := M.mono s3
  have E3 := E.mono s3.b
  refine ⟨t, _, rfl, SqT.of upd_same, rfl, _, _, rfl, ?_⟩
  refine ho E3 hΓ _ _ s3.here _ fun w B4 H4 s4 r4 => ?_
  obtain rfl : w = .ref p := r4
  refine hi _ _ s4 _ fun u B5 H5 s5 r5 => ?_
  have s45 := s4.trans s5
  have M5 := M3.mono s45
  obtain ⟨ys, h2, h3⟩ := M5.ex
  refine ⟨p, ys, z, j, rfl, Dq.int_eq r5, h2, by rw [h3.len]; exact hj, ?_⟩
  refine ⟨_, _, rfl, rfl, ?_⟩
  have S5 := (S.trans (s3.trans s45))
  exact k B5 _ (s3.trans s45).b (S5.put M5 h0) (M5.put (h3.set (.int _) j)) ((E3.mono s45.b).set (R := K3.IsD (.int (i1 % i2))) (.int _))
/-! ### tests that may be either -/
def EvTN (m : Option Addr) (X : Cx) (e : Expr) (σ : L2.St) (B H : Hp) : Prop := ∀ B1 H1, Stp m B H B1 H1 → ∀ Q : Bool → Hp → Prop, (∀ b B2 H2, Stp m B1 H1 B2 H2 → Q b H2) → wT X e σ H1 Q
theorem et_eqX {P : Int → Prop} {j : Int} (ha : Ev m X a σ B H (IntP P)) (hb : Ev m X b σ B H (K3.IsD (.int j))) (hm : behindInMarks .Eq b = false := by first | exact nomark _ | rfl) : EvTN m X (.Compare a [.Eq] [b] pos) σ B H := fun B1 H1 s1 Q q =>
  wT.of (pt_cmpR op_eq pe_w pe_w hm) (ha B1 H1 s1 _ fun x B2 H2 s2 ⟨i, _, e⟩ => hb B2 H2 (s1.trans s2) _ fun y B3 H3 s3 ry => by
    subst e
    cases Dq.int_eq ry
    exact ⟨rfl, _, rfl, q _ B3 H3 (s2.trans s3)⟩)
theorem et_and3N {c' : Expr} (ha : EvT m X a σ B H true) (hb : EvT m X b σ B H true) (hc : EvTN m X c σ B H) : EvTN m X (.BoolOp .And [a, b, c] pos) σ B H := fun B1 H1 s1 Q q =>
  wT.of (PW.pt (pw_and pt_w (pw_and pt_w (pw_and1 pt_w)))) (ha B1 H1 s1 _ fun B2 H2 s2 => hb B2 H2 (s1.trans s2) _ fun B3 H3 s3 => hc B3 H3 ((s1.trans s2).trans s3) _ fun b B4 H4 s4 => q b B4 H4 ((s2.trans s3).trans s4))
theorem ws_ifN {sts sts2 : List Stmt} (S : Stp m B0 H0 B H) (t : EvTN m X c σ B H) (h1 : ∀ B' H', Stp m B H B' H' → Stp m B0 H0 B' H' → wSs X sts { D with nx := wSs X rest D } σ H') (h2 : ∀ B' H', Stp m B H B' H' → Stp m B0 H0 B' H' → wSs X sts2 { D with nx := wSs X rest D } σ H') : wSs X (.If c sts sts2 pos :: rest) D σ H :=
  ws_cons (ps_if pt_w pss_w pss_w) (t B H S.here _ fun b B2 H2 s => by
    cases b with
    | true => exact h1 B2 H2 s (S.trans s)
    | false => exact h2 B2 H2 s (S.trans s))
end
end K3
/-! TEXT K18f -/
set_option Elab.async false
set_option linter.all false
set_option maxRecDepth 100000
set_option maxHeartbeats 1000000
/-! [draw for x in range(draw)] -/
namespace K3
open PySem PySem.Spec L2
section
variable {m : Option Addr} {X : Cx} {tg iter elt e : Expr} {σ : L2.St} {B H B0 H0 : Hp} {pos p1 : Pos} {Γ : List (Option Rt)} {g : TG} {ixs : List Nat} {u : Int → List (Option Rt) → List (Option Rt)} {scope : Scope} {own : List (Str × Nat)}
/-- range of a number of which is known what it may be -/
theorem wx_range {N : Nat} (hm : X.mg "range" = none) (h : Ev m X e σ B H (IntP fun i => 0 ≤ i ∧ i ≤ N)) (hN : N < 100000) (hg : Gl X "range" := by rfl) (hs : starEach [e] X.env = [(false, eval e X.env)] := by rfl) :
    ∃ wi, PI X tg (.Call (.Name "range" p1) [e] [] pos) wi ∧ ∀ B1 H1, Stp m B H B1 H1 → ∀ R : It → Hp → Prop, (∀ J B2 H2 n, n ≤ N → Stp m B1 H1 B2 H2 → JOkS m B H J B2 (rngD n) → R J H2) → wi σ H1 R :=
  ⟨_, pi_range1 hg hm pa_w hs, fun B1 H1 s1 R q => (ea1 h hs) B1 H1 s1 _ fun vs B2 H2 s2 r => by
    obtain ⟨v, rfl, n, hn, rfl⟩ := args1 r
    refine ⟨n, rfl, by omega, by omega, q _ B2 H2 n.toNat (by omega) s2 ⟨fun i B3 H3 s3 sb hi => ?_, fun i B3 H3 s3 sb hi => ?_, fun i d B3 H3 x H' hd s3 sb y => ?_⟩⟩
    · unfold rngD at hi
      show i < n.toNat
      simpa using hi
    · unfold rngD at hi
      show n.toNat ≤ i
      simpa using hi
    · obtain ⟨e, y⟩ := y
      subst e
      obtain ⟨_, rfl⟩ := rngD_at hd
      refine ⟨B3, s3.here, ?_⟩
      rw [y, Int.zero_add]
      exact .int _⟩
theorem lc_runX {N : Nat} {P : PyData → Prop} (S : Stp m B0 H0 B H) (E : Sl σ B Γ) (T : ∀ x : Int, TgE X.K g (.int x) ixs (u x)) (hix : ∀ i ∈ ixs, i ∈ own.map (·.2)) (hz : N ≤ 100000) {tt : TT} {te : TE} (ht : ∀ (x : Int) σ1 B1 H1, Stp m B H B1 H1 → ∀ Q : Bool → Hp → Prop, (∀ B2 H2, Stp m B1 H1 B2 H2 → Q true H2) → tt σ1 H1 Q)
    (he : ∀ (x : Int) σ1 B1 H1, Stp m B H B1 H1 → Sl σ1 B1 (u x (wipeG Γ (own.map (·.2)))) → ∀ Q : VK, (∀ v B2 H2, Stp m B1 H1 B2 H2 → (∃ d, P d ∧ Dq B2 v d) → Q v H2) → te σ1 H1 Q)
    {wi : TI} (hw : ∀ B1 H1, Stp m B H B1 H1 → ∀ R : It → Hp → Prop, (∀ J B2 H2 n, n ≤ N → Stp m B1 H1 B2 H2 → JOkS m B H J B2 (rngD n) → R J H2) → wi σ H1 R) {Q : VK}
    (q : ∀ D zs B2 H2 ds, Stp m B H B2 H2 → H D = none → B2 D = none → H2 D = some (.lst zs) → ds.length ≤ N → (∀ d ∈ ds, P d) → DqAll B2 zs ds → Q (.ref D) H2) : tLc wi g tt te (own.map (·.2)) σ H Q := by
  refine hw B H S.here _ fun J B2 H2 n hn s2 jo D hD => ?_
  obtain ⟨j1, j2, j3⟩ := jo
  have hlen : (rngD n).length = n := by unfold rngD; simp
  have hDn : H D = none := s2.t D hD
  let Pv : Nat → Hp → Prop := fun i H' => ∃ B' zs ds, Stp m B H B' H' ∧ Same B2 B' ∧ B' D = none ∧ H' D = some (.lst zs) ∧ DqAll B' zs ds ∧ ds.length = i ∧ ∀ d ∈ ds, P d
  refine ⟨fun i k H' => k = n - i ∧ i ≤ n ∧ Pv i H', ⟨n, by simp, Nat.zero_le _, B2, [], [], s2.mnew hD, Same.refl _, s2.s.free hD, upd_same, .nil, rfl, fun _ h => (nomatch h)⟩, ?_⟩
  rintro i k H1 ⟨rfl, hi, B1, zs, ds, s1, sb, n1, hz1, hd1, hl1, hp1⟩
  by_cases hlt : i < n
  · refine .inr ⟨j1 i B1 H1 s1 sb (by rw [hlen]; exact hlt), Pv (i + 1), fun H' p' => ⟨n - (i + 1), by omega, rfl, hlt, p'⟩, fun x H' y => ?_⟩
    have hx : (rngD n)[i]? = some (.int (i : Int)) := by
      unfold rngD
      rw [List.getElem?_map, List.getElem?_range hlt] <;> rfl
    obtain ⟨B3, s3, r3⟩ := j3 i _ B1 H1 x H' hx s1 sb y
    have E3 : Sl (wipe σ (own.map (·.2))) B3 (wipeG Γ (own.map (·.2))) := (E.mono (s1.trans s3).b).wipe _
    refine T (i : Int) x _ B3 H' _ _ E3 r3 s3.s fun σ' E' hw' => ⟨?_, ?_⟩
    · rw [hw' _ hix, wipe_wipe fun _ h => h]
    · refine ht (i : Int) σ' B3 H' (s1.trans s3) _ fun B4 H4 s4 => ?_
      have hD4 : H4 D = some (.lst zs) := s4.h _ _ (s2.p.ne hD) (s3.h _ _ (s2.p.ne hD) hz1)
      have n4 : B4 D = none := s4.f _ _ (s3.h _ _ (s2.p.ne hD) hz1) (s3.f _ _ hz1 n1)
      refine iteT (he (i : Int) σ' B4 H4 ((s1.trans s3).trans s4) (E'.mono s4.b) _ fun v B5 H5 s5 ⟨d, hd, r5⟩ => ?_)
      have hD5 : H5 D = some (.lst zs) := s5.h _ _ (s2.p.ne hD) hD4
      have n5 : B5 D = none := s5.f _ _ hD4 n4
      have hle : zs.length < sizeLine := by
        have e := hd1.len
        exact Nat.lt_of_le_of_lt (show zs.length ≤ 100000 by omega) (by decide)
      refine ⟨zs, hD5, hle, B5, zs ++ [v], ds ++ [d], (((s1.trans s3).trans s4).trans s5).mut hDn n5 (s2.p.ne hD), sb.trans ((s3.trans s4).trans s5).b, n5, upd_same, (hd1.mono ((s3.trans s4).trans s5).b).app (.one r5), by rw [List.length_append, hl1]; rfl, fun z hz => (List.mem_append.mp hz).elim (hp1 z) fun hz => by rw [List.mem_singleton.mp hz]; exact hd⟩
  · have e : i = n := by omega
    subst e
    exact .inl ⟨j2 _ B1 H1 s1 sb (by rw [hlen]; exact Nat.le_refl _), q D zs B1 H1 ds s1 hDn n1 hz1 (by omega) hp1 hd1⟩
variable {D : Ends} {rest : List Stmt} {x : Str} {spos : Pos} {a b c : Expr}
theorem ws_lcX {N : Nat} {P : PyData → Prop} (S : Stp m B0 H0 B H) (E : Sl σ B Γ) (i : Nat) (W : ∃ wi, PI X tg iter wi ∧ ∀ B1 H1, Stp m B H B1 H1 → ∀ R : It → Hp → Prop, (∀ J B2 H2 n, n ≤ N → Stp m B1 H1 B2 H2 → JOkS m B H J B2 (rngD n) → R J H2) → wi σ H1 R) (hc : X.calm = true) (hN : X.N.Nodup) (ok : BlkOk X.N X.env.scope scope own)
    (hg : ∀ (s : Shared) (H : Hp) (C : Addr) (cl : List (Str × Addr)) (fp : List Addr), PG (bX X scope s H C cl fp) tg g) (T : ∀ x : Int, TgE X.K g (.int x) ixs (u x))
    (he : ∀ s0 H0 C cl fp (x : Int) σ1 B1 H1, Stp m B H B1 H1 → Sl σ1 B1 (u x (wipeG Γ (own.map (·.2)))) → Ev m (bX X scope s0 H0 C cl fp) elt σ1 B1 H1 (fun v B => ∃ d, P d ∧ Dq B v d))
    (hz : N ≤ 100000) (k : ∀ p ds B' H', Stp m B H B' H' → Stp m B0 H0 B' H' → H p = none → H0 p = none → ds.length ≤ N → (∀ d ∈ ds, P d) → Mu m B' H' p ds → Sl (σ.set i (some (.ref p))) B' (Γ.set i (some (IsV (.ref p)))) → wSs X rest D (σ.set i (some (.ref p))) H')
    (hy : X.N[i]? = some x := by rfl) (hyl : X.env.scope.names.lookup x = some .local := by rfl) (hsw : swapsWith (.ListComp elt [⟨tg, iter, [], 0⟩] scope pos) (some (.Name x p1)) spos.line X.env = pure true := by exact sw_true rfl rfl rfl (by decide +kernel))
    (hix : ∀ i ∈ ixs, i ∈ own.map (·.2) := by decide) (hs : ∀ x, foldedSetIterable iter X.env x = pure x := by intro _; rfl) : wSs X (.Assign [.Name x p1] (.ListComp elt [⟨tg, iter, [], 0⟩] scope pos) spos :: rest) D σ H := by
  obtain ⟨wi, hi, hw⟩ := W
  refine ws_cons (ps_setLc (te := fun σ H Q => ∀ s0 H0 C cl fp, wE (bX X scope s0 H0 C cl fp) elt σ H Q) hc hN hy hyl hsw hi ok hg (fun _ _ _ _ _ => pts_nil) (fun s0 H0 C cl fp => ⟨fun pins s σ H Q I h => h s0 H0 C cl fp pins s I⟩) hs) ?_
  refine lc_runX (P := P) S E T hix hz (fun x σ1 B2 H2 s2 Q q => q B2 H2 s2.here) (fun x σ1 B2 H2 s2 E2 Q q s0 H0 C cl fp => ?_) hw fun D zs B2 H2 ds s2 n1 n2 hz hl hp hd => ?_
  · exact he s0 H0 C cl fp x σ1 B2 H2 s2 E2 B2 H2 s2.here Q fun v B3 H3 s3 r => q v B3 H3 s3 r
  · exact k D ds B2 H2 s2 (S.trans s2) n1 (S.t D n1) hl hp ⟨S.p.ne n1, n2, zs, hz, hd⟩ ((E.mono s2.b).set rfl)
theorem em_lcX {N : Nat} {P : PyData → Prop} (E : Sl σ B Γ) (W : ∃ wi, PI X tg iter wi ∧ ∀ B1 H1, Stp m B H B1 H1 → ∀ R : It → Hp → Prop, (∀ J B2 H2 n, n ≤ N → Stp m B1 H1 B2 H2 → JOkS m B H J B2 (rngD n) → R J H2) → wi σ H1 R) (hc : X.calm = true) (hN : X.N.Nodup) (ok : BlkOk X.N X.env.scope scope own)
    (hg : ∀ (s : Shared) (H : Hp) (C : Addr) (cl : List (Str × Addr)) (fp : List Addr), PG (bX X scope s H C cl fp) tg g) (T : ∀ x : Int, TgE X.K g (.int x) ixs (u x))
    (he : ∀ s0 H0 C cl fp (x : Int) σ1 B1 H1, Stp m B H B1 H1 → Sl σ1 B1 (u x (wipeG Γ (own.map (·.2)))) → Ev m (bX X scope s0 H0 C cl fp) elt σ1 B1 H1 (fun v B => ∃ d, P d ∧ Dq B v d))
    (hz : N ≤ 100000) (hix : ∀ i ∈ ixs, i ∈ own.map (·.2) := by decide) (hs : ∀ x, foldedSetIterable iter X.env x = pure x := by intro _; rfl) : Ev m X (.ListComp elt [⟨tg, iter, [], 0⟩] scope pos) σ B H (fun v B => ∃ ds, ds.length ≤ N ∧ (∀ d ∈ ds, P d) ∧ Dq B v (.list ds)) := fun B1 H1 s1 Q q => by
  obtain ⟨wi, hi, hw⟩ := W
  refine wE.of (pe_lc (te := fun σ H Q => ∀ s0 H0 C cl fp, wE (bX X scope s0 H0 C cl fp) elt σ H Q) hc hN hi ok hg (fun _ _ _ _ _ => pts_nil) (fun s0 H0 C cl fp => ⟨fun pins s σ H Q I h => h s0 H0 C cl fp pins s I⟩) hs) ?_
  refine lc_runX (P := P) s1 (E.mono s1.b) T hix hz (fun x σ1 B2 H2 s2 Q q => q B2 H2 s2.here) (fun x σ1 B2 H2 s2 E2 Q q s0 H0 C cl fp => ?_) (fun B2 H2 s2 R q => hw B2 H2 (s1.trans s2) R fun J B3 H3 n hn s3 jo => q J B3 H3 n hn s3 (jo.at s1)) fun D zs B2 H2 ds s2 n1 n2 hz hl hp hd => ?_
  · exact he s0 H0 C cl fp x σ1 B2 H2 (s1.trans s2) E2 B2 H2 s2.here Q fun v B3 H3 s3 r => q v B3 H3 s3 r
  · exact q (.ref D) (upd B2 D (.lst zs)) H2 (s2.frz n1 n2 hz (s1.p.ne n1)) ⟨ds, hl, hp, .lst upd_same (hd.mono (same_upd n2))⟩
/-- x = e, of whose data is known what they may be -/
theorem ws_setX {P : PyData → Prop} (S : Stp m B0 H0 B H) (E : Sl σ B Γ) (i : Nat) (a : Ev m X e σ B H (fun v B => ∃ d, P d ∧ Dq B v d)) (k : ∀ v d B' H', P d → Stp m B H B' H' → Stp m B0 H0 B' H' → Sl (σ.set i (some v)) B' (Γ.set i (some (K3.IsD d))) → wSs X rest D (σ.set i (some v)) H')
    (hN : X.N.Nodup) (hi : X.N[i]? = some x := by rfl) (hx : Loc X.env.scope x := by first | exact Or.inl rfl | exact Or.inr rfl) (hs : swapsWith e (some (.Name x p1)) pos.line X.env = pure false := by rfl) (hf : X.fn x = true ∨ X.env.scope.names.lookup x = some .local := by first | exact .inl rfl | exact .inr rfl) :
    wSs X (.Assign [.Name x p1] e pos :: rest) D σ H :=
  ws_cons (ps_set hN hi hx pe_w hs hf) (a B H S.here _ fun v B2 H2 s ⟨d, hd, r⟩ => k v d B2 H2 hd s (S.trans s) ((E.mono s.b).set (R := K3.IsD d) r))
theorem ws_setI {P : Int → Prop} (S : Stp m B0 H0 B H) (E : Sl σ B Γ) (i : Nat) (a : Ev m X e σ B H (IntP P)) (k : ∀ z B' H', P z → Stp m B H B' H' → Stp m B0 H0 B' H' → Sl (σ.set i (some (.int z))) B' (Γ.set i (some (K3.IsD (.int z)))) → wSs X rest D (σ.set i (some (.int z))) H')
    (hN : X.N.Nodup) (hi : X.N[i]? = some x := by rfl) (hx : Loc X.env.scope x := by first | exact Or.inl rfl | exact Or.inr rfl) (hs : swapsWith e (some (.Name x p1)) pos.line X.env = pure false := by rfl) (hf : X.fn x = true ∨ X.env.scope.names.lookup x = some .local := by first | exact .inl rfl | exact .inr rfl) :
    wSs X (.Assign [.Name x p1] e pos :: rest) D σ H :=
  ws_cons (ps_set hN hi hx pe_w hs hf) (a B H S.here _ fun v B2 H2 s ⟨z, hd, r⟩ => by
    subst r
    exact k z B2 H2 hd s (S.trans s) ((E.mono s.b).set (R := K3.IsD (.int z)) (.int _)))
theorem ev_ofI {P : Int → Prop} {pr : PyData → Prop} (a : Ev m X e σ B H (IntP P)) (h : ∀ z, P z → pr (.int z)) : Ev m X e σ B H (fun v B => ∃ d, pr d ∧ Dq B v d) := a.imp fun v B1 H1 ⟨z, hz, e⟩ => ⟨.int z, h z hz, by rw [e]; exact .int _⟩
/-- x, y = a, b, numbers both -/
theorem ws_parI {P P2 : Int → Prop} {y : Str} {px py pt : Pos} {kt k2 : Nat} {pt2 : Pos} (S : Stp m B0 H0 B H) (E : Sl σ B Γ) (i j : Nat) (ha : Ev m X a σ B H (IntP P)) (hb : Ev m X b σ B H (IntP P2))
    (k : ∀ z z2 B' H', P z → P2 z2 → Stp m B H B' H' → Stp m B0 H0 B' H' → Sl ((σ.set i (some (.int z))).set j (some (.int z2))) B' ((Γ.set i (some (K3.IsD (.int z)))).set j (some (K3.IsD (.int z2)))) → wSs X rest D ((σ.set i (some (.int z))).set j (some (.int z2))) H')
    (hN : X.N.Nodup) (hc : X.calm = true := by rfl) (hi : X.N[i]? = some x := by rfl) (hj : X.N[j]? = some y := by rfl) (hij : i ≠ j := by decide) (hx : X.env.scope.names.lookup x = some .local := by rfl) (hy : X.env.scope.names.lookup y = some .local := by rfl)
    (hw : swappedStores [.Tuple [.Name x px, .Name y py] kt pt] (.Tuple [a, b] k2 pt2) X.env = pure (some [x, y]) := by rfl) (hs : swapsWithSole [.Tuple [.Name x px, .Name y py] kt pt] (.Tuple [a, b] k2 pt2) pos.line X.env = pure false := by rfl)
    (hst : starEach (a :: [b]) X.env = (false, eval a X.env) :: starEach [b] X.env := by rfl) (hst2 : starEach [b] X.env = (false, eval b X.env) :: starEach [] X.env := by rfl) :
    wSs X (.Assign [.Tuple [.Name x px, .Name y py] kt pt] (.Tuple [a, b] k2 pt2) pos :: rest) D σ H :=
  ws_cons (ps_par hc hN hi hj hij hx hy pa_w hw hs) ((ea2 ha hb hst hst2) B H S.here _ fun vs B1 H1 s1 r => by
    obtain ⟨v, w, rfl, ⟨z, h1, e1⟩, ⟨z2, h2, e2⟩⟩ := args2 r
    subst e1; subst e2
    exact ⟨.int z, .int z2, rfl, k z z2 B1 H1 h1 h2 s1 (S.trans s1) (((E.mono s1.b).set (R := K3.IsD (.int z)) (.int _)).set (R := K3.IsD (.int z2)) (.int _))⟩)
/-- a and b and c, c either -/
theorem et_andF {kb kb' : Bool} (ha : EvT m X a σ B H kb) (hb : kb = true → EvT m X b σ B H kb') (hc : kb = true → kb' = true → EvTN m X c σ B H) : EvTN m X (.BoolOp .And [a, b, c] pos) σ B H := fun B1 H1 s1 Q q =>
  wT.of (PW.pt (pw_and pt_w (pw_and pt_w (pw_and1 pt_w)))) (ha B1 H1 s1 _ fun B2 H2 s2 => by
    cases kb with
    | false => exact q _ B2 H2 s2
    | true =>
      refine hb rfl B2 H2 (s1.trans s2) _ fun B3 H3 s3 => ?_
      cases kb' with
      | false => exact q _ B3 H3 (s2.trans s3)
      | true => exact hc rfl rfl B3 H3 ((s1.trans s2).trans s3) _ fun b B4 H4 s4 => q b B4 H4 ((s2.trans s3).trans s4))
end
end K3
/-! TEXT G6 -/
set_option Elab.async false
set_option linter.all false
set_option maxRecDepth 100000
set_option maxHeartbeats 1000000
namespace K3
open PySem PySem.Spec L2
section
variable {P : Program} {w : World} {K : PySem.W.Frag} {mg : Str → Option Value} {base : Heap}
theorem cl_L_draw (T : Tx K mg) (p : Addr) (n : Nat) (hn : 0 < n) (hn2 : n < 1000000) : Cl P w K mg base "_law_draw" ["_law_pot_here", "_law_size"] 1 (spD (some p) [IsV (.ref p), K3.IsD (.int n)] (IntP fun i => 0 ≤ i ∧ i < n)) :=
  cl_mk T 60 (d := d_L_draw) rfl rfl rfl rfl (by decide +kernel) (fun _ _ _ _ _ _ us hl => match us, hl with | [_, _], _ => rfl) fun fa fdd FF => by
    refine fn_ok FF sc_L_draw rfl fun cdv A outer s E0 B H vs Q hr S E q => ?_
    have hB : B p = none := (S.p p rfl).2
    obtain ⟨a, b, ha, hb, hb2, S, M⟩ := pot_own S
    have hn' : (0 : Int) < n := by omega
    refine ws_if S (et_cmp cm_gt (ev_ixM M (ev_v E 0) ev_int (atI_ok (by decide) rfl)) ev_int) (fun hk B2 H2 s2 S => ?_) (fun hk B2 H2 s2 S => ws_nil ?_)
    · have E := E.mono s2.b
      have M := M.mono s2
      refine ws_divmod (ii := 2) S E M hide_at (T_free T) (ev_ixM M (ev_v E 0) ev_int (atI_ok (by decide) rfl)) (ev_v E 1) ⟨hn', by omega⟩ (fun E h => ev_v E 0 (h := h)) rfl ev_int rfl sc_L_draw.nd rfl (Or.inl rfl) rfl (fun B3 H3 sb3 S M E => ?_) (hPG := pg_tup rfl (pgs_cons (pg_sub pe_w pe_w set_list) (pgs_cons (pg_name (i := 2) sc_L_draw.nd rfl (by first | exact Or.inl rfl | exact Or.inr rfl)) pgs_nil)))
      refine ws_ret S.here (ev_v E 2) fun v B' H' s' r => ?_
      exact q v B' H' (pot_back (S.trans s') hB (M.mono s') (Int.ediv_nonneg ha (by omega)) hb hb2) ⟨_, ⟨Int.emod_nonneg _ (by omega), Int.emod_lt_of_pos _ hn'⟩, Dq.int_eq r⟩
    · have E := E.mono s2.b
      have M := M.mono s2
      refine ws_setix S M hide_at (ev_mod (by decide) (ev_int1 (T_free T) (ev_add (ev_mul (.inr ⟨by decide, by decide⟩) (ev_ixM M (ev_v E 0) ev_int (atI_ok (by decide) rfl)) ev_int) ev_int)) ev_int) (ev_v E 0) ev_int rfl (fun B3 H3 sb3 S M _ => ?_)
      have E := E.mono sb3
      have l1 : 0 ≤ (b * 48271 + 11587) % 2147483587 := Int.emod_nonneg _ (by decide)
      have l2 : (b * 48271 + 11587) % 2147483587 < 2147483587 := Int.emod_lt_of_pos _ (by decide)
      refine ws_ret S.here (ev_mod hn' (ev_int1 (T_free T) (ev_fdiv ⟨by decide, by decide⟩ (ev_mod (by decide) (ev_int1 (T_free T) (ev_mul (.inl ⟨by omega, by omega⟩) (ev_ixM M (ev_v E 0) ev_int (atI_ok (by decide) rfl)) (ev_ixM M (ev_v E 0) ev_int (atI_ok (by decide) rfl)))) ev_int) ev_int)) (ev_v E 1)) fun v B' H' s' r => ?_
      exact q v B' H' (pot_back (S.trans s') hB (M.mono s') ha l1 (by omega)) ⟨_, ⟨Int.emod_nonneg _ (by omega), Int.emod_lt_of_pos _ hn'⟩, Dq.int_eq r⟩
theorem cl_L_pick (T : Tx K mg) (p : Addr) (ds : List PyData) (hn : 0 < ds.length) (hn2 : ds.length < 1000000) : Cl P w K mg base "_law_pick" ["_law_pot_here", "_law_some"] 2 (spD (some p) [IsV (.ref p), K3.IsD (.list ds)] (OneOf ds)) :=
  cl_mk T 61 (d := d_L_pick) rfl rfl rfl rfl (by decide +kernel) (fun _ _ _ _ _ _ us hl => match us, hl with | [_, _], _ => rfl) fun fa fdd FF => by
    refine fn_ok FF sc_L_pick rfl fun cdv A outer s E0 B H vs Q hr S E q => ?_
    exact ws_ret S (ev_ixLX (ev_v E 1) (ev_callP (cl_L_draw T p ds.length hn hn2) hr (ea2 (ev_v E 0) (ev_lenL (T_free T) (ev_v E 1))))) q
/-- a gate over n lanes whose number is small -/
def Sg (n : Nat) (g : Gate) : Prop := Vg n g ∧ -12 ≤ g.other ∧ g.other ≤ 12
theorem kinds_of {d : PyData} (h : d ∈ (["low", "high", "sort", "low", "high", "copy", "add", "add"] : List Str).map PyData.str) : ∃ k : Gk, d = .str k.s := by
  simp only [List.map_cons, List.map_nil, List.mem_cons, List.not_mem_nil, or_false] at h
  rcases h with h | h | h | h | h | h | h | h
  · exact ⟨.low, h⟩
  · exact ⟨.high, h⟩
  · exact ⟨.sort, h⟩
  · exact ⟨.low, h⟩
  · exact ⟨.high, h⟩
  · exact ⟨.copy, h⟩
  · exact ⟨.add, h⟩
  · exact ⟨.add, h⟩
theorem other_of {n : Nat} {i j : Int} (hi : 0 ≤ i ∧ i < n) (hj : 0 ≤ j ∧ j < (n : Int) - 1) : 0 ≤ (i + 1 + j) % n ∧ (i + 1 + j) % n < n ∧ i ≠ (i + 1 + j) % n := by
  have hn : (0 : Int) < n := by omega
  refine ⟨Int.emod_nonneg _ (by omega), Int.emod_lt_of_pos _ hn, fun h => ?_⟩
  rcases Int.lt_or_le (i + 1 + j) n with z | z
  · rw [Int.emod_eq_of_lt (by omega) z] at h; omega
  · have : (i + 1 + j) % n = (i + 1 + j - n) % n := by rw [Int.sub_emod_right]
    rw [this, Int.emod_eq_of_lt (by omega) (by omega)] at h
    omega
theorem cl_L_gate (T : Tx K mg) (p : Addr) (n : Nat) (plain : Bool) (hn : 0 < n) (hn2 : n ≤ 12) : Cl P w K mg base "_law_gate" ["_law_pot_here", "_law_lanes_here", "_law_plain"] 3 (spD (some p) [IsV (.ref p), K3.IsD (.int n), K3.IsD (.bool plain)] (fun v B => ∃ d, (∃ g, Sg n g ∧ d = encG g) ∧ Dq B v d)) :=
  cl_mk T 62 (d := d_L_gate) rfl rfl rfl rfl (by decide +kernel) (fun _ _ _ _ _ _ us hl => match us, hl with | [_, _, _], _ => rfl) fun fa fdd FF => by
    refine fn_ok FF sc_L_gate rfl fun cdv A outer s E0 B H vs Q hr S E q => ?_
    refine ws_setI S E 3 (ev_callP (cl_L_draw T p n hn (by omega)) hr (ea2 (ev_v E 0) (ev_v E 1))) (fun one B1 H1 h1 s1 S E => ?_) sc_L_gate.nd
    refine ws_setX (P := fun d => ∃ k : Gk, d = .str k.s) S E 4 ((ev_callP (cl_L_pick T p ((["low", "high", "sort", "low", "high", "copy", "add", "add"] : List Str).map PyData.str) (by decide) (by decide)) hr (ea2 (ev_v E 0) (EvM.ev (em_lst _ (ea_cons ev_str (ea_cons ev_str (ea_cons ev_str (ea_cons ev_str (ea_cons ev_str (ea_cons ev_str (ea_cons ev_str (ea1 ev_str)))))))) (Nat.le_of_ble_eq_true rfl))))).imp fun v B1 _ ⟨d, hd, r⟩ => ⟨d, kinds_of hd, r⟩) (fun v d B2 H2 hd s2 S E => ?_) sc_L_gate.nd
    obtain ⟨kd, rfl⟩ := hd
    refine ws_if S (et_or2 (et_cmp cm_eqI (ev_v E 1) ev_int) fun _ => et_cmp cm_eqS (ev_v E 4) ev_str) (fun hk B3 H3 s3 S => ?_) (fun hk B3 H3 s3 S => ws_nil ?_)
    · have E := E.mono s3.b
      refine ws_ret S (ev_tup3X (P := fun j => -12 ≤ j ∧ j ≤ 12) ev_str (ev_v E 3) (ev_if (et_val (ev_v E 2)) (fun _ => xp_of ev_int (by decide)) fun _ => xp_subR (ev_callP (cl_L_draw T p 19 (by decide) (by decide)) hr (ea2 (ev_v E 0) ev_int)) ev_int fun i h => by omega)) fun v B' H' s' r => ?_
      obtain ⟨j, hj, r⟩ := r
      exact q v B' H' s' ⟨_, ⟨⟨.add, one, j⟩, ⟨⟨h1, fun z => absurd rfl z⟩, hj⟩, rfl⟩, r⟩
    · have E := E.mono s3.b
      have hk2 := Bool.or_eq_false_iff.mp hk
      have hka : kd ≠ .add := fun z => by subst z; exact absurd hk2.2 (by decide)
      have hn1 : n ≠ 1 := fun z => by subst z; exact absurd hk2.1 (by decide)
      have e1 : ((n : Int) - 1) = ((n - 1 : Nat) : Int) := by omega
      refine ws_ret S (ev_tup3X (P := fun j => 0 ≤ j ∧ j < n ∧ one ≠ j) (ev_v E 4) (ev_v E 3) (xp_mod (xp_int1 (T_free T) (xp_addL (P' := fun i => ∃ j : Int, (0 ≤ j ∧ j < (n : Int) - 1) ∧ i = one + 1 + j) (ev_add (ev_v E 3) ev_int) (ev_callP (cl_L_draw T p (n - 1) (by omega) (by omega)) hr (ea2 (ev_v E 0) (Ev.cast (ev_sub (ev_v E 1) ev_int) (by rw [e1])))) fun i h => ⟨i, by omega, rfl⟩)) (ev_v E 1) (by omega) fun i ⟨j, hj, e⟩ => by rw [e]; exact other_of h1 hj)) fun v B' H' s' r => ?_
      obtain ⟨j, hj, r⟩ := r
      exact q v B' H' s' ⟨_, ⟨⟨kd, one, j⟩, ⟨⟨h1, fun _ => hj⟩, by show -12 ≤ j; omega, by show j ≤ 12; omega⟩, rfl⟩, r⟩
end
end K3
/-! TEXT G7 -/
set_option Elab.async false
set_option linter.all false
set_option maxRecDepth 100000
set_option maxHeartbeats 1000000
namespace K3
open PySem PySem.Spec L2
section
variable {P : Program} {w : World} {K : PySem.W.Frag} {mg : Str → Option Value} {base : Heap}
theorem dec_all {α : Type} {P : α → Prop} {enc : α → PyData} : ∀ {ds : List PyData}, (∀ d ∈ ds, ∃ g, P g ∧ d = enc g) → ∃ gs : List α, ds = gs.map enc ∧ ∀ g ∈ gs, P g
  | [], _ => ⟨[], rfl, fun _ h => nomatch h⟩
  | d :: ds, h => by
    obtain ⟨g, hg, e⟩ := h d List.mem_cons_self
    obtain ⟨gs, e2, h2⟩ := dec_all fun z hz => h z (List.mem_cons_of_mem _ hz)
    refine ⟨g :: gs, by rw [e, e2]; rfl, fun z hz => ?_⟩
    rcases List.mem_cons.mp hz with rfl | hz
    · exact hg
    · exact h2 z hz
/-- some gates over n lanes, at most k -/
def Sgs (n k : Nat) (gs : List Gate) : Prop := gs.length ≤ k ∧ ∀ g ∈ gs, Sg n g
def GsD (n k : Nat) : Rt := fun v B => ∃ d, (∃ gs, Sgs n k gs ∧ d = .list (gs.map encG)) ∧ Dq B v d
theorem cl_L_gates (T : Tx K mg) (p : Addr) (n most : Nat) (plain : Bool) (hn : 0 < n) (hn2 : n ≤ 12) (hm : most ≤ 100) : Cl P w K mg base "_law_gates" ["_law_pot_here", "_law_lanes_here", "_law_most", "_law_plain"] 4 (spD (some p) [IsV (.ref p), K3.IsD (.int n), K3.IsD (.int most), K3.IsD (.bool plain)] (GsD n most)) :=
  cl_mk T 63 (d := d_L_gates) rfl rfl rfl rfl (by decide +kernel) (fun _ _ _ _ _ _ us hl => match us, hl with | [_, _, _, _], _ => rfl) fun fa fdd FF => by
    refine fn_ok FF sc_L_gates rfl fun cdv A outer s E0 B H vs Q hr S E q => ?_
    refine ws_lcX (N := most) (P := fun d => ∃ g, Sg n g ∧ d = encG g) (own := [("_law_turn", 5)]) S E 4 (wx_range (T_free T) (xp_imp (ev_callP (cl_L_draw T p (most + 1) (by omega) (by omega)) hr (ea2 (ev_v E 0) (Ev.cast (ev_add (ev_v E 2) ev_int) (by rw [Int.natCast_add]; rfl)))) fun i h => by omega) (by omega)) rfl sc_L_gates.nd (blkOk_by (own := [("_law_turn", 5)]) (N := N_L_gates) (sc := defScope s_L_gates) (by decide +kernel)) (fun _ _ _ _ _ => pg_name (i := 5) sc_L_gates.nd rfl (by first | exact Or.inl rfl | exact Or.inr rfl)) (fun x => tg1)
      (fun s0 H0 C cl fp x σ1 B1 H1 s1 E1 => ev_callP (cl_L_gate T p n plain hn hn2) hr (ea3 (ev_v E1 0) (ev_v E1 1) (ev_v E1 3))) (by omega) fun q1 ds B1 H1 s1 S n1 n2 hl hp M E => ?_
    obtain ⟨gs, rfl, hg⟩ := dec_all hp
    rw [List.length_map] at hl
    refine ws_ret S (EvM.ev (em_lcF (xs := gs) (enc := encG) (f := encG) (p := fun g => !plain || !decide (g.kind.s = "add")) (own := [("_law_gate_here", 6)]) E (wk_listM M (ev_v E 4)) rfl sc_L_gates.nd (blkOk_by (own := [("_law_gate_here", 6)]) (N := N_L_gates) (sc := defScope s_L_gates) (by decide +kernel)) (fun _ _ _ _ _ => pg_name (i := 6) sc_L_gates.nd rfl (by first | exact Or.inl rfl | exact Or.inr rfl)) (fun x _ => tg1)
      (fun s0 H0 C cl fp g σ1 B1 H1 hx s1 E1 => et_or2 (et_not (et_val (ev_v E1 3))) fun _ => et_cmp cm_neS (ev_ixT (ev_v E1 6) ev_int (atI_ok (by decide) rfl)) ev_str) (fun s0 H0 C cl fp g σ1 B1 H1 hx _ s1 E1 => ev_v E1 6) (by omega))) fun v B' H' s' r => ?_
    exact q v B' H' s' ⟨_, ⟨gs.filter fun g => !plain || !decide (g.kind.s = "add"), ⟨Nat.le_trans (List.length_filter_le _ _) hl, fun g h => hg g (List.mem_filter.mp h).1⟩, rfl⟩, r⟩
end
end K3
/-! TEXT G8 -/
set_option Elab.async false
set_option linter.all false
set_option maxRecDepth 100000
set_option maxHeartbeats 1000000
namespace K3
open PySem PySem.Spec L2
section
variable {P : Program} {w : World} {K : PySem.W.Frag} {mg : Str → Option Value} {base : Heap}
theorem sgs_take {n k i : Nat} {gs : List Gate} (h : Sgs n k gs) : ∀ g ∈ gs.take i, Sg n g := fun g hg => h.2 g (List.mem_of_mem_take hg)
theorem sgs_drop {n k i : Nat} {gs : List Gate} (h : Sgs n k gs) : ∀ g ∈ gs.drop i, Sg n g := fun g hg => h.2 g (List.mem_of_mem_drop hg)
theorem sgs_mid {n k i j m : Nat} {gs es : List Gate} (h : Sgs n k gs) (he : ∀ g ∈ es, Sg n g) (hk : (gs.take i ++ es ++ gs.drop j).length ≤ m) : Sgs n m (gs.take i ++ es ++ gs.drop j) := ⟨hk, fun g hg => by
  rcases List.mem_append.mp hg with hg | hg
  · rcases List.mem_append.mp hg with hg | hg
    · exact sgs_take h g hg
    · exact he g hg
  · exact sgs_drop h g hg⟩
theorem cl_L_thicker (T : Tx K mg) (p : Addr) (n k : Nat) (gs : List Gate) (hn : 0 < n) (hn2 : n ≤ 12) (hk : k ≤ 100) (hg : Sgs n k gs) : Cl P w K mg base "_law_thicker" ["_law_pot_here", "_law_gates_here", "_law_lanes_here"] 4 (spD (some p) [IsV (.ref p), K3.IsD (.list (gs.map encG)), K3.IsD (.int n)] (GsD n (k + 2))) :=
  cl_mk T 78 (d := d_L_thicker) rfl rfl rfl rfl (by decide +kernel) (fun _ _ _ _ _ _ us hl => match us, hl with | [_, _, _], _ => rfl) fun fa fdd FF => by
    refine fn_ok FF sc_L_thicker rfl fun cdv A outer s E0 B H vs Q hr S E q => ?_
    have hlen := hg.1
    refine ws_setI S E 3 (ev_callP (cl_L_draw T p (gs.length + 1) (by omega) (by omega)) hr (ea2 (ev_v E 0) (Ev.cast (ev_add (ev_lenL (T_free T) (ev_v E 1)) ev_int) (by rw [List.length_map, Int.natCast_add]; rfl)))) (fun at' B1 H1 h1 s1 S E => ?_) sc_L_thicker.nd
    obtain ⟨i, rfl⟩ : ∃ i : Nat, at' = i := ⟨at'.toNat, by omega⟩
    refine ws_parI (P2 := fun j => -12 ≤ j ∧ j ≤ 12) S E 4 5 (ev_callP (cl_L_draw T p n hn (by omega)) hr (ea2 (ev_v E 0) (ev_v E 2))) (xp_subR (ev_callP (cl_L_draw T p 19 (by decide) (by decide)) hr (ea2 (ev_v E 0) ev_int)) ev_int fun i h => by omega) (fun lane num B2 H2 hl hnum s2 S E => ?_) sc_L_thicker.nd
    refine ws_set S E 6 (R := K3.IsD (.list (([⟨.add, lane, num⟩, ⟨.add, lane, 0 - num⟩] : List Gate).map encG))) (EvM.ev (em_lst _ (ea2 (ev_tup [.str (Gk.s .add), .int lane, .int num] (ea3 ev_str (ev_v E 4) (ev_v E 5)) (Nat.le_of_ble_eq_true rfl)) (ev_tup [.str (Gk.s .add), .int lane, .int (0 - num)] (ea3 ev_str (ev_v E 4) (ev_sub ev_int (ev_v E 5))) (Nat.le_of_ble_eq_true rfl))) (Nat.le_of_ble_eq_true rfl))) (fun v B3 H3 s3 S r E => ?_) sc_L_thicker.nd
    have se : ∀ g ∈ ([⟨.add, lane, num⟩, ⟨.add, lane, 0 - num⟩] : List Gate), Sg n g := fun g hg => by
      simp only [List.mem_cons, List.not_mem_nil, or_false] at hg
      rcases hg with rfl | rfl
      · exact ⟨⟨hl, fun z => absurd rfl z⟩, by show -12 ≤ num; omega, by show num ≤ 12; omega⟩
      · exact ⟨⟨hl, fun z => absurd rfl z⟩, by show -12 ≤ 0 - num; omega, by show 0 - num ≤ 12; omega⟩
    have fin : ∀ {σ : L2.St} {B4 H4 : Hp} {es : List Gate} {Γ : List (Option Rt)}, Stp (some p) B H B4 H4 → Sl σ B4 Γ → Γ[1]? = some (some (K3.IsD (.list (gs.map encG)))) → Γ[3]? = some (some (K3.IsD (.int (i : Nat)))) → Γ[6]? = some (some (K3.IsD (.list (es.map encG)))) → (∀ g ∈ es, Sg n g) → es.length ≤ 2 → wSs (XO P w K mg base N_L_thicker d_L_thicker.qual s_L_thicker fa cdv A outer s H E0) (defBody s_L_thicker |>.drop 4) { nx := fun _ H' => Q .non H', rt := Q } σ H4 := by
      intro σ B4 H4 es Γ S E g1 g3 g6 hes hel
      have e3 : (gs.take i ++ es ++ gs.drop i).length ≤ k + 2 := by simp; omega
      have l1 : (gs.map encG).length ≤ 100 := by rw [List.length_map]; omega
      refine ws_ret S (Ev.cast (EvM.ev (em_cat ?_ (EvM.ev (em_cat ?_ (EvM.ev (em_slL (ev_v E 1 (h := g1)) eo_none (eo_some (ev_v E 3 (h := g3))))) (ev_v E 6 (h := g6)))) (EvM.ev (em_slL (ev_v E 1 (h := g1)) (eo_some (ev_v E 3 (h := g3))) eo_none)))) ?_) fun v B' H' s' r => q v B' H' s' ⟨_, ⟨_, sgs_mid hg hes e3, rfl⟩, r⟩
      · rw [cut_to, cut_from]; simp; omega
      · rw [cut_to]; simp; omega
      · rw [cut_to, cut_from, List.map_append, List.map_append, List.map_take, List.map_drop]
    by_cases hi : 0 < i
    · have hgi : i - 1 < gs.length := by omega
      have ix : ∀ {x : PyData}, encG gs[i - 1] = x → atI (gs.map encG) (((i : Nat) : Int) - 1) = some x := fun e => by
        subst e
        exact atI_map encG (atI_ok (by omega) (by rw [show (((i : Nat) : Int) - 1).toNat = i - 1 from by omega]; exact List.getElem?_eq_getElem hgi))
      refine ws_ifN S (et_andF (kb := true) (EvT.cast (et_cmp cm_gt (ev_v E 3) ev_int) (by exact decide_eq_true (by omega))) (fun _ => et_cmp cm_neS (ev_ixT (ev_ixL (ev_v E 1) (ev_sub (ev_v E 3) ev_int) (ix rfl)) ev_int (atI_ok (by decide) rfl)) ev_str) fun _ _ => et_eqX (ev_callP (cl_L_draw T p 2 (by decide) (by decide)) hr (ea2 (ev_v E 0) ev_int)) ev_int) (fun B4 H4 s4 S => ?_) (fun B4 H4 s4 S => ws_nil (fin S (E.mono s4.b) rfl rfl rfl se (Nat.le_refl _)))
      have E := E.mono s4.b
      refine ws_set S E 6 (R := K3.IsD (.list (([gs[i - 1]] : List Gate).map encG))) (EvM.ev (em_lst _ (ea1 (ev_ixL (ev_v E 1) (ev_sub (ev_v E 3) ev_int) (ix rfl))) (Nat.le_of_ble_eq_true rfl))) (fun v B5 H5 s5 S r E => ws_nil (fin S E rfl rfl rfl (fun g h => ?_) (Nat.le_of_ble_eq_true rfl))) sc_L_thicker.nd
      rw [List.mem_singleton.mp h]
      exact hg.2 _ (List.getElem_mem _)
    · refine ws_no S (et_and3 (k' := true) (k2 := true) (EvT.cast (k' := false) (et_cmp cm_gt (ev_v E 3) ev_int) (by exact decide_eq_false (by omega))) (fun z => nomatch z) (fun z => nomatch z)) fun B4 H4 s4 S => ?_
      exact fin S (E.mono s4.b) rfl rfl rfl se (Nat.le_refl _)
end
end K3
/-! TEXT K19f -/
set_option Elab.async false
set_option linter.all false
set_option maxRecDepth 100000
set_option maxHeartbeats 1000000
/-! own lists of things of which is known what they may be -/
namespace K3
open PySem PySem.Spec L2
section
variable {m : Option Addr} {X : Cx} {a b c o e : Expr} {σ : L2.St} {B H B0 H0 : Hp} {pos p1 apos cpos : Pos} {Γ : List (Option Rt)} {ds : List PyData} {D : Ends} {rest : List Stmt} {x : Str} {p : Addr} {P : PyData → Prop}
def SomeD (P : PyData → Prop) : Rt := fun v B => ∃ d, P d ∧ Dq B v d
instance : Mn (SomeD P) := ⟨fun _ _ _ e ⟨d, h, r⟩ => ⟨d, h, r.mono e⟩⟩
theorem ws_retFz (S : Stp m B0 H0 B H) (M : Mu m B H p ds) (h0 : H0 p = none) (ho : Ev m X o σ B H (IsV (.ref p))) (k : ∀ B' H', Stp m B0 H0 B' H' → Dq B' (.ref p) (.list ds) → D.rt (.ref p) H') : wSs X (.Return (some o) pos :: rest) D σ H :=
  ws_cons (ps_ret pe_w) (ho B H S.here _ fun v B2 H2 s r => by
    obtain rfl : v = .ref p := r
    have M2 := M.mono s
    obtain ⟨zs, h1, h2⟩ := M2.ex
    exact k (upd B2 p (.lst zs)) H2 ((S.trans s).frz h0 M2.b h1 M.ne) (.lst upd_same (h2.mono (same_upd M2.b))))
theorem ws_appX (S : Stp m B0 H0 B H) (M : Mu m B H p ds) (h0 : H0 p = none) (ho : Ev m X o σ B H (IsV (.ref p))) (ha : Ev m X e σ B H (SomeD P)) (hz : ds.length < 100000)
    (k : ∀ d B' H', P d → Same B B' → Stp m B0 H0 B' H' → Mu m B' H' p (ds ++ [d]) → wSs X rest D σ H')
    (hbase : attributeBase o "append" X.env (eval o X.env) = eval o X.env := by rfl)
    (hfew : ((backTo cpos (starEach [e] X.env)).all (fun x => !x.1) && (backToKw cpos (keywordEach [] X.env)).all (fun x => x.1.isSome) && decide (([e] : List Expr).length + ([] : List Keyword).length + (if ([] : List Keyword).isEmpty then 0 else 1) < 30)) = true := by rfl)
    (hline : (apos.endLine == cpos.line) = true := by rfl) (hs : starEach [e] X.env = (false, eval e X.env) :: starEach [] X.env := by rfl) (hsw : swapsWith (.Call (.Attribute o "append" apos) [e] [] cpos) none pos.line X.env = pure false := by rfl) :
    wSs X (.Expr (.Call (.Attribute o "append" apos) [e] [] cpos) pos :: rest) D σ H := by
  refine ws_cons (ps_expr (pe_bm PySem.F.plainAttrs_list PySem.F.slot_list_append PySem.F.type_list_append mt_append pe_w pa_w hbase hfew hline hs) hsw) ?_
  refine ho B H S.here _ fun v B1 H1 s1 r1 => ?_
  obtain rfl : v = .ref p := r1
  obtain ⟨zs, h1, _⟩ := (M.mono s1).ex
  refine ⟨.inl ⟨rfl, zs, SqL.of h1⟩, (ea1 ha hs) B1 H1 s1 _ fun vs B2 H2 s2 r => ?_⟩
  obtain ⟨w, rfl, d, hd, r5⟩ := args1 r
  obtain ⟨ys, h2, h3⟩ := (M.mono (s1.trans s2)).ex
  have hl := h3.len
  refine ⟨p, ys, w, rfl, rfl, h2, Nat.lt_of_lt_of_le (by rw [hl]; exact hz) (by decide), ?_⟩
  have M2 := M.mono (s1.trans s2)
  exact k d B2 _ hd (s1.trans s2).b ((S.trans (s1.trans s2)).put M2 h0) (M2.put (h3.app (.one r5)))
/-- x = [a, b] -/
theorem ws_lst2X {P2 : PyData → Prop} (S : Stp m B0 H0 B H) (E : Sl σ B Γ) (i : Nat) (ha : Ev m X a σ B H (SomeD P)) (hb : Ev m X b σ B H (SomeD P2)) (k : ∀ q d d2 B' H', P d → P2 d2 → Stp m B H B' H' → Stp m B0 H0 B' H' → H0 q = none → Mu m B' H' q [d, d2] → Sl (σ.set i (some (.ref q))) B' (Γ.set i (some (IsV (.ref q)))) → wSs X rest D (σ.set i (some (.ref q))) H')
    (hN : X.N.Nodup) (hi : X.N[i]? = some x := by rfl) (hx : Loc X.env.scope x := by first | exact Or.inl rfl | exact Or.inr rfl) (hs : swapsWith (.List [a, b] cpos) (some (.Name x p1)) pos.line X.env = pure false := by rfl) (hf : X.fn x = true ∨ X.env.scope.names.lookup x = some .local := by first | exact .inl rfl | exact .inr rfl)
    (hst : starEach (a :: [b]) X.env = (false, eval a X.env) :: starEach [b] X.env := by rfl) (hst2 : starEach [b] X.env = (false, eval b X.env) :: starEach [] X.env := by rfl) :
    wSs X (.Assign [.Name x p1] (.List [a, b] cpos) pos :: rest) D σ H :=
  ws_cons (ps_set hN hi hx (pe_lst pa_w) hs hf) ((ea2 ha hb hst hst2) B H S.here _ fun vs B2 H2 s2 r => by
    obtain ⟨v, w, rfl, ⟨d, hd, r1⟩, ⟨d2, hd2, r2⟩⟩ := args2 r
    refine ⟨Nat.le_of_ble_eq_true rfl, fun q hq => ?_⟩
    have n1 : H q = none := s2.t q hq
    exact k q d d2 B2 _ hd hd2 (s2.mnew hq) (S.trans (s2.mnew hq)) (S.t q n1) ⟨S.p.ne n1, s2.s.free hq, _, upd_same, .cons r1 (.cons r2 .nil)⟩ ((E.mono s2.b).set rfl))
theorem ev_tup3XX {P1 P2 : Int → Prop} {d1 : PyData} {kk : Nat} (ha : Ev m X a σ B H (K3.IsD d1)) (hb : Ev m X b σ B H (IntP P1)) (hc : Ev m X c σ B H (IntP P2)) (hs : starEach (a :: [b, c]) X.env = (false, eval a X.env) :: starEach [b, c] X.env := by rfl) (hs2 : starEach (b :: [c]) X.env = (false, eval b X.env) :: starEach [c] X.env := by rfl)
    (hs3 : starEach [c] X.env = (false, eval c X.env) :: starEach [] X.env := by rfl) : Ev m X (.Tuple [a, b, c] kk pos) σ B H (SomeD fun d => ∃ i j, P1 i ∧ P2 j ∧ d = .tuple [d1, .int i, .int j]) :=
  ev_by (pe_tup pa_w) fun B1 H1 s1 Q q => (ea3 ha hb hc hs hs2 hs3) B1 H1 s1 _ fun vs B2 H2 s2 r => by
    match vs, r with
    | [v1, v2, v3], ⟨r1, ⟨i, hi, e1⟩, ⟨j, hj, e2⟩, _⟩ =>
      subst e1; subst e2
      refine ⟨by show 3 ≤ sizeLine; decide, fun p hp => q (.ref p) _ _ (s2.new hp) ⟨_, ⟨i, j, hi, hj, rfl⟩, .tup upd_same ?_⟩⟩
      have n := same_upd (o := .tup [v1, .int i, .int j]) (s2.s.free hp)
      exact .cons (Dq.mono r1 n) (.cons (.int _) (.cons (.int _) .nil))
theorem ev_lst1X (ha : Ev m X a σ B H (SomeD P)) (hs : starEach (a :: []) X.env = (false, eval a X.env) :: starEach [] X.env := by rfl) : Ev m X (.List [a] pos) σ B H (SomeD fun d => ∃ e, P e ∧ d = .list [e]) :=
  ev_by (pe_lst pa_w) fun B1 H1 s1 Q q => (ea1 ha hs) B1 H1 s1 _ fun vs B2 H2 s2 r => by
    obtain ⟨v, rfl, d, hd, r1⟩ := args1 r
    refine ⟨Nat.le_of_ble_eq_true rfl, fun p hp => q (.ref p) _ _ (s2.new hp) ⟨_, ⟨d, hd, rfl⟩, .lst upd_same (.cons (Dq.mono r1 (same_upd (s2.s.free hp))) .nil)⟩⟩
theorem ev_catX (hz : ds.length < 100000) (ha : Ev m X a σ B H (K3.IsD (.list ds))) (hb : Ev m X b σ B H (SomeD fun d => ∃ e, P e ∧ d = .list [e])) : Ev m X (.BinOp a .Add b pos) σ B H (SomeD fun d => ∃ e, P e ∧ d = .list (ds ++ [e])) :=
  ev_by (pe_op op_cat pe_w pe_w) fun B1 H1 s1 Q q => ha B1 H1 s1 _ fun x B2 H2 s2 rx => hb B2 H2 (s1.trans s2) _ fun y B3 H3 s3 ⟨d, ⟨e, he, ed⟩, ry⟩ => by
    subst ed
    obtain ⟨p, xs, rfl, h1, h2⟩ := Dq.lst_ex (Dq.mono rx s3.b)
    obtain ⟨p', ys, rfl, h3, h4⟩ := Dq.lst_ex ry
    have z : xs.length + ys.length ≤ sizeLine := by rw [h2.len, h4.len]; exact Nat.le_trans (show ds.length + 1 ≤ 100000 from hz) (by decide)
    refine ⟨p, p', xs, ys, rfl, rfl, s3.s _ _ h1, s3.s _ _ h3, z, fun r hr => q (.ref r) _ _ ((s2.trans s3).new hr) ⟨_, ⟨e, he, rfl⟩, .lst upd_same ((h2.app h4).mono (same_upd (s3.s.free hr)))⟩⟩
/-- o[i] = e, e a number -/
theorem ws_setixI {P : Int → Prop} {j : Nat} {z : Int} {i : Expr} (S : Stp m B0 H0 B H) (M : Mu m B H p ds) (h0 : H0 p = none) (ha : Ev m X e σ B H (IntP P)) (ho : Ev m X o σ B H (IsV (.ref p))) (hi : Ev m X i σ B H (K3.IsD (.int z))) (hj : ixN ds.length z = some j)
    (k : ∀ y B' H', P y → Same B B' → Stp m B0 H0 B' H' → Mu m B' H' p (ds.set j (.int y)) → wSs X rest D σ H')
    (hs : swapsWithSole [.Subscript o i p1] e pos.line X.env = pure false := by rfl) (hw : swappedStores [.Subscript o i p1] e X.env = pure none := by rfl) (h1 : (assignEach [.Subscript o i p1] X.env).map (·.2) = [assign (.Subscript o i p1) X.env] := by rfl)
    (has : ∀ v, assign (.Subscript o i p1) X.env v = (do
      let ov ← holding [v] (eval o X.env)
      let iv ← holding [v, ov] (eval i X.env)
      standAt p1
      holding [v, ov, iv] (setItem ov iv v)
      release [v, ov, iv] []) := by intro _; rfl) : wSs X (.Assign [.Subscript o i p1] e pos :: rest) D σ H := by
  refine ws_cons (ps_asg pe_w (pg_sub pe_w pe_w set_list has) hs hw h1) ?_
  refine ha B H S.here _ fun v B1 H1 s1 ⟨y, hy, r1⟩ => ?_
  subst r1
  refine ho B1 H1 s1 _ fun w B2 H2 s2 r2 => ?_
  obtain rfl : w = .ref p := r2
  refine hi B2 H2 (s1.trans s2) _ fun u B3 H3 s3 r3 => ?_
  have s := (s1.trans s2).trans s3
  have M2 := M.mono s
  obtain ⟨ys, h2, h3⟩ := M2.ex
  refine ⟨p, ys, z, j, rfl, Dq.int_eq r3, h2, by rw [h3.len]; exact hj, ?_⟩
  exact k y B3 _ hy s.b ((S.trans s).put M2 h0) (M2.put (h3.set (.int _) j))
end
end K3
/-! TEXT G9 -/
set_option Elab.async false
set_option linter.all false
set_option maxRecDepth 100000
set_option maxHeartbeats 1000000
namespace K3
open PySem PySem.Spec L2
section
variable {P : Program} {w : World} {K : PySem.W.Frag} {mg : Str → Option Value} {base : Heap}
def encGs (gs : List Gate) : PyData := .list (gs.map encG)
theorem g_can (g : Gate) : (encG g).canLay0 = true := by
  obtain ⟨k, a, b⟩ := g
  cases k <;> (simp [encG, PyData.canLay0, PyData.canLayAll0]; decide +kernel)
theorem g_dep (g : Gate) : (encG g).depth ≤ 1 := by simp [encG, PyData.depth, PyData.depthAll]
theorem gs_can (l : List Gate) : (encGs l).canLay0 = true := by rw [encGs, PyData.canLay0]; exact canAll l fun p _ => g_can p
theorem gs_dep (l : List Gate) : (encGs l).depth ≤ 2 := by rw [encGs, PyData.depth]; have := depAll l fun p _ => g_dep p; omega
theorem gs_shp (l : List Gate) : SeqAt.shaped (encGs l) = true := shp (gs_can l) (gs_dep l)
theorem gs_eqn (l : List Gate) : (!PyData.eqv (encGs l) (encGs [])) = decide (l ≠ []) := by
  cases l with
  | nil => rfl
  | cons a l => simp [encGs, PyData.eqv, PyData.eqvAll]
/-- a list of gates' data -/
def GsP (n k : Nat) (d : PyData) : Prop := ∃ gs, Sgs n k gs ∧ d = encGs gs
theorem Sgs.le {n k k' : Nat} {gs : List Gate} (h : Sgs n k gs) (hk : k ≤ k') : Sgs n k' gs := ⟨Nat.le_trans h.1 hk, h.2⟩
theorem gsp_of {n k k' : Nat} {v : V} {B : Hp} (h : GsD n k v B) (hk : k ≤ k') : SomeD (GsP n k') v B := by
  obtain ⟨d, ⟨gs, h, e⟩, r⟩ := h
  exact ⟨d, ⟨gs, h.le hk, e⟩, r⟩
/-- lists of gates -/
def GssP (n k : Nat) (d : PyData) : Prop := ∃ gss : List (List Gate), gss.length ≤ 4 ∧ (∀ gs ∈ gss, Sgs n k gs) ∧ d = .list (gss.map encGs)
theorem cl_L_others (T : Tx K mg) (p : Addr) (n : Nat) (gs : List Gate) (hn : 0 < n) (hn2 : n ≤ 12) (hg : Sgs n 9 gs) : Cl P w K mg base "_law_others" ["_law_pot_here", "_law_gates_here", "_law_lanes_here"] 5 (spD (some p) [IsV (.ref p), K3.IsD (encGs gs), K3.IsD (.int n)] (SomeD (GssP n 12))) :=
  cl_mk T 79 (d := d_L_others) rfl rfl rfl rfl (by decide +kernel) (fun _ _ _ _ _ _ us hl => match us, hl with | [_, _, _], _ => rfl) fun fa fdd FF => by
    refine fn_ok FF sc_L_others rfl fun cdv A outer s E0 B H vs Q hr S E q => ?_
    have hlen := hg.1
    refine ws_lst2X (P := GsP n 12) (P2 := GsP n 12) S E 3 ((ev_callP (cl_L_thicker T p n 9 gs hn hn2 (by decide) hg) hr (ea3 (ev_v E 0) (ev_v E 1) (ev_v E 2))).imp fun v B1 _ r => gsp_of r (by decide))
      ((ev_callP (cl_L_gates T p n 6 false hn hn2 (by decide)) hr (ea_cons (ev_v E 0) (ea3 (ev_v E 2) ev_int ev_bl))).imp fun v B1 _ r => gsp_of r (by decide)) (fun q1 d1 d2 B1 H1 hd1 hd2 s1 S n2 M E => ?_) sc_L_others.nd
    obtain ⟨g1, hg1, rfl⟩ := hd1
    obtain ⟨g2, hg2, rfl⟩ := hd2
    refine ws_if S (kb := decide (gs ≠ [])) (EvT.cast (et_cmp (cm_neA hr daD daD (gs_shp gs) (gs_shp [])) (ev_v E 1) (EvM.ev (em_lst [] ea_nil))) (gs_eqn gs)) (fun h B2 H2 s2 S => ?_) (fun h B2 H2 s2 S => ws_nil ?_)
    · have hne := of_decide_eq_true h
      have E := E.mono s2.b
      have M := M.mono s2
      have hpos : 0 < gs.length := List.length_pos_iff.mpr hne
      refine ws_setI S E 4 (ev_callP (cl_L_draw T p gs.length hpos (by omega)) hr (ea2 (ev_v E 0) (Ev.cast (ev_lenL (T_free T) (ev_v E 1)) (by rw [List.length_map])))) (fun at' B3 H3 h3 s3 S E => ?_) sc_L_others.nd
      obtain ⟨i, rfl⟩ : ∃ i : Nat, at' = i := ⟨at'.toNat, by omega⟩
      have M := M.mono s3
      have e1 : ((i : Nat) : Int) + 1 = ((i + 1 : Nat) : Int) := by omega
      refine ws_app S M n2 (ev_v E 3) (d := encGs (gs.take i ++ [] ++ gs.drop (i + 1))) (Ev.cast (EvM.ev (em_cat ?_ (EvM.ev (em_slL (ev_v E 1) eo_none (eo_some (ev_v E 4)))) (EvM.ev (em_slL (ev_v E 1) (eo_some (Ev.cast (ev_add (ev_v E 4) ev_int) (by rw [e1]))) eo_none)))) ?_) (Nat.le_of_ble_eq_true rfl) (fun B4 H4 sb4 S M _ => ?_)
      · rw [cut_to, cut_from]; simp; omega
      · rw [cut_to, cut_from, encGs, List.append_nil, List.map_append, List.map_take, List.map_drop]
      have E := E.mono sb4
      refine ws_appX (P := GsP n 12) S M n2 (ev_v E 3) ?_ (Nat.le_of_ble_eq_true rfl) (fun d B5 H5 hd sb5 S M => ws_nil ?_)
      · refine (ev_catX (ds := gs.map encG) (P := fun d => ∃ g, Sg n g ∧ d = encG g) (by rw [List.length_map]; omega) (ev_v E 1) (ev_lst1X ((ev_tup3XX (P1 := fun i => 0 ≤ i ∧ i < n) (P2 := fun j => -12 ≤ j ∧ j ≤ 12) ev_str (ev_callP (cl_L_draw T p n hn (by omega)) hr (ea2 (ev_v E 0) (ev_v E 2))) ((ev_callP (cl_L_pick T p [.int 1, .int (-1)] (by decide) (by decide)) hr (ea2 (ev_v E 0) (EvM.ev (em_lst [.int 1, .int (-1)] (ea2 ev_int (ev_neg ev_int)) (Nat.le_of_ble_eq_true rfl))))).imp fun v B1 _ ⟨d, hd, r⟩ => ?_)).imp fun v B1 _ ⟨d, ⟨a, b, ha, hb, e⟩, r⟩ => ⟨d, ⟨⟨.add, a, b⟩, ⟨⟨ha, fun z => absurd rfl z⟩, hb⟩, e⟩, r⟩))).imp fun v B1 _ ⟨d, ⟨e, ⟨g, hg', eg⟩, ed⟩, r⟩ => ⟨d, ⟨gs ++ [g], ⟨by rw [List.length_append]; show gs.length + 1 ≤ 12; omega, fun x hx => ?_⟩, by rw [ed, eg, encGs, List.map_append]; rfl⟩, r⟩
        · simp only [List.mem_cons, List.not_mem_nil, or_false] at hd
          rcases hd with rfl | rfl
          · exact ⟨1, by decide, Dq.int_eq r⟩
          · exact ⟨-1, by decide, Dq.int_eq r⟩
        · rcases List.mem_append.mp hx with hx | hx
          · exact hg.2 x hx
          · rw [List.mem_singleton.mp hx]; exact hg'
      · obtain ⟨g4, hg4, rfl⟩ := hd
        have E := E.mono sb5
        refine ws_retFz S M n2 (ev_v E 3) fun B' H' s' r => q _ B' H' s' ⟨_, ⟨[g1, g2, gs.take i ++ [] ++ gs.drop (i + 1), g4], Nat.le_refl _, fun x hx => ?_, rfl⟩, r⟩
        simp only [List.mem_cons, List.not_mem_nil, or_false] at hx
        rcases hx with rfl | rfl | rfl | rfl
        · exact hg1
        · exact hg2
        · exact sgs_mid hg (fun g h => nomatch h) (by simp; omega)
        · exact hg4
    · have E := E.mono s2.b
      have M := M.mono s2
      refine ws_retFz S M n2 (ev_v E 3) fun B' H' s' r => q _ B' H' s' ⟨_, ⟨[g1, g2], Nat.le_of_ble_eq_true rfl, fun x hx => ?_, rfl⟩, r⟩
      simp only [List.mem_cons, List.not_mem_nil, or_false] at hx
      rcases hx with rfl | rfl
      · exact hg1
      · exact hg2
end
end K3
/-! TEXT G10 -/
set_option Elab.async false
set_option linter.all false
set_option maxRecDepth 100000
set_option maxHeartbeats 1000000
namespace K3
open PySem PySem.Spec L2
section
variable {P : Program} {w : World} {K : PySem.W.Frag} {mg : Str → Option Value} {base : Heap}
/-- a new list that one draws from -/
def WPot : WK := fun v H B' H' => ∃ p, v = .ref p ∧ H p = none ∧ Pot H' p ∧ B' p = none
theorem cl_L_pot (T : Tx K mg) (xs : List Int) (k : Nat) (hk : k < 10) (hl : xs.length ≤ 1000) : Cl P w K mg base "_law_pot" ["_law_script", "_law_k"] 1 (spW [K3.IsD (encI xs), K3.IsD (.int k)] WPot) :=
  cl_mk T 59 (d := d_L_pot) rfl rfl rfl rfl (by decide +kernel) (fun _ _ _ _ _ _ us hl => match us, hl with | [_, _], _ => rfl) fun fa fdd FF => by
    refine fn_okW FF sc_L_pot rfl fun cdv A outer s E0 B H vs Q hr S E q => ?_
    have fin : ∀ {c : Int} {σ : L2.St} {B4 H4 : Hp} {Γ : List (Option Rt)}, Stp none B H B4 H4 → Sl σ B4 Γ → Γ[1]? = some (some (K3.IsD (.int (k : Nat)))) → Γ[2]? = some (some (K3.IsD (.int c))) → wSs (XO P w K mg base N_L_pot d_L_pot.qual s_L_pot fa cdv A outer s H E0) (defBody s_L_pot |>.drop 2) { nx := fun _ H' => Q .non H', rt := Q } σ H4 := by
      intro c σ B4 H4 Γ S E g1 g2
      have m1 : (0 : Int) ≤ c % 2147483563 := Int.emod_nonneg _ (by decide)
      have m2 : c % 2147483563 < 2147483563 := Int.emod_lt_of_pos _ (by decide)
      refine ws_retM S (em_lst [.int (max 0 (c - 10 ^ (18 : Int).toNat)), .int ((c % 2147483563 * (2 * (k : Int) + 3) + 751) % 2147483543 + 1)] (ea2 (ev_max2 (T_free T) rfl ev_int (ev_sub (ev_v E 2 (h := g2)) (ev_pow ⟨by decide, by decide, by decide⟩ ev_int ev_int))) (ev_add (ev_mod (by decide) (ev_int1 (T_free T) (ev_add (ev_mul (.inl ⟨by omega, by omega⟩) (ev_mod (by decide) (ev_int1 (T_free T) (ev_v E 2 (h := g2))) ev_int) (ev_add (ev_mul (.inl ⟨by decide, by decide⟩) ev_int (ev_v E 1 (h := g1))) ev_int)) ev_int)) ev_int) ev_int)) (Nat.le_of_ble_eq_true rfl)) fun p zs B' H' s' n1 n2 hz hd => q _ B' H' s' ⟨p, rfl, n1, ?_, n2⟩
      cases hd with
      | cons r1 hd => cases hd with
        | cons r2 hd =>
          cases hd
          rw [Dq.int_eq r1, Dq.int_eq r2] at hz
          refine ⟨_, _, hz, ?_, ?_, ?_⟩
          · exact Int.le_max_left _ _
          · have := Int.emod_nonneg (c % 2147483563 * (2 * (k : Int) + 3) + 751) (show (2147483543 : Int) ≠ 0 by decide); omega
          · have := Int.emod_lt_of_pos (c % 2147483563 * (2 * (k : Int) + 3) + 751) (show (0 : Int) < 2147483543 by decide); omega
    refine ws_set S E 2 (R := K3.IsD (.int (47 * (k : Int) + 29 + (xs.take 1).sum % 1000003))) (ev_add (ev_add (ev_mul (.inl ⟨by decide, by decide⟩) ev_int (ev_v E 1)) ev_int) (ev_mod (by decide) (ev_int1 (T_free T) (ev_sum (ns := xs.take 1) (T_free T) rfl (Ev.cast (EvM.ev (em_slL (ev_v E 0) eo_none (eo_some ev_int))) (by rw [show (1 : Int) = ((1 : Nat) : Int) from rfl, cut_to, List.map_take])))) ev_int)) (fun v B1 H1 s1 S r E => ?_) sc_L_pot.nd
    refine ws_if S (et_cmp cm_lt (ev_v E 1) (ev_lenL (T_free T) (ev_v E 0))) (fun h B2 H2 s2 S => ?_) (fun h B2 H2 s2 S => ws_nil (fin S (E.mono s2.b) rfl rfl))
    have E := E.mono s2.b
    have h := of_decide_eq_true h
    rw [List.length_map] at h
    have hkx : k < xs.length := by omega
    refine ws_set S E 2 (R := K3.IsD (.int (if xs[k] < 0 then -xs[k] else xs[k]))) (ev_abs (T_free T) (ev_ixL (ev_v E 0) (ev_v E 1) (atI_map PyData.int (atI_ok (Int.natCast_nonneg k) (by rw [Int.toNat_natCast]; exact List.getElem?_eq_getElem hkx))))) (fun v B1 H1 s1 S r E => ws_nil (fin S E rfl rfl)) sc_L_pot.nd
end
end K3
/-! TEXT M7 -/
set_option Elab.async false
set_option linter.all false
/-! what nets do, seen from what is told -/
namespace K3
theorem le_same {f : Fam} {x y : List Int} {t : Int} (h : ∀ i ∈ lanesIn f, xv x i = xv y i) : Le f x t ↔ Le f y t := by
  unfold Le
  constructor
  · rintro ⟨l, hl, h2⟩
    exact ⟨l, hl, fun p hp => by rw [← h p.1 (mem_lanesIn.mpr ⟨l, hl, p, hp, rfl⟩)]; exact h2 p hp⟩
  · rintro ⟨l, hl, h2⟩
    exact ⟨l, hl, fun p hp => by rw [h p.1 (mem_lanesIn.mpr ⟨l, hl, p, hp, rfl⟩)]; exact h2 p hp⟩
theorem run_same {n : Nat} {gs : List Gate} {x y : List Int} {i : Int} (hg : ∀ g ∈ gs, Vg n g) (hx : x.length = n) (hy : y.length = n) (h0 : 0 ≤ i) (h1 : i < n) (h : ∀ k ∈ lanesIn (at_ (told n gs) i), xv x k = xv y k) : xv (runG gs x) i = xv (runG gs y) i := by
  have a := sem_run (x := x) hg hx i h0 h1
  have b := sem_run (x := y) hg hy i h0 h1
  have q : ∀ v, xv (runG gs x) i ≤ v ↔ xv (runG gs y) i ≤ v := fun v => (a v).trans ((le_same h).trans (b v).symm)
  exact Int.le_antisymm ((q _).mpr (Int.le_refl _)) ((q _).mp (Int.le_refl _))
end K3
/-! TEXT G11 -/
set_option Elab.async false
set_option linter.all false
set_option maxRecDepth 100000
set_option maxHeartbeats 1000000
namespace K3
open PySem PySem.Spec L2
section
variable {P : Program} {w : World} {K : PySem.W.Frag} {mg : Str → Option Value} {base : Heap}
theorem cl_L_still_right (T : Tx K mg) (p : Addr) (n : Nat) (gs : List Gate) (xs : List Int) (G : Gd n gs) (F : FewAll 60 n gs) (hx : xs.length = n) : Cl P w K mg base "_law_still_right" ["_law_pot_here", "_law_net_now", "_law_rows", "_law_spot"] 9 (spD (some p) [IsV (.ref p), K3.IsD (netD K n gs), K3.IsD (encT (told n gs)), K3.IsD (encI xs)] (K3.IsD (.bool true))) :=
  cl_mk T 75 (d := d_L_still_right) rfl rfl rfl rfl (by decide +kernel) (fun _ _ _ _ _ _ us hl => match us, hl with | [_, _, _, _], _ => rfl) fun fa fdd FF => by
    refine fn_ok FF sc_L_still_right rfl fun cdv A outer s E0 B H vs Q hr S E q => ?_
    have hn2 := G.n2
    have wt : Wt n (told n gs) := told_wt G.vg
    have tl : (told n gs).length = n := wt.len
    have er : rngD ((((told n gs).map encF).length : Int).toNat) = (List.range n).map fun (i : Nat) => PyData.int (i : Int) := by unfold rngD; rw [Int.toNat_natCast, List.length_map, tl]
    refine ws_for (xs := List.range n) (enc := fun (j : Nat) => PyData.int (j : Int)) (u := fun j Γ => Γ.set 4 (some (K3.IsD (.int (j : Nat))))) S (by rw [← er]; exact wk_range (T_free T) (ev_lenL (T_free T) (ev_v E 2)) (by omega) (by rw [List.length_map, tl]; omega)) (pg_name (i := 4) sc_L_still_right.nd rfl (by first | exact Or.inl rfl | exact Or.inr rfl)) (fun x _ => tg1) rfl PassesOwn.never
      (fun j => [some (IsV (.ref p)), some (K3.IsD (netD K n gs)), some (K3.IsD (encT (told n gs))), some (K3.IsD (encI xs)), none, none, none, none]) (fun j _ _ => True) (fun _ _ _ _ _ _ h => h) (fun B1 H1 s1 S => ⟨(E.mono s1.b).to, trivial⟩) (fun j i σ1 B1 H1 hx1 S sb1 E _ => ?_) (fun σ1 B2 H2 S2 sb E2 hu => ws_ret S2 ev_bl q)
    obtain ⟨hij, hin⟩ := range_at hx1
    subst hij
    refine ws_parM S E 5 6 (EvM.ev (em_call (cl_lanes_hung T n gs i G F (by omega) (by omega)).1 hr (ea2 (ev_v E 1) (ev_v E 4)))) (em_listL (T_free T) (ev_v E 3)) (fun v q1 B2 H2 s2 S r n1 n2 M E => ?_) sc_L_still_right.nd
    refine ws_for (xs := List.range n) (enc := fun (j : Nat) => PyData.int (j : Int)) (u := fun j Γ => Γ.set 7 (some (K3.IsD (.int (j : Nat))))) S (by rw [← er]; exact wk_range (T_free T) (ev_lenL (T_free T) (ev_v E 2)) (by omega) (by rw [List.length_map, tl]; omega)) (pg_name (i := 7) sc_L_still_right.nd rfl (by first | exact Or.inl rfl | exact Or.inr rfl)) (fun x _ => tg1) rfl PassesOwn.never
      (fun j => [some (IsV (.ref p)), some (K3.IsD (netD K n gs)), some (K3.IsD (encT (told n gs))), some (K3.IsD (encI xs)), some (K3.IsD (.int (i : Nat))), some (K3.IsD (encI (lanesIn (at_ (told n gs) i)))), some (IsV (.ref q1)), none]) (fun j B H => ∃ ys : List Int, ys.length = n ∧ (∀ k ∈ lanesIn (at_ (told n gs) i), 0 ≤ k → xv xs k = xv ys k) ∧ Mu (some p) B H q1 (ys.map .int))
      (fun _ _ _ _ _ s ⟨ys, h1, h2, M⟩ => ⟨ys, h1, h2, M.mono s⟩) (fun B1 H1 s1 S => ⟨(E.mono s1.b).to, xs, hx, fun _ _ _ => rfl, M.mono s1⟩) (fun j o σ1 B3 H3 hx3 S sb3 E ⟨ys, h1, h2, M⟩ => ?_) (fun σ1 B3 H3 S sb E ⟨ys, h1, h2, M⟩ => ?_)
    · obtain ⟨hoj, hon⟩ := range_at hx3
      subst hoj
      refine ws_if S (et_cmp (cm_notInI lsL) (ev_v E 7) (ev_v E 5)) (fun h B4 H4 s4 S => ?_) (fun h B4 H4 s4 S => ws_nil (ws_nil ⟨B4, s4.b, S, (E.mono s4.b).to, ys, h1, h2, M.mono s4⟩))
      have E := E.mono s4.b
      have M := M.mono s4
      have h : ((o : Nat) : Int) ∉ lanesIn (at_ (told n gs) i) := by simpa using h
      refine ws_setixI (P := fun _ => True) S M n2 (xp_subR (xp_addL (P' := fun _ => True) (ev_ixL (ev_v E 3) (ev_v E 7) (atI_int (Int.natCast_nonneg o) (by omega))) (ev_callP (cl_L_draw T p 99 (by decide) (by decide)) hr (ea2 (ev_v E 0) ev_int)) fun _ _ => trivial) ev_int fun _ _ => trivial) (ev_v E 6) (ev_v E 7) (ixN_nat (by rw [List.length_map]; omega)) (fun y B5 H5 _ sb5 S M => ws_nil (ws_nil ⟨B5, s4.b.trans sb5, S, (E.mono sb5).to, ys.set o y, by rw [List.length_set]; exact h1, fun k hk h0 => ?_, ?_⟩))
      · have e := xv_set (x := ys) (i := (o : Nat)) (j := k) (v := y) (by omega) (by omega) h0
        rw [Int.toNat_natCast] at e
        rw [e, if_neg fun z => h (by rw [z]; exact hk)]
        exact h2 k hk h0
      · rw [List.map_set]; exact M
    · obtain ⟨B4, sb4, S, r4⟩ := M.frz S n2
      have E := (E.mono sb4).re 6 rfl (R := K3.IsD (encI ys)) r4
      have h3 : ∀ k ∈ lanesIn (at_ (told n gs) i), xv xs k = xv ys k := fun k hk => by
        obtain ⟨l, hl, pr, hp, e⟩ := mem_lanesIn.mp hk
        have wf := wt.at_ (i := (i : Nat)) (by omega) (by omega)
        exact h2 k hk (by rw [← e]; exact ((wf.vl l hl).rg pr hp).1)
      have hrun := run_same (i := (i : Nat)) G.vg hx h1 (by omega) (by omega) h3
      obtain ⟨fdc, hb, FC⟩ := cm_call (P := P) (w := w) (base := base) T n gs ys G.n1 G.n2 G.vg h1
      obtain ⟨fdc2, hb2, FC2⟩ := cm_call (P := P) (w := w) (base := base) T n gs xs G.n1 G.n2 G.vg hx
      refine ws_no S (EvT.cast (et_cmp cm_neI (ev_ixL (EvM.ev (ev_callO (call_N T) hb FC hr (ev_v E 1) (ea1 (ev_v E 6)))) (ev_v E 4) (atI_int (by omega) (by rw [run_len, Int.toNat_natCast]; omega))) (ev_ixL (EvM.ev (ev_callO (call_N T) hb2 FC2 hr (ev_v E 1) (ea1 (ev_v E 3)))) (ev_v E 4) (atI_int (by omega) (by rw [run_len, Int.toNat_natCast]; omega)))) ?_) fun B5 H5 s5 S => ?_
      · have e : (runG gs ys).getD (((i : Nat) : Int)).toNat 0 = (runG gs xs).getD (((i : Nat) : Int)).toNat 0 := hrun.symm
        rw [e]; simp
      · exact ws_nil ⟨B5, s2.b.trans ((sb.trans sb4).trans s5.b), S, (E.mono s5.b).to, trivial⟩
end
end K3
/-! TEXT K20f -/
set_option Elab.async false
set_option linter.all false
set_option maxRecDepth 100000
set_option maxHeartbeats 1000000
/-! calls by keywords; answers with own lists inside; lists of draws -/
namespace K3
open PySem PySem.Spec L2
section
variable {m : Option Addr} {X : Cx} {e a b c o i : Expr} {es : List Expr} {σ : L2.St} {B H B' H' B0 H0 : Hp} {R R1 R2 R3 : Rt} {Rs : List Rt} {pos p1 p2 p3 apos cpos : Pos} {Γ : List (Option Rt)} {d d1 d2 : PyData} {ds : List PyData} {x y f mt : Str} {k n : Nat} {rest : List Stmt} {D : Ends} {p q C : Addr} {ps : List Str} {W : WK}
theorem ev_callK2 {n1 n2 : Str} {k1 k2 : Pos} (G : ClK X.prog X.w X.K X.mg X.base x ps [n1, n2] rev2 k (spD none [R2, R1] R)) (hr : Room n X.A) [mr : Mn R1] (ha : Ev m X a σ B H R1) (hb : Ev m X b σ B H R2) (hk : k ≤ n := by decide)
    (hg : Gl X x := by rfl) (hall : (backToKw pos (keywordEach [⟨some n1, a, k1⟩, ⟨some n2, b, k2⟩] X.env)).all (·.1.isSome) = true := by rfl) (hks : (backToKw pos (keywordEach [⟨some n1, a, k1⟩, ⟨some n2, b, k2⟩] X.env)).filterMap (·.1) = [n1, n2] := by rfl)
    (hdb : (x == ("__debug__" : Str)) = false := by decide) (hplain : ((backTo pos (starEach [] X.env)).any (·.1) || (backToKw pos (keywordEach [⟨some n1, a, k1⟩, ⟨some n2, b, k2⟩] X.env)).any (·.1.isNone)) = false := by rfl) : Ev m X (.Call (.Name x p1) [] [⟨some n1, a, k1⟩, ⟨some n2, b, k2⟩] pos) σ B H R := fun B1 H1 s1 Q q =>
  wcallK2 G hr (ha.mono s1) (hb.mono s1) (fun v w B2 H2 s2 r1 r2 => ⟨B2, s2.s, pot0, ⟨r2, r1, trivial⟩, fun u B3 H3 s3 r3 => q u B3 H3 (s2.trans (s3.up s2.p)) r3⟩) s1.here hk hg hall hks hdb hplain
theorem em_callK2 {n1 n2 : Str} {k1 k2 : Pos} (G : ClK X.prog X.w X.K X.mg X.base x ps [n1, n2] rev2 k (spM [R2, R1] ds)) (hr : Room n X.A) [mr : Mn R1] (ha : Ev m X a σ B H R1) (hb : Ev m X b σ B H R2) (hk : k ≤ n := by decide)
    (hg : Gl X x := by rfl) (hall : (backToKw pos (keywordEach [⟨some n1, a, k1⟩, ⟨some n2, b, k2⟩] X.env)).all (·.1.isSome) = true := by rfl) (hks : (backToKw pos (keywordEach [⟨some n1, a, k1⟩, ⟨some n2, b, k2⟩] X.env)).filterMap (·.1) = [n1, n2] := by rfl)
    (hdb : (x == ("__debug__" : Str)) = false := by decide) (hplain : ((backTo pos (starEach [] X.env)).any (·.1) || (backToKw pos (keywordEach [⟨some n1, a, k1⟩, ⟨some n2, b, k2⟩] X.env)).any (·.1.isNone)) = false := by rfl) : EvM m X (.Call (.Name x p1) [] [⟨some n1, a, k1⟩, ⟨some n2, b, k2⟩] pos) σ B H ds := fun B1 H1 s1 Q q =>
  wcallK2 G hr (ha.mono s1) (hb.mono s1) (fun v w B2 H2 s2 r1 r2 => ⟨B2, s2.s, ⟨r2, r1, trivial⟩, fun p zs B3 H3 s3 e1 e2 hz hd => q p zs B3 H3 (s2.trans (s3.up s2.p)) (s2.t p e1) e2 hz hd⟩) s1.here hk hg hall hks hdb hplain
theorem em_callK3 {n1 n2 n3 : Str} {k1 k2 k3 : Pos} (G : ClK X.prog X.w X.K X.mg X.base x ps [n1, n2, n3] rev3 k (spM [R3, R2, R1] ds)) (hr : Room n X.A) [mr : Mn R1] [mr2 : Mn R2] (ha : Ev m X a σ B H R1) (hb : Ev m X b σ B H R2) (hc : Ev m X c σ B H R3) (hk : k ≤ n := by decide)
    (hg : Gl X x := by rfl) (hall : (backToKw pos (keywordEach [⟨some n1, a, k1⟩, ⟨some n2, b, k2⟩, ⟨some n3, c, k3⟩] X.env)).all (·.1.isSome) = true := by rfl) (hks : (backToKw pos (keywordEach [⟨some n1, a, k1⟩, ⟨some n2, b, k2⟩, ⟨some n3, c, k3⟩] X.env)).filterMap (·.1) = [n1, n2, n3] := by rfl)
    (hdb : (x == ("__debug__" : Str)) = false := by decide) (hplain : ((backTo pos (starEach [] X.env)).any (·.1) || (backToKw pos (keywordEach [⟨some n1, a, k1⟩, ⟨some n2, b, k2⟩, ⟨some n3, c, k3⟩] X.env)).any (·.1.isNone)) = false := by rfl) : EvM m X (.Call (.Name x p1) [] [⟨some n1, a, k1⟩, ⟨some n2, b, k2⟩, ⟨some n3, c, k3⟩] pos) σ B H ds := fun B1 H1 s1 Q q =>
  wcallK3 G hr (ha.mono s1) (hb.mono s1) (hc.mono s1) (fun v w u B2 H2 s2 r1 r2 r3 => ⟨B2, s2.s, ⟨r3, r2, r1, trivial⟩, fun p zs B3 H3 s3 e1 e2 hz hd => q p zs B3 H3 (s2.trans (s3.up s2.p)) (s2.t p e1) e2 hz hd⟩) s1.here hk hg hall hks hdb hplain
/-! ### answers with own lists inside, as expressions -/
def EvW (m : Option Addr) (X : Cx) (e : Expr) (σ : L2.St) (B H : Hp) (W : WK) : Prop := ∀ B1 H1, Stp m B H B1 H1 → ∀ Q : VK, (∀ v B2 H2 B3 H3, Stp m B1 H1 B2 H2 → Stp none B2 H2 B3 H3 → W v H2 B3 H3 → Q v H3) → wE X e σ H1 Q
theorem ew_call (G : Cl X.prog X.w X.K X.mg X.base x ps k (spW Rs W)) (hr : Room n X.A) (ha : EvA m X (e :: es) σ B H Rs) (hk : k ≤ n := by decide) (hg : Gl X x := by rfl) (hdb : (x == ("__debug__" : Str)) = false := by decide) (he : starEach (e :: es) X.env = (false, eval e X.env) :: starEach es X.env := by rfl)
    (hpl : (backTo pos (starEach es X.env)).any (·.1) = false := by rfl) : EvW m X (.Call (.Name x p1) (e :: es) [] pos) σ B H W := fun B1 H1 s1 Q q =>
  wcall G hr (ha.mono s1) (fun vs B2 H2 s2 r => ⟨B2, s2.s, r, fun v B3 H3 s3 w => q v B2 H2 B3 H3 s2 s3 w⟩) s1.here hk hg hdb he hpl
theorem ew_callK2 {n1 n2 : Str} {k1 k2 : Pos} (G : ClK X.prog X.w X.K X.mg X.base x ps [n1, n2] rev2 k (spW [R2, R1] W)) (hr : Room n X.A) [mr : Mn R1] (ha : Ev m X a σ B H R1) (hb : Ev m X b σ B H R2) (hk : k ≤ n := by decide)
    (hg : Gl X x := by rfl) (hall : (backToKw pos (keywordEach [⟨some n1, a, k1⟩, ⟨some n2, b, k2⟩] X.env)).all (·.1.isSome) = true := by rfl) (hks : (backToKw pos (keywordEach [⟨some n1, a, k1⟩, ⟨some n2, b, k2⟩] X.env)).filterMap (·.1) = [n1, n2] := by rfl)
    (hdb : (x == ("__debug__" : Str)) = false := by decide) (hplain : ((backTo pos (starEach [] X.env)).any (·.1) || (backToKw pos (keywordEach [⟨some n1, a, k1⟩, ⟨some n2, b, k2⟩] X.env)).any (·.1.isNone)) = false := by rfl) : EvW m X (.Call (.Name x p1) [] [⟨some n1, a, k1⟩, ⟨some n2, b, k2⟩] pos) σ B H W := fun B1 H1 s1 Q q =>
  wcallK2 G hr (ha.mono s1) (hb.mono s1) (fun v w B2 H2 s2 r1 r2 => ⟨B2, s2.s, ⟨r2, r1, trivial⟩, fun u B3 H3 s3 ww => q u B2 H2 B3 H3 s2 s3 ww⟩) s1.here hk hg hall hks hdb hplain
theorem ew_callK3 {n1 n2 n3 : Str} {k1 k2 k3 : Pos} (G : ClK X.prog X.w X.K X.mg X.base x ps [n1, n2, n3] rev3 k (spW [R3, R2, R1] W)) (hr : Room n X.A) [mr : Mn R1] [mr2 : Mn R2] (ha : Ev m X a σ B H R1) (hb : Ev m X b σ B H R2) (hc : Ev m X c σ B H R3) (hk : k ≤ n := by decide)
    (hg : Gl X x := by rfl) (hall : (backToKw pos (keywordEach [⟨some n1, a, k1⟩, ⟨some n2, b, k2⟩, ⟨some n3, c, k3⟩] X.env)).all (·.1.isSome) = true := by rfl) (hks : (backToKw pos (keywordEach [⟨some n1, a, k1⟩, ⟨some n2, b, k2⟩, ⟨some n3, c, k3⟩] X.env)).filterMap (·.1) = [n1, n2, n3] := by rfl)
    (hdb : (x == ("__debug__" : Str)) = false := by decide) (hplain : ((backTo pos (starEach [] X.env)).any (·.1) || (backToKw pos (keywordEach [⟨some n1, a, k1⟩, ⟨some n2, b, k2⟩, ⟨some n3, c, k3⟩] X.env)).any (·.1.isNone)) = false := by rfl) : EvW m X (.Call (.Name x p1) [] [⟨some n1, a, k1⟩, ⟨some n2, b, k2⟩, ⟨some n3, c, k3⟩] pos) σ B H W := fun B1 H1 s1 Q q =>
  wcallK3 G hr (ha.mono s1) (hb.mono s1) (hc.mono s1) (fun v w u B2 H2 s2 r1 r2 r3 => ⟨B2, s2.s, ⟨r3, r2, r1, trivial⟩, fun z B3 H3 s3 ww => q z B2 H2 B3 H3 s2 s3 ww⟩) s1.here hk hg hall hks hdb hplain
/-- the own lists are let go: what is then known as data -/
def Frz (W : WK) (R : Rt) : Prop := ∀ v B2 H2 B3 H3, Stp none B2 H2 B3 H3 → W v H2 B3 H3 → ∃ B4, Same B3 B4 ∧ Stp none B2 H2 B4 H3 ∧ R v B4
theorem EvW.ev (h : EvW m X e σ B H W) (hW : Frz W R) : Ev m X e σ B H R := fun B1 H1 s1 Q q => h B1 H1 s1 Q fun v B2 H2 B3 H3 s2 s3 w => by
  obtain ⟨B4, _, s4, r⟩ := hW v B2 H2 B3 H3 s3 w
  exact q v B4 H3 (s2.trans (s4.up s2.p)) r
theorem ws_setW (S : Stp m B0 H0 B H) (E : Sl σ B Γ) (a : EvW m X e σ B H W) (j : Nat) (k : ∀ v B1 H1 B' H', Stp m B H B1 H1 → Stp none B1 H1 B' H' → Stp m B H B' H' → Stp m B0 H0 B' H' → W v H1 B' H' → Sl σ B' Γ → wSs X rest D (σ.set j (some v)) H')
    (hN : X.N.Nodup) (hi : X.N[j]? = some x := by rfl) (hx : Loc X.env.scope x := by first | exact Or.inl rfl | exact Or.inr rfl) (hs : swapsWith e (some (.Name x p1)) pos.line X.env = pure false := by rfl) (hf : X.fn x = true ∨ X.env.scope.names.lookup x = some .local := by first | exact .inl rfl | exact .inr rfl) :
    wSs X (.Assign [.Name x p1] e pos :: rest) D σ H :=
  ws_cons (ps_set hN hi hx pe_w hs hf) (a B H S.here _ fun v B2 H2 B3 H3 s2 s3 w => k v B2 H2 B3 H3 s2 s3 (s2.trans (s3.up s2.p)) (S.trans (s2.trans (s3.up s2.p))) w (E.mono (s2.trans (s3.up s2.p)).b))
theorem Mu.up (M : Mu none B' H' p ds) (S : Stp m B H B H) (h : H p = none) : Mu m B' H' p ds := ⟨S.p.ne h, M.b, M.ex⟩
/-- an own list is let go, the others stay one's own -/
theorem Mu.frz2 (M : Mu m B H p ds) (S : Stp m B0 H0 B H) (h0 : H0 p = none) : ∃ B2, Same B B2 ∧ Stp m B0 H0 B2 H ∧ Dq B2 (.ref p) (.list ds) ∧ ∀ q es, q ≠ p → Mu m B H q es → Mu m B2 H q es := by
  obtain ⟨zs, h1, h2⟩ := M.ex
  have sb : Same B (upd B p (.lst zs)) := same_upd M.b
  exact ⟨_, sb, S.frz h0 M.b h1 M.ne, .lst upd_same (h2.mono sb), fun q es hq N => N.grow sb (by rw [upd_ne hq]; exact N.b)⟩
/-! ### tuples and lists told by their values -/
def RawT (vs : List V) : Rt := fun v B => ∃ t, v = .ref t ∧ B t = some (.tup vs)
def RawL (vs : List V) : Rt := fun v B => ∃ t, v = .ref t ∧ B t = some (.lst vs)
instance {vs : List V} : Mn (RawT vs) := ⟨fun v B B' e ⟨t, h, r⟩ => ⟨t, h, e _ _ r⟩⟩
instance {vs : List V} : Mn (RawL vs) := ⟨fun v B B' e ⟨t, h, r⟩ => ⟨t, h, e _ _ r⟩⟩
theorem ev_ixRT {vs : List V} {j : Int} {u : V} (ha : Ev m X a σ B H (RawT vs)) (hb : Ev m X b σ B H (K3.IsD (.int j))) (h : atI vs j = some u) (hs : PlainIx b := by intro _ _; rfl) : Ev m X (.Subscript a b pos) σ B H (IsV u) :=
  ev_by (pe_ix ix_tup pe_w pe_w hs) fun B1 H1 s1 Q q => ha B1 H1 s1 _ fun x B2 H2 s2 rx => hb B2 H2 (s1.trans s2) _ fun y B3 H3 s3 ry => by
    obtain ⟨t, rfl, ht⟩ := rx
    exact ⟨t, vs, j, u, rfl, Dq.int_eq ry, SqT.of (s3.s _ _ (s3.b _ _ ht)), h, q u B3 H3 (s2.trans s3) rfl⟩
theorem ev_listRT {vs : List V} (hm : X.mg "list" = none) (h : Ev m X e σ B H (RawT vs)) (hg : Gl X "list" := by rfl) (hs : starEach [e] X.env = (false, eval e X.env) :: starEach [] X.env := by rfl) : Ev m X (.Call (.Name "list" p1) [e] [] pos) σ B H (RawL vs) :=
  ev_ty call_list_of hm PyProof.Rows.boot_list (ea1 h hs) (fun us B1 H1 Q s1 r q => by
    obtain ⟨v, rfl, t, rfl, ht⟩ := args1 r
    exact ⟨t, vs, rfl, .inr (SqT.of (s1.s _ _ ht)), fun l hl => q (.ref l) (upd B1 l (.lst vs)) _ (s1.here.new hl) ⟨l, rfl, upd_same⟩⟩) hg (he := hs)
theorem ev_isRT {vs : List V} (hm : X.mg "isinstance" = none) (hm2 : X.mg "tuple" = none) (h : Ev m X e σ B H (RawT vs)) (hb : kitB "tuple" "tuple" = some true) (hg : Gl X "isinstance" := by rfl) (hg2 : Gl X "tuple" := by rfl)
    (hs : starEach (e :: [.Name "tuple" p2]) X.env = (false, eval e X.env) :: starEach [.Name "tuple" p2] X.env := by rfl) (hs2 : starEach [.Name "tuple" p2] X.env = (false, eval (.Name "tuple" p2) X.env) :: starEach [] X.env := by rfl) (hpl : (backTo pos (starEach [.Name "tuple" p2] X.env)).any (·.1) = false := by rfl) :
    Ev m X (.Call (.Name "isinstance" p1) [e, .Name "tuple" p2] [] pos) σ B H (K3.IsD (.bool true)) :=
  ev_blt call_isi hm PyProof.Rows.boot_isinstance (ea2 (R1 := IsV (.ty "tuple")) h (ev_c (t := tC .non) (pe_bltn (v := .ty "tuple") hg2 hm2 PyProof.Rows.boot_tuple rfl (by decide) (by decide)) fun _ => rfl) hs hs2) (fun us B1 H1 Q s1 r q => by
    obtain ⟨v, u, rfl, ⟨t, rfl, ht⟩, r2⟩ := args2 r
    obtain rfl : u = .ty "tuple" := r2
    exact ⟨_, _, _, _, _, rfl, .ty "tuple", .base (.tup (s1.s _ _ ht)), kit_ty hb, q _ B1 H1 s1.here (.bl _)⟩) hg (he := hs) (hpl := hpl)
/-- the two own lists of such a list, such a tuple, as data -/
theorem daL2 {q1 q2 : Addr} {d1 d2 : List PyData} (M1 : Mu m B H q1 d1) (M2 : Mu m B H q2 d2) : DqAt m B H (RawL [.ref q1, .ref q2]) (.list [.list d1, .list d2]) := fun v B1 H1 s r => by
  obtain ⟨t, rfl, ht⟩ := r
  exact .lst (s.s _ _ ht) (.cons (daM M1 _ B1 H1 s rfl) (.cons (daM M2 _ B1 H1 s rfl) .nil))
theorem daTi {j : Int} {q2 : Addr} {d2 : List PyData} (M2 : Mu m B H q2 d2) : DqAt m B H (RawT [.int j, .ref q2]) (.tuple [.int j, .list d2]) := fun v B1 H1 s r => by
  obtain ⟨t, rfl, ht⟩ := r
  exact .tup (s.s _ _ ht) (.cons (.int _) (.cons (daM M2 _ B1 H1 s rfl) .nil))
/-- o.clear() -/
theorem ws_clear (S : Stp m B0 H0 B H) (M : Mu m B H p ds) (h0 : H0 p = none) (ho : Ev m X o σ B H (IsV (.ref p)))
    (k : ∀ B' H', Same B B' → Stp m B0 H0 B' H' → Mu m B' H' p [] → (∀ q es, q ≠ p → Mu m B H q es → Mu m B' H' q es) → wSs X rest D σ H')
    (hbase : attributeBase o "clear" X.env (eval o X.env) = eval o X.env := by rfl) (hline : (apos.endLine == cpos.line) = true := by rfl) (hsw : swapsWith (.Call (.Attribute o "clear" apos) [] [] cpos) none pos.line X.env = pure false := by rfl) :
    wSs X (.Expr (.Call (.Attribute o "clear" apos) [] [] cpos) pos :: rest) D σ H := by
  refine ws_cons (ps_expr (pe_bm0 PySem.F.plainAttrs_list PySem.F.slot_list_clear PySem.F.type_list_clear mt_clear pe_w hbase hline) hsw) ?_
  refine ho B H S.here _ fun v B1 H1 s1 r1 => ?_
  obtain rfl : v = .ref p := r1
  have M1 := M.mono s1
  obtain ⟨zs, h1, _⟩ := M1.ex
  exact ⟨.inl ⟨rfl, zs, SqL.of h1⟩, p, zs, rfl, rfl, h1, k B1 _ s1.b ((S.trans s1).put M1 h0) (M1.put .nil) fun q es hq N => (N.mono s1).other (Ne.symm hq)⟩
end
/-! ### [draw for x in xs] -/
section
variable {m : Option Addr} {X : Cx} {tg iter elt e : Expr} {σ : L2.St} {B H B0 H0 : Hp} {pos p1 : Pos} {Γ : List (Option Rt)} {g : TG} {ixs : List Nat} {α : Type} {xs : List α} {enc : α → PyData} {u : α → List (Option Rt) → List (Option Rt)} {scope : Scope} {own : List (Str × Nat)}
theorem lc_runY {P : PyData → Prop} (S : Stp m B0 H0 B H) (E : Sl σ B Γ) (T : ∀ x, x ∈ xs → TgE X.K g (enc x) ixs (u x)) (hix : ∀ i ∈ ixs, i ∈ own.map (·.2)) (hz : xs.length ≤ 100000) {tt : TT} {te : TE} (ht : ∀ x σ1 B1 H1, x ∈ xs → Stp m B H B1 H1 → ∀ Q : Bool → Hp → Prop, (∀ B2 H2, Stp m B1 H1 B2 H2 → Q true H2) → tt σ1 H1 Q)
    (he : ∀ x σ1 B1 H1, x ∈ xs → Stp m B H B1 H1 → Sl σ1 B1 (u x (wipeG Γ (own.map (·.2)))) → ∀ Q : VK, (∀ v B2 H2, Stp m B1 H1 B2 H2 → SomeD P v B2 → Q v H2) → te σ1 H1 Q)
    {wi : TI} (hw : ∀ B1 H1, Stp m B H B1 H1 → ∀ R : It → Hp → Prop, (∀ J B2 H2, Stp m B1 H1 B2 H2 → JOkS m B H J B2 (xs.map enc) → R J H2) → wi σ H1 R) {Q : VK}
    (q : ∀ D zs B2 H2 ds, Stp m B H B2 H2 → H D = none → B2 D = none → H2 D = some (.lst zs) → ds.length = xs.length → (∀ d ∈ ds, P d) → DqAll B2 zs ds → Q (.ref D) H2) : tLc wi g tt te (own.map (·.2)) σ H Q := by
  refine hw B H S.here _ fun J B2 H2 s2 jo D hD => ?_
  obtain ⟨j1, j2, j3⟩ := jo
  have hlen : (xs.map enc).length = xs.length := List.length_map ..
  have hDn : H D = none := s2.t D hD
  let Pv : Nat → Hp → Prop := fun i H' => ∃ B' zs ds, Stp m B H B' H' ∧ Same B2 B' ∧ B' D = none ∧ H' D = some (.lst zs) ∧ DqAll B' zs ds ∧ ds.length = i ∧ ∀ d ∈ ds, P d
  refine ⟨fun i k H' => k = xs.length - i ∧ i ≤ xs.length ∧ Pv i H', ⟨xs.length, by simp, Nat.zero_le _, B2, [], [], s2.mnew hD, Same.refl _, s2.s.free hD, upd_same, .nil, rfl, fun _ h => (nomatch h)⟩, ?_⟩
  rintro i k H1 ⟨rfl, hi, B1, zs, ds, s1, sb, n1, hz1, hd1, hl1, hp1⟩
  by_cases hlt : i < xs.length
  · refine .inr ⟨j1 i B1 H1 s1 sb (by rw [hlen]; exact hlt), Pv (i + 1), fun H' p' => ⟨xs.length - (i + 1), by omega, rfl, hlt, p'⟩, fun x H' y => ?_⟩
    have hx : (xs.map enc)[i]? = some (enc xs[i]) := by rw [List.getElem?_map, List.getElem?_eq_getElem hlt] <;> rfl
    have hmem : xs[i] ∈ xs := List.getElem_mem hlt
    obtain ⟨B3, s3, r3⟩ := j3 i _ B1 H1 x H' hx s1 sb y
    have E3 : Sl (wipe σ (own.map (·.2))) B3 (wipeG Γ (own.map (·.2))) := (E.mono (s1.trans s3).b).wipe _
    refine T _ hmem x _ B3 H' _ _ E3 r3 s3.s fun σ' E' hw' => ⟨?_, ?_⟩
    · rw [hw' _ hix, wipe_wipe fun _ h => h]
    · refine ht xs[i] σ' B3 H' hmem (s1.trans s3) _ fun B4 H4 s4 => ?_
      have hD4 : H4 D = some (.lst zs) := s4.h _ _ (s2.p.ne hD) (s3.h _ _ (s2.p.ne hD) hz1)
      have n4 : B4 D = none := s4.f _ _ (s3.h _ _ (s2.p.ne hD) hz1) (s3.f _ _ hz1 n1)
      refine iteT (he xs[i] σ' B4 H4 hmem ((s1.trans s3).trans s4) (E'.mono s4.b) _ fun v B5 H5 s5 ⟨d, hd, r5⟩ => ?_)
      have hD5 : H5 D = some (.lst zs) := s5.h _ _ (s2.p.ne hD) hD4
      have n5 : B5 D = none := s5.f _ _ hD4 n4
      have hle : zs.length < sizeLine := by
        have e := hd1.len
        exact Nat.lt_of_le_of_lt (show zs.length ≤ 100000 by omega) (by decide)
      refine ⟨zs, hD5, hle, B5, zs ++ [v], ds ++ [d], (((s1.trans s3).trans s4).trans s5).mut hDn n5 (s2.p.ne hD), sb.trans ((s3.trans s4).trans s5).b, n5, upd_same, (hd1.mono ((s3.trans s4).trans s5).b).app (.one r5), by rw [List.length_append, hl1]; rfl, fun z hz => (List.mem_append.mp hz).elim (hp1 z) fun hz => by rw [List.mem_singleton.mp hz]; exact hd⟩
  · have e : i = xs.length := by omega
    subst e
    exact .inl ⟨j2 _ B1 H1 s1 sb (by rw [hlen]; exact Nat.le_refl _), q D zs B1 H1 ds s1 hDn n1 hz1 hl1 hp1 hd1⟩
variable {D : Ends} {rest : List Stmt} {x : Str} {spos : Pos}
theorem ws_lcY {P : PyData → Prop} (S : Stp m B0 H0 B H) (E : Sl σ B Γ) (i : Nat) (W : WkS m X tg iter σ B H (xs.map enc)) (hc : X.calm = true) (hN : X.N.Nodup) (ok : BlkOk X.N X.env.scope scope own)
    (hg : ∀ (s : Shared) (H : Hp) (C : Addr) (cl : List (Str × Addr)) (fp : List Addr), PG (bX X scope s H C cl fp) tg g) (T : ∀ x, x ∈ xs → TgE X.K g (enc x) ixs (u x))
    (he : ∀ s0 H0 C cl fp x σ1 B1 H1, x ∈ xs → Stp m B H B1 H1 → Sl σ1 B1 (u x (wipeG Γ (own.map (·.2)))) → Ev m (bX X scope s0 H0 C cl fp) elt σ1 B1 H1 (SomeD P))
    (hz : xs.length ≤ 100000) (k : ∀ p ds B' H', Stp m B H B' H' → Stp m B0 H0 B' H' → H p = none → H0 p = none → ds.length = xs.length → (∀ d ∈ ds, P d) → Mu m B' H' p ds → Sl (σ.set i (some (.ref p))) B' (Γ.set i (some (IsV (.ref p)))) → wSs X rest D (σ.set i (some (.ref p))) H')
    (hy : X.N[i]? = some x := by rfl) (hyl : X.env.scope.names.lookup x = some .local := by rfl) (hsw : swapsWith (.ListComp elt [⟨tg, iter, [], 0⟩] scope pos) (some (.Name x p1)) spos.line X.env = pure true := by exact sw_true rfl rfl rfl (by decide +kernel))
    (hix : ∀ i ∈ ixs, i ∈ own.map (·.2) := by decide) (hs : ∀ x, foldedSetIterable iter X.env x = pure x := by intro _; rfl) : wSs X (.Assign [.Name x p1] (.ListComp elt [⟨tg, iter, [], 0⟩] scope pos) spos :: rest) D σ H := by
  obtain ⟨wi, hi, hw⟩ := W.ex
  refine ws_cons (ps_setLc (te := fun σ H Q => ∀ s0 H0 C cl fp, wE (bX X scope s0 H0 C cl fp) elt σ H Q) hc hN hy hyl hsw hi ok hg (fun _ _ _ _ _ => pts_nil) (fun s0 H0 C cl fp => ⟨fun pins s σ H Q I h => h s0 H0 C cl fp pins s I⟩) hs) ?_
  refine lc_runY (P := P) S E T hix hz (fun x σ1 B2 H2 _ s2 Q q => q B2 H2 s2.here) (fun x σ1 B2 H2 hx s2 E2 Q q s0 H0 C cl fp => ?_) hw fun D zs B2 H2 ds s2 n1 n2 hz hl hp hd => ?_
  · exact he s0 H0 C cl fp x σ1 B2 H2 hx s2 E2 B2 H2 s2.here Q fun v B3 H3 s3 r => q v B3 H3 s3 r
  · exact k D ds B2 H2 s2 (S.trans s2) n1 (S.t D n1) hl hp ⟨S.p.ne n1, n2, zs, hz, hd⟩ ((E.mono s2.b).set rfl)
end
/-! ### for, over a list of which is known what it may be -/
section
variable {m : Option Addr} {X : Cx} {tg iter : Expr} {σ : L2.St} {B H B0 H0 : Hp} {pos : Pos} {Γ : List (Option Rt)} {body rest : List Stmt} {D : Ends} {α : Type} {enc : α → PyData} {g : TG} {ixs : List Nat} {u : α → List (Option Rt) → List (Option Rt)} {PX : List α → Prop}
structure WkX (m : Option Addr) (X : Cx) (tg iter : Expr) (σ : L2.St) (B H : Hp) (enc : α → PyData) (PX : List α → Prop) : Prop where
  ex : ∃ wi, PI X tg iter wi ∧ ∀ B1 H1, Stp m B H B1 H1 → ∀ R : It → Hp → Prop, (∀ J B2 H2 xs, PX xs → Stp m B1 H1 B2 H2 → JOk m J B2 (xs.map enc) → R J H2) → wi σ H1 R
theorem wx_list {e : Expr} (h : Ev m X e σ B H (SomeD fun d => ∃ xs, PX xs ∧ d = .list (xs.map enc))) : WkX m X tg e σ B H enc PX :=
  ⟨_, pi_list pe_w, fun B1 H1 s1 R q => h B1 H1 s1 _ fun v B2 H2 s2 r => by
    obtain ⟨d, ⟨xs0, hP, rfl⟩, r⟩ := r
    obtain ⟨a, xs, rfl, h1, h2⟩ := r.lst_ex
    have hl := h2.len
    refine ⟨a, rfl, ⟨xs, SqL.of (s2.s _ _ h1)⟩, q _ B2 H2 xs0 hP s2 ⟨fun i H s hi => ?_, fun i H s hi => ⟨xs, SqL.of (s _ _ h1), by omega⟩, fun i d B H x H' hd s s' hp y => ?_⟩⟩
    · exact ⟨xs, xs[i]'(by omega), SqL.of (s _ _ h1), List.getElem?_eq_getElem (by omega)⟩
    · obtain ⟨e, y⟩ := y
      subst e
      have hx := y xs (SqL.of (s' _ _ (s _ _ h1)))
      obtain ⟨d', e1, e2⟩ := (h2.mono s).get hx
      rw [hd] at e1; cases e1
      exact ⟨B, Stp.refl s' hp, e2⟩⟩
theorem ws_forX (S : Stp m B0 H0 B H) (W : WkX m X tg iter σ B H enc PX) (hg : PG X tg g) (T : ∀ x, TgE X.K g (enc x) ixs (u x)) (hc : X.calm = true) (hpass : PassesOwn (model X.prog X.w) X.A X.env X.xe)
    (Γl : List (Option Rt)) (h0 : ∀ B1 H1, Stp m B H B1 H1 → Sl σ B1 Γl)
    (hs : ∀ xs x σ1 B1 H1, PX xs → x ∈ xs → Stp m B0 H0 B1 H1 → Same B B1 → Sl σ1 B1 (u x Γl) →
      wSs X body { nx := fun σ2 H2 => ∃ B2, Same B1 B2 ∧ Stp m B0 H0 B2 H2 ∧ Sl σ2 B2 Γl, ct := fun σ2 H2 => ∃ B2, Same B1 B2 ∧ Stp m B0 H0 B2 H2 ∧ Sl σ2 B2 Γl, rt := D.rt, bk := wSs X rest D } σ1 H1)
    (hd : ∀ σ1 B1 H1, Stp m B0 H0 B1 H1 → Same B B1 → Sl σ1 B1 Γl → wSs X rest D σ1 H1)
    (hf : ∀ x, foldedSetIterable iter X.env x = pure x := by intro _; rfl) : wSs X (.For tg iter body [] pos :: rest) D σ H := by
  obtain ⟨wi, hi, hw⟩ := W.ex
  refine ws_cons (ps_for hpass hc hi hg pss_w hf) (hw B H S.here _ fun J' B2 H2 xs hP s2 jo => ?_)
  obtain ⟨j1, j2, j3⟩ := jo
  have hlen : (xs.map enc).length = xs.length := List.length_map ..
  refine ⟨fun i n σ1 H1 => n = xs.length - i ∧ i ≤ xs.length ∧ ∃ B1, Same B2 B1 ∧ Stp m B0 H0 B1 H1 ∧ Sl σ1 B1 Γl, ⟨xs.length, by simp, Nat.zero_le _, B2, Same.refl _, S.trans s2, h0 B2 H2 s2⟩, ?_⟩
  rintro i n σ1 H1 ⟨rfl, hi, B1, sb, S1, E1⟩
  by_cases hlt : i < xs.length
  · refine .inr ⟨j1 i H1 (sb.trans S1.s) (by rw [hlen]; exact hlt), fun σ2 H2 => ∃ B3, Same B1 B3 ∧ Stp m B0 H0 B3 H2 ∧ Sl σ2 B3 Γl, fun σ2 H2 ⟨B3, s3, S3, E3⟩ => ⟨xs.length - (i + 1), by omega, rfl, hlt, B3, sb.trans s3, S3, E3⟩, fun x H' y => ?_⟩
    have hx : (xs.map enc)[i]? = some (enc xs[i]) := by rw [List.getElem?_map, List.getElem?_eq_getElem hlt] <;> rfl
    obtain ⟨B4, s4, r4⟩ := j3 i _ B1 H1 x H' hx sb S1.s S1.p y
    refine T xs[i] x σ1 B4 H' Γl _ (E1.mono s4.b) r4 s4.s fun σ' E' _ => ?_
    refine ws_mono (hs xs xs[i] σ' B4 H' hP (List.getElem_mem hlt) (S1.trans s4) (s2.b.trans (sb.trans s4.b)) E') ?_ ?_
    · exact fun σ2 H2 ⟨B3, s3, q⟩ => ⟨B3, s4.b.trans s3, q⟩
    · exact fun σ2 H2 ⟨B3, s3, q⟩ => ⟨B3, s4.b.trans s3, q⟩
  · have e : i = xs.length := by omega
    subst e
    exact .inl ⟨j2 _ H1 (sb.trans S1.s) (by rw [hlen]; exact Nat.le_refl _), hd σ1 B1 H1 S1 (s2.b.trans sb) E1⟩
end
end K3
/-! TEXT M8 -/
set_option Elab.async false
set_option linter.all false
/-! corners at work -/
namespace K3
theorem val_eq {n : Nat} {gs : List Gate} {x : List Int} {i a : Int} (hg : ∀ g ∈ gs, Vg n g) (hx : x.length = n) (h0 : 0 ≤ i) (h1 : i < n) (h : Le (at_ (told n gs) i) x a) (h2 : ¬ Le (at_ (told n gs) i) x (a - 1)) : xv (runG gs x) i = a := by
  have s := sem_run (x := x) hg hx i h0 h1
  have e1 := (s a).mpr h
  have e2 : ¬ xv (runG gs x) i ≤ a - 1 := fun z => h2 ((s _).mp z)
  omega
theorem val_le {n : Nat} {gs : List Gate} {x : List Int} {i a : Int} (hg : ∀ g ∈ gs, Vg n g) (hx : x.length = n) (h0 : 0 ≤ i) (h1 : i < n) : xv (runG gs x) i ≤ a ↔ Le (at_ (told n gs) i) x a := sem_run (x := x) hg hx i h0 h1 a
/-- one content, another: at the corner the one is at 0 -/
theorem first_le {f : Fam} {n : Nat} {l : Lot} (wf : Wf n f) (hl : l ∈ f) : Le f (cornerV l f n) 0 ∧ ¬ Le f (cornerV l f n) (0 - 1) := by
  refine ⟨corner_le0 (wf.vl l hl) hl, ?_⟩
  rintro ⟨m, hm, h⟩
  by_cases e : m = l
  · subst e
    obtain ⟨p, q, e⟩ := List.exists_cons_of_ne_nil (wf.vl m hm).ne
    have hp : p ∈ m := by rw [e]; exact List.mem_cons_self
    have a := corner_own (f := f) (wf.vl m hm) p hp
    have b := h p hp
    omega
  · have hu : under m l = false := by
      cases z : under m l with
      | false => rfl
      | true => exact absurd (wf.cn.anti m hm l hl z) e
    obtain ⟨p, hp, h1⟩ := corner_other (wf.vl l hl) (wf.vl m hm) hm (numsOf_ne wf) hu
    have := h p hp
    omega
theorem second_le {f : Fam} {n : Nat} {l : Lot} {o : Int} {x : List Int} (wf : Wf n f) (hl : l ∈ f) (ho : o ∈ lanesIn [l]) (h0 : 0 ≤ o) (h1 : o < n) (hx : x = (cornerV l f n).set o.toNat (xv (cornerV l f n) o + 1)) : Le f x 1 ∧ ¬ Le f x (1 - 1) := by
  have hlen := corner_len l f n
  have hv : ∀ k : Int, 0 ≤ k → xv x k = if o = k then xv (cornerV l f n) o + 1 else xv (cornerV l f n) k := fun k hk => by
    rw [hx, xv_set h0 (by rw [hlen]; exact h1) hk]
  have hup : ∀ k : Int, 0 ≤ k → xv (cornerV l f n) k ≤ xv x k ∧ xv x k ≤ xv (cornerV l f n) k + 1 := fun k hk => by
    rw [hv k hk]
    split
    · rename_i e; subst e; omega
    · omega
  obtain ⟨l2, hl2, p0, hp0, e0⟩ := mem_lanesIn.mp ho
  rw [List.mem_singleton.mp hl2] at hp0
  refine ⟨⟨l, hl, fun p hp => ?_⟩, ?_⟩
  · have a := corner_own (f := f) (wf.vl l hl) p hp
    have b := hup p.1 ((wf.vl l hl).rg p hp).1
    omega
  · rintro ⟨m, hm, h⟩
    by_cases e : m = l
    · subst e
      have a := corner_own (f := f) (wf.vl m hm) p0 hp0
      have b := h p0 hp0
      rw [hv p0.1 ((wf.vl m hm).rg p0 hp0).1, if_pos e0.symm, ← e0] at b
      omega
    · have hu : under m l = false := by
        cases z : under m l with
        | false => rfl
        | true => exact absurd (wf.cn.anti m hm l hl z) e
      obtain ⟨p, hp, h1⟩ := corner_other (wf.vl l hl) (wf.vl m hm) hm (numsOf_ne wf) hu
      have a := h p hp
      have b := hup p.1 ((wf.vl m hm).rg p hp).1
      omega
/-- two contents that are a step apart at most stay so -/
def Near (n : Nat) (y z : List Int) : Prop := y.length = n ∧ z.length = n ∧ ∀ k : Int, 0 ≤ k → k < n → xv y k ≤ xv z k ∧ xv z k ≤ xv y k + 1
theorem Near.step {n : Nat} {y z : List Int} {g : Gate} (h : Near n y z) (hg : Vg n g) : Near n (doStep y g) (doStep z g) := by
  obtain ⟨h1, h2, h3⟩ := h
  refine ⟨by rw [doStep_len']; exact h1, by rw [doStep_len']; exact h2, fun k k0 k1 => ?_⟩
  have a := h3 g.one hg.one.1 hg.one.2
  have c := h3 k k0 k1
  have s : ∀ {xs : List Int} {i v : Int}, xs.length = n → 0 ≤ i → i < n → xv (xs.set i.toNat v) k = if i = k then v else xv xs k := fun e i0 i1 => xv_set i0 (by rw [e]; exact i1) k0
  have ey : y.getD g.one.toNat 0 = xv y g.one := rfl
  have ez : z.getD g.one.toNat 0 = xv z g.one := rfl
  have ey2 : y.getD g.other.toNat 0 = xv y g.other := rfl
  have ez2 : z.getD g.other.toNat 0 = xv z g.other := rfl
  unfold doStep
  rw [ey, ez, ey2, ez2]
  cases hk : g.kind with
  | add =>
    show xv (y.set g.one.toNat _) k ≤ xv (z.set g.one.toNat _) k ∧ _
    rw [s h1 hg.one.1 hg.one.2, s h2 hg.one.1 hg.one.2]
    split <;> omega
  | copy =>
    have ho := hg.other (by rw [hk]; decide)
    have b := h3 g.other ho.1 ho.2.1
    show xv (y.set g.one.toNat _) k ≤ xv (z.set g.one.toNat _) k ∧ _
    rw [s h1 hg.one.1 hg.one.2, s h2 hg.one.1 hg.one.2]
    split <;> omega
  | high =>
    have ho := hg.other (by rw [hk]; decide)
    have b := h3 g.other ho.1 ho.2.1
    show xv (y.set g.one.toNat _) k ≤ xv (z.set g.one.toNat _) k ∧ _
    rw [s h1 hg.one.1 hg.one.2, s h2 hg.one.1 hg.one.2]
    split <;> omega
  | low =>
    have ho := hg.other (by rw [hk]; decide)
    have b := h3 g.other ho.1 ho.2.1
    show xv (y.set g.one.toNat _) k ≤ xv (z.set g.one.toNat _) k ∧ _
    rw [s h1 hg.one.1 hg.one.2, s h2 hg.one.1 hg.one.2]
    split <;> omega
  | sort =>
    have ho := hg.other (by rw [hk]; decide)
    have b := h3 g.other ho.1 ho.2.1
    show xv ((y.set g.one.toNat _).set g.other.toNat _) k ≤ xv ((z.set g.one.toNat _).set g.other.toNat _) k ∧ _
    rw [s (by rw [List.length_set]; exact h1) ho.1 ho.2.1, s (by rw [List.length_set]; exact h2) ho.1 ho.2.1, s h1 hg.one.1 hg.one.2, s h2 hg.one.1 hg.one.2]
    split
    · omega
    · split <;> omega
theorem Near.run {n : Nat} : ∀ {gs : List Gate} {y z : List Int}, Near n y z → (∀ g ∈ gs, Vg n g) → Near n (runG gs y) (runG gs z)
  | [], _, _, h, _ => h
  | g :: gs, _, _, h, hg => Near.run (gs := gs) (h.step (hg g List.mem_cons_self)) fun x hx => hg x (List.mem_cons_of_mem _ hx)
theorem runG_app (a b : List Gate) (x : List Int) : runG (a ++ b) x = runG b (runG a x) := by
  unfold runG
  rw [List.foldl_append]
theorem run_len' {gs : List Gate} {x : List Int} : (runG gs x).length = x.length := by
  unfold runG
  induction gs generalizing x with
  | nil => rfl
  | cons g gs ih => rw [List.foldl_cons, ih, doStep_len']
/-- a gate more that adds 1 -/
theorem near_ins {n : Nat} {gs : List Gate} {p : Nat} {i : Int} {x : List Int} (hg : ∀ g ∈ gs, Vg n g) (hx : x.length = n) (h0 : 0 ≤ i) (h1 : i < n) : Near n (runG gs x) (runG (gs.take p ++ [⟨.add, i, 1⟩] ++ gs.drop p) x) := by
  rw [runG_app, runG_app]
  have e : runG gs x = runG (gs.drop p) (runG (gs.take p) x) := by rw [← runG_app, List.take_append_drop]
  rw [e]
  have hl : (runG (gs.take p) x).length = n := by rw [run_len']; exact hx
  refine Near.run ⟨hl, by rw [run_len']; exact hl, fun k k0 k1 => ?_⟩ fun g hm => hg g (List.mem_of_mem_drop hm)
  show _ ≤ xv (doStep (runG (gs.take p) x) ⟨.add, i, 1⟩) k ∧ xv (doStep (runG (gs.take p) x) ⟨.add, i, 1⟩) k ≤ _
  have e2 : xv (doStep (runG (gs.take p) x) ⟨.add, i, 1⟩) k = if i = k then xv (runG (gs.take p) x) i + 1 else xv (runG (gs.take p) x) k := xv_set (x := runG (gs.take p) x) (i := i) (v := xv (runG (gs.take p) x) i + 1) h0 (by rw [hl]; exact h1) k0
  rw [e2]
  split
  · rename_i e; subst e; omega
  · omega
end K3
/-! TEXT M9 -/
set_option Elab.async false
set_option linter.all false
/-! one more at a place: by how much a lane is more -/
namespace K3
theorem FewAll.mono {j k n : Nat} {gs : List Gate} (h : FewAll j n gs) (hk : j ≤ k) : FewAll k n gs := fun i hi f hf => Nat.le_trans (h i hi f hf) hk
abbrev ltr (gs : List Gate) (p : Nat) (i : Int) : List Gate := gs.take p ++ [⟨.add, i, 1⟩] ++ gs.drop p
theorem ltr_vg {n p : Nat} {gs : List Gate} {i : Int} (hg : ∀ g ∈ gs, Vg n g) (h0 : 0 ≤ i) (h1 : i < n) : ∀ g ∈ ltr gs p i, Vg n g := fun g h => by
  rcases List.mem_append.mp h with h | h
  · rcases List.mem_append.mp h with h | h
    · exact hg g (List.mem_of_mem_take h)
    · rw [List.mem_singleton.mp h]; exact ⟨⟨h0, h1⟩, fun z => absurd rfl z⟩
  · exact hg g (List.mem_of_mem_drop h)
section
variable {n p : Nat} {gs : List Gate} {i j : Int}
theorem rise_pw {x : List Int} (hg : ∀ g ∈ gs, Vg n g) (h0 : 0 ≤ i) (h1 : i < n) (j0 : 0 ≤ j) (j1 : j < n) (hx : x.length = n) : xv (runG gs x) j ≤ xv (runG (ltr gs p i) x) j ∧ xv (runG (ltr gs p i) x) j ≤ xv (runG gs x) j + 1 := (near_ins hg hx h0 h1).2.2 j j0 j1
theorem rise_one (hg : ∀ g ∈ gs, Vg n g) (h0 : 0 ≤ i) (h1 : i < n) (j0 : 0 ≤ j) (j1 : j < n) (hne : at_ (told n gs) j ≠ at_ (told n (ltr gs p i)) j) :
    ∃ l, apartL (at_ (told n (ltr gs p i)) j) (at_ (told n gs) j) = some l ∧ l ∈ at_ (told n gs) j ∧ xv (runG (ltr gs p i) (cornerV l (at_ (told n (ltr gs p i)) j) n)) j = 1 ∧ xv (runG gs (cornerV l (at_ (told n (ltr gs p i)) j) n)) j = 0 := by
  have hg2 := ltr_vg (p := p) hg h0 h1
  have wn := (told_wt hg).at_ j0 j1
  have wf := (told_wt hg2).at_ j0 j1
  cases q : apartL (at_ (told n (ltr gs p i)) j) (at_ (told n gs) j) with
  | none =>
    refine absurd (cover_eq wn wf (apartL_none q) (le_cover wf wn fun x hx t h => ?_)) hne
    have a := (val_le hg2 hx j0 j1).mpr h
    have b := (rise_pw (p := p) hg h0 h1 j0 j1 hx).1
    exact (val_le hg hx j0 j1).mp (Int.le_trans b a)
  | some l =>
    obtain ⟨hl, hu⟩ := apartL_some q
    have hx := corner_len l (at_ (told n (ltr gs p i)) j) n
    have a := (val_le hg hx j0 j1).mpr (corner_le0 (wn.vl l hl) hl)
    have b : ¬ xv (runG (ltr gs p i) (cornerV l (at_ (told n (ltr gs p i)) j) n)) j ≤ 0 := fun z => corner_not0 (wn.vl l hl) wf.vl (numsOf_ne wf) hu ((val_le hg2 hx j0 j1).mp z)
    have c := rise_pw (p := p) hg h0 h1 j0 j1 hx
    exact ⟨l, rfl, hl, by omega, by omega⟩
theorem rise_two (hg : ∀ g ∈ gs, Vg n g) (h0 : 0 ≤ i) (h1 : i < n) (j0 : 0 ≤ j) (j1 : j < n) (hne : raised (at_ (told n gs) j) 1 ≠ at_ (told n (ltr gs p i)) j) :
    ∃ l, apartL (raised (at_ (told n gs) j) 1) (at_ (told n (ltr gs p i)) j) = some l ∧ l ∈ at_ (told n (ltr gs p i)) j ∧ xv (runG (ltr gs p i) (cornerV l (raised (at_ (told n gs) j) 1) n)) j = 0 ∧ xv (runG gs (cornerV l (raised (at_ (told n gs) j) 1) n)) j = 0 := by
  have hg2 := ltr_vg (p := p) hg h0 h1
  have wn := (told_wt hg).at_ j0 j1
  have wf := (told_wt hg2).at_ j0 j1
  have wr := wn.raised 1
  cases q : apartL (raised (at_ (told n gs) j) 1) (at_ (told n (ltr gs p i)) j) with
  | none =>
    refine absurd (cover_eq wr wf (le_cover wr wf fun x hx t h => ?_) (apartL_none q)) hne
    have a := (val_le hg hx j0 j1).mpr (le_raised.mp h)
    have b := (rise_pw (p := p) hg h0 h1 j0 j1 hx).2
    exact (val_le hg2 hx j0 j1).mp (by omega)
  | some l =>
    obtain ⟨hl, hu⟩ := apartL_some q
    have hx := corner_len l (raised (at_ (told n gs) j) 1) n
    have a := (val_le hg2 hx j0 j1).mpr (corner_le0 (wf.vl l hl) hl)
    have b : ¬ xv (runG gs (cornerV l (raised (at_ (told n gs) j) 1) n)) j ≤ 0 - 1 := fun z => corner_not0 (wf.vl l hl) wr.vl (numsOf_ne wr) hu (le_raised.mpr ((val_le hg hx j0 j1).mp z))
    have c := rise_pw (p := p) hg h0 h1 j0 j1 hx
    exact ⟨l, rfl, hl, by omega, by omega⟩
end
/-- two families that are apart, at the corner that tells so -/
theorem apart2_vals {n : Nat} {f g : Fam} (hf : Wf n f) (hg : Wf n g) {z : Lot × Fam} (h : apart2 f g = some z) : (Le f (cornerV z.1 z.2 n) 0 ∧ ¬ Le g (cornerV z.1 z.2 n) 0) ∨ (Le g (cornerV z.1 z.2 n) 0 ∧ ¬ Le f (cornerV z.1 z.2 n) 0) := by
  unfold apart2 at h
  cases q : apartL f g with
  | some l =>
    rw [q] at h
    cases h
    obtain ⟨hl, hu⟩ := apartL_some q
    exact .inr ⟨corner_le0 (hg.vl l hl) hl, corner_not0 (hg.vl l hl) hf.vl (numsOf_ne hf) hu⟩
  | none =>
    rw [q] at h
    cases q2 : apartL g f with
    | none => rw [q2] at h; cases h
    | some l =>
      rw [q2] at h
      cases h
      obtain ⟨hl, hu⟩ := apartL_some q2
      exact .inl ⟨corner_le0 (hf.vl l hl) hl, corner_not0 (hf.vl l hl) hg.vl (numsOf_ne hg) hu⟩
theorem raised_kept {n : Nat} {f : Fam} (hf : Wf n f) (c : Int) : kept (raised f c) = raised f c := kept_id (hf.raised c).nk (hf.raised c).cn
end K3
/-! TEXT G12 -/
set_option Elab.async false
set_option linter.all false
set_option maxRecDepth 100000
set_option maxHeartbeats 1000000
namespace K3
open PySem PySem.Spec L2
section
variable {P : Program} {w : World} {K : PySem.W.Frag} {mg : Str → Option Value} {base : Heap}
def encP2 : Option (List Int × List Int) → PyData
  | none => .none
  | some (xs, ys) => .tuple [encI xs, encI ys]
theorem frz_pair (o : Option (List Int × List Int)) : Frz (WPair o) (K3.IsD (encP2 o)) := fun v B2 H2 B3 H3 s w => by
  cases o with
  | none =>
    obtain rfl : v = .non := w
    exact ⟨B3, Same.refl _, s, .non⟩
  | some z =>
    obtain ⟨xs, ys⟩ := z
    obtain ⟨t, q1, q2, rfl, ht, hne, n1, n2, M1, M2⟩ := w
    obtain ⟨z1, e1, h1⟩ := M1.ex
    obtain ⟨z2, e2, h2⟩ := M2.ex
    have b1 : Same B3 (upd B3 q1 (.lst z1)) := same_upd M1.b
    have b2 : (upd B3 q1 (.lst z1)) q2 = none := by rw [upd_ne (Ne.symm hne)]; exact M2.b
    have S1 := s.frz n1 M1.b e1 M1.ne
    have S2 := S1.frz n2 b2 e2 M2.ne
    have b3 := same_upd (o := .lst z2) b2
    have bb := b1.trans b3
    exact ⟨_, bb, S2, .tup (bb _ _ ht) (.cons (.lst (b3 _ _ upd_same) (h1.mono bb)) (.cons (.lst upd_same (h2.mono bb)) .nil))⟩
/-! lists of contents -/
def encII (l : List (List Int)) : PyData := .list (l.map encI)
theorem ii_shp (l : List (List Int)) : SeqAt.shaped (encII l) = true := shp (k := 2) (by rw [encII, PyData.canLay0]; exact canAll l fun p _ => i_can p) (by rw [encII, PyData.depth]; have := depAll l fun p _ => i_dep p; omega)
theorem ii_eqv (l m : List (List Int)) : PyData.eqv (encII l) (encII m) = decide (l = m) := by rw [encII, encII, PyData.eqv]; exact eqvAl i_eqv l m
theorem p2_shp (xs ys : List Int) : SeqAt.shaped (.tuple [encI xs, encI ys]) = true := shp (k := 2) (by rw [PyData.canLay0]; exact canAll (f := encI) [xs, ys] fun p _ => i_can p) (by rw [PyData.depth]; have := depAll (f := encI) [xs, ys] fun p _ => i_dep p; simp only [List.map_cons, List.map_nil] at this; omega)
theorem p2_eqv (xs ys xs' ys' : List Int) : PyData.eqv (.tuple [encI xs, encI ys]) (.tuple [encI xs', encI ys']) = decide (([xs, ys] : List (List Int)) = [xs', ys']) := by rw [PyData.eqv]; exact eqvAl i_eqv [xs, ys] [xs', ys']
/-- the first lot with the lane -/
theorem find_lane (f : Fam) (o : Int) : (f.find? fun l => decide (o ∈ l.map (·.1))) = f.find? fun l => decide (o ∈ lanesIn [l]) := by
  congr 1
  funext l
  rw [decide_eq_decide, mem_lanesIn, List.mem_map]
  constructor
  · rintro ⟨p, hp, e⟩; exact ⟨l, List.mem_singleton.mpr rfl, p, hp, e⟩
  · rintro ⟨l2, hl, p, hp, e⟩; rw [List.mem_singleton.mp hl] at hp; exact ⟨p, hp, e⟩
theorem shown_in {f : Fam} {o : Int} (h : o ∈ lanesIn f) : ∃ l, (f.find? fun l => decide (o ∈ lanesIn [l])) = some l ∧ l ∈ f ∧ o ∈ lanesIn [l] := by
  obtain ⟨l, hl, p, hp, e⟩ := mem_lanesIn.mp h
  have : (f.find? fun l => decide (o ∈ lanesIn [l])).isSome = true := by
    rw [List.find?_isSome]
    exact ⟨l, hl, decide_eq_true (mem_lanesIn.mpr ⟨l, List.mem_singleton.mpr rfl, p, hp, e⟩)⟩
  obtain ⟨l2, h2⟩ := Option.isSome_iff_exists.mp this
  exact ⟨l2, h2, List.mem_of_find?_eq_some h2, of_decide_eq_true (List.find?_some (p := fun l => decide (o ∈ lanesIn [l])) h2)⟩
theorem shown_out {f : Fam} {n : Nat} {o : Int} (h : o ∉ lanesIn f) : shownO f n o = none := by
  unfold shownO
  rw [List.find?_eq_none.mpr fun l hl => ?_]
  · rfl
  · have : o ∉ lanesIn [l] := fun z => by
      obtain ⟨l2, hl2, p, hp, e⟩ := mem_lanesIn.mp z
      rw [List.mem_singleton.mp hl2] at hp
      exact h (mem_lanesIn.mpr ⟨l, hl, p, hp, e⟩)
    simp [this]
theorem cl_L_hung_right (T : Tx K mg) (p : Addr) (n : Nat) (gs : List Gate) (G : Gd n gs) (F : FewAll 60 n gs) : Cl P w K mg base "_law_hung_right" ["_law_pot_here", "_law_net_now", "_law_gates_here", "_law_rows"] 10 (spD (some p) [IsV (.ref p), K3.IsD (netD K n gs), K3.IsD (encGs gs), K3.IsD (encT (told n gs))] (K3.IsD (.bool true))) :=
  cl_mk T 74 (d := d_L_hung_right) rfl rfl rfl rfl (by decide +kernel) (fun _ _ _ _ _ _ us hl => match us, hl with | [_, _, _, _], _ => rfl) fun fa fdd FF => by
    refine fn_ok FF sc_L_hung_right rfl fun cdv A outer s E0 B H vs Q hr S E q => ?_
    have hn2 := G.n2
    have wt : Wt n (told n gs) := told_wt G.vg
    have tl : (told n gs).length = n := wt.len
    have f60 := F gs.length (Nat.le_refl _)
    rw [List.take_length] at f60
    have er : rngD ((n : Int).toNat) = (List.range n).map fun (i : Nat) => PyData.int (i : Int) := by unfold rngD; rw [Int.toNat_natCast]
    refine ws_set S E 4 (R := K3.IsD (.int n)) (Ev.cast (ev_lenL (T_free T) (ev_v E 3)) (by rw [List.length_map, tl])) (fun v B1 H1 s1 S r E => ?_) sc_L_hung_right.nd
    refine ws_for (xs := List.range n) (enc := fun (j : Nat) => PyData.int (j : Int)) (u := fun j Γ => Γ.set 5 (some (K3.IsD (.int (j : Nat))))) S (by rw [← er]; exact wk_range (T_free T) (ev_v E 4) (by omega) (by omega)) (pg_name (i := 5) sc_L_hung_right.nd rfl (by first | exact Or.inl rfl | exact Or.inr rfl)) (fun x _ => tg1) rfl PassesOwn.never
      (fun j => [some (IsV (.ref p)), some (K3.IsD (netD K n gs)), some (K3.IsD (encGs gs)), some (K3.IsD (encT (told n gs))), some (K3.IsD (.int n)), none, none, none, none, none, none, none, none, none, none, none]) (fun j _ _ => True) (fun _ _ _ _ _ _ h => h) (fun B1 H1 s1 S => ⟨(E.mono s1.b).to, trivial⟩) (fun j i σ1 B1 H1 hx1 S sb1 E _ => ?_) (fun σ1 B2 H2 S2 sb E2 _ => ?_)
    · obtain ⟨hij, hin⟩ := range_at hx1
      subst hij
      have i0 : 0 ≤ ((i : Nat) : Int) := Int.natCast_nonneg i
      have a1 := at_enc (t := told n gs) i0 (by rw [tl]; omega)
      have wf := wt.at_ i0 (by omega)
      have z1 : (at_ (told n gs) i).length ≤ 60 := f60 _ (at_mem i0 (by rw [tl]; omega))
      have e7 : PyData.eqv (encI (lanesIn (at_ (told n gs) i))) (encI (lanesIn (at_ (told n gs) i))) = true := by rw [i_eqv]; simp
      refine ws_parM S E 6 7 (R1 := K3.IsD (encI (lanesIn (at_ (told n gs) i)))) (ev_call (cl_L_lanes T (at_ (told n gs) i) n hn2 wf) hr (ea1 (ev_ixL (ev_v E 3) (ev_v E 5) a1))) (em_call (cl_lanes_hung T n gs i G F i0 (by omega)).1 hr (ea2 (ev_v E 1) (ev_v E 5))) (fun v q1 B2 H2 s2 S r n1 n2 M E => ?_) sc_L_hung_right.nd
      refine ws_no S (EvT.cast (et_or2 (et_cmp (cm_neA hr (daM M) daD (i_shp (lanesIn (at_ (told n gs) i))) (i_shp _)) (ev_v E 7) (ev_v E 6)) fun _ => et_cmp (cm_neD hr (i_shp (lanesIn (at_ (told n gs) i))) (i_shp _)) (EvM.ev (em_callK2 (cl_lanes_hung T n gs i G F i0 (by omega)).2 hr (ev_v E 5) (ev_v E 1))) (ev_v E 6)) (by
        show (!PyData.eqv (encI (lanesIn (at_ (told n gs) i))) (encI (lanesIn (at_ (told n gs) i))) || !PyData.eqv (encI (lanesIn (at_ (told n gs) i))) (encI (lanesIn (at_ (told n gs) i)))) = false
        rw [e7]; rfl)) fun B3 H3 s3 S => ?_
      have M := M.mono s3
      have E := E.mono s3.b
      refine ws_app S M n2 (ev_v E 7) ev_int (by
        have := lanesRaw_len (k := 12) (at_ (told n gs) i) fun l hl => by have := vl_len ((wf.vl l hl).mono (by omega : (n : Int) ≤ 12)); omega
        rw [List.length_map, (lanesIn_perm _).length_eq]; omega) (fun B4 H4 sb4 S M _ => ?_)
      have E := E.mono sb4
      refine ws_no S (EvT.cast (et_cmp (cm_neD hr (i_shp (lanesIn (at_ (told n gs) i))) (i_shp _)) (EvM.ev (em_call (cl_lanes_hung T n gs i G F i0 (by omega)).1 hr (ea2 (ev_v E 1) (ev_v E 5)))) (ev_v E 6)) (by
        show (!PyData.eqv (encI (lanesIn (at_ (told n gs) i))) (encI (lanesIn (at_ (told n gs) i)))) = false
        rw [e7]; rfl)) fun B5 H5 s5 S => ?_
      have E := E.mono s5.b
      refine ws_for (xs := List.range n) (enc := fun (j : Nat) => PyData.int (j : Int)) (u := fun j Γ => Γ.set 8 (some (K3.IsD (.int (j : Nat))))) S (by rw [← er]; exact wk_range (T_free T) (ev_v E 4) (by omega) (by omega)) (pg_name (i := 8) sc_L_hung_right.nd rfl (by first | exact Or.inl rfl | exact Or.inr rfl)) (fun x _ => tg1) rfl PassesOwn.never
        (fun j => [some (IsV (.ref p)), some (K3.IsD (netD K n gs)), some (K3.IsD (encGs gs)), some (K3.IsD (encT (told n gs))), some (K3.IsD (.int n)), some (K3.IsD (.int (i : Nat))), some (K3.IsD (encI (lanesIn (at_ (told n gs) i)))), none, none, none, none, none, none, none, none, none]) (fun j _ _ => True) (fun _ _ _ _ _ _ h => h) (fun B1 H1 s1 S => ⟨(E.mono s1.b).to, trivial⟩) (fun j o σ1 B7 H7 hx7 S7 sb7 E _ => ?_) (fun σ1 B6 H6 S sb E _ => ws_nil ⟨B6, s2.b.trans (s3.b.trans (sb4.trans (s5.b.trans sb))), S, E.to, trivial⟩)
      obtain ⟨hoj, hon⟩ := range_at hx7
      subst hoj
      have o0 : 0 ≤ ((o : Nat) : Int) := Int.natCast_nonneg o
      refine ws_setW S7 E (ew_call (cl_shown T n gs i o G F i0 (by omega) o0 (by omega)).1 hr (ea3 (ev_v E 1) (ev_v E 5) (ev_v E 8))) 9 (fun v B8 H8 B9 H9 s8 s9 s89 S w E => ?_) sc_L_hung_right.nd
      by_cases hm : ((o : Nat) : Int) ∈ lanesIn (at_ (told n gs) i)
      · obtain ⟨l, hfl, hlf, hlo⟩ := shown_in hm
        have eo : shownO (at_ (told n gs) i) n o = some (cornerV l (at_ (told n gs) i) n, secondV (cornerV l (at_ (told n gs) i) n) o) := by unfold shownO; rw [hfl]; rfl
        have cl := corner_len l (at_ (told n gs) i) n
        have cl2 : (secondV (cornerV l (at_ (told n gs) i) n) o).length = n := by unfold secondV; rw [List.length_set, cl]
        rw [eo] at w
        obtain ⟨t, q2, q3, rfl, ht, hne, m2, m3, M2, M3⟩ := w
        have M2 := M2.up s8.here m2
        have M3 := M3.up s8.here m3
        have h2 := S7.t q2 (s8.t q2 m2)
        have h3 := S7.t q3 (s8.t q3 m3)
        have E := E.set (i := 9) (R := RawT [.ref q2, .ref q3]) (v := .ref t) ⟨t, rfl, ht⟩
        refine ws_ifT S (EvT.cast (et_cmp (cm_inI lsL) (ev_v E 8) (ev_v E 6)) (decide_eq_true hm)) (fun B10 H10 s10 S => ?_)
        have E := E.mono s10.b
        have M2 := M2.mono s10
        have M3 := M3.mono s10
        refine ws_set S E 10 (R := K3.IsD (encL l)) (ev_ixL (i := 0) (ds := ((at_ (told n gs) i).filter fun l => decide (((o : Nat) : Int) ∈ l.map (·.1))).map encL) (EvM.ev (em_lcF (xs := at_ (told n gs) i) (enc := encL) (p := fun l => decide (((o : Nat) : Int) ∈ l.map (·.1))) (f := encL) (own := [("_law_near", 15)]) E (wk_list (ev_ixL (ev_v E 3) (ev_v E 5) a1)).s rfl sc_L_hung_right.nd (blkOk_by (own := [("_law_near", 15)]) (by rfl)) (fun _ _ _ _ _ => pg_name (i := 15) sc_L_hung_right.nd rfl (by first | exact Or.inl rfl | exact Or.inr rfl)) (fun x _ => tg1)
          (fun s0 H0 C cl fp l2 σ2 B2 H2 hl2 s2 E2 => et_cmp (cm_inI lsL) (ev_v E2 8) (Ev.cast (EvM.ev (em_lc (xs := l2) (enc := pairD) (f := fun pr => .int pr.1) (own := [("_law_part", 14)]) E2 (wk_tup (ev_v E2 15)).s rfl sc_L_hung_right.nd (blkOk_by (own := [("_law_part", 14)]) (by rfl)) (fun _ _ _ _ _ => pg_name (i := 14) sc_L_hung_right.nd rfl (by first | exact Or.inl rfl | exact Or.inr rfl)) (fun x _ => tg1) (fun s0 H0 C cl fp pr σ3 B3 H3 hpr s3 E3 => ev_ixT (ds := [.int pr.1, .int pr.2]) (ev_v E3 14) ev_int (atI_ok (Int.le_refl 0) rfl)) (by have := vl_len ((wf.vl l2 hl2).mono (by omega : (n : Int) ≤ 12)); omega))) (by rw [List.map_map]; rfl)))
          (fun s0 H0 C cl fp l2 σ2 B2 H2 hl2 hp s2 E2 => ev_v E2 15) (by omega))) ev_int ?_) (fun v B11 H11 s11 S r E => ?_) sc_L_hung_right.nd
        · refine atI_ok (Int.le_refl 0) ?_
          show (((at_ (told n gs) i).filter fun l => decide (((o : Nat) : Int) ∈ l.map (·.1))).map encL)[0]? = _
          rw [List.getElem?_map, ← List.head?_eq_getElem?, List.head?_filter, find_lane, hfl] <;> rfl
        have M2 := M2.mono s11
        have M3 := M3.mono s11
        refine ws_set S E 11 (R := K3.IsD (encI (cornerV l (at_ (told n gs) i) n))) (ev_call (cl_L_corner T l (at_ (told n gs) i) n hn2 (wf.vl l hlf) wf (by omega)) hr (ea3 (ev_v E 10) (ev_ixL (ev_v E 3) (ev_v E 5) a1) (ev_v E 4))) (fun v B12 H12 s12 S r E => ?_) sc_L_hung_right.nd
        have M2 := M2.mono s12
        have M3 := M3.mono s12
        refine ws_setM S E 12 (em_listL (T_free T) (ev_v E 11)) (fun q4 B13 H13 s13 S k1 k2 M4 E => ?_) sc_L_hung_right.nd
        have ne2 : q2 ≠ q4 := by obtain ⟨zs, e, _⟩ := M2.ex; exact ne_of_none e k1
        have ne3 : q3 ≠ q4 := by obtain ⟨zs, e, _⟩ := M3.ex; exact ne_of_none e k1
        have M2 := M2.mono s13
        have M3 := M3.mono s13
        refine ws_setix (j := o) (d := .int (xv (cornerV l (at_ (told n gs) i) n) o + 1)) S M4 k2 (ev_add (ev_ixL (ev_v E 11) (ev_v E 8) (atI_int o0 (by omega))) ev_int) (ev_v E 12) (ev_v E 8) (ixN_nat (by rw [List.length_map]; omega)) (fun B14 H14 sb14 S M4 ot => ?_)
        have M2 := ot q2 _ ne2 M2
        have M3 := ot q3 _ ne3 M3
        have M4 : Mu (some p) B14 H14 q4 ((secondV (cornerV l (at_ (told n gs) i) n) o).map .int) := by
          rw [← List.map_set] at M4
          unfold secondV
          rw [Int.toNat_natCast]
          exact M4
        obtain ⟨B15, sb15, S, r15, ot⟩ := M4.frz2 S k2
        have M2 := ot q2 _ ne2 M2
        have M3 := ot q3 _ ne3 M3
        have E := (E.mono (sb14.trans sb15)).re 12 rfl (R := K3.IsD (encI (secondV (cornerV l (at_ (told n gs) i) n) o))) r15
        refine ws_no S (EvT.cast (et_or2 (et_not (et_val (ev_isRT (T_free T) (T_free T) (ev_v E 9) kit_tup))) fun _ => et_cmp (cm_neA hr (daL2 M2 M3) daD (ii_shp [cornerV l (at_ (told n gs) i) n, secondV (cornerV l (at_ (told n gs) i) n) o]) (ii_shp [cornerV l (at_ (told n gs) i) n, secondV (cornerV l (at_ (told n gs) i) n) o])) (ev_listRT (T_free T) (ev_v E 9)) (EvM.ev (em_lst [encI (cornerV l (at_ (told n gs) i) n), encI (secondV (cornerV l (at_ (told n gs) i) n) o)] (ea2 (ev_v E 11) (ev_v E 12)) (Nat.le_of_ble_eq_true rfl)))) (by
          show (!true || !PyData.eqv (encII [cornerV l (at_ (told n gs) i) n, secondV (cornerV l (at_ (told n gs) i) n) o]) (encII [cornerV l (at_ (told n gs) i) n, secondV (cornerV l (at_ (told n gs) i) n) o])) = false
          rw [ii_eqv]; simp)) fun B16 H16 s16 S => ?_
        have E := E.mono s16.b
        have M2 := M2.mono s16
        have M3 := M3.mono s16
        obtain ⟨f1, f2⟩ := first_le wf hlf
        obtain ⟨g1, g2⟩ := second_le (x := secondV (cornerV l (at_ (told n gs) i) n) o) wf hlf hlo o0 (by omega) rfl
        have v1 := val_eq G.vg cl i0 (by omega) f1 f2
        have v2 := val_eq G.vg cl2 i0 (by omega) g1 g2
        obtain ⟨fdc, hb, FC⟩ := cm_call (P := P) (w := w) (base := base) T n gs (secondV (cornerV l (at_ (told n gs) i) n) o) G.n1 G.n2 G.vg cl2
        refine ws_no S (EvT.cast (et_cmp (cm_neD hr (i_shp [0, 1]) (i_shp [0, 1])) (EvM.ev (em_lst [.int 0, .int 1] (ea2 (Ev.cast (ev_ixL (ev_call (cl_L_run T n gs (cornerV l (at_ (told n gs) i) n) G.vg cl (by omega)) hr (ea2 (ev_v E 2) (ev_v E 11))) (ev_v E 5) (atI_int i0 (by rw [run_len, Int.toNat_natCast]; omega))) (congrArg PyData.int v1)) (Ev.cast (ev_ixL (EvM.ev (ev_callO (call_N T) hb FC hr (ev_v E 1) (ea1 (ev_v E 12)))) (ev_v E 5) (atI_int i0 (by rw [run_len, Int.toNat_natCast]; omega))) (congrArg PyData.int v2))) (Nat.le_of_ble_eq_true rfl))) (EvM.ev (em_lst [.int 0, .int 1] (ea2 ev_int ev_int) (Nat.le_of_ble_eq_true rfl)))) (by rw [i_eqv]; rfl)) fun B17 H17 s17 S => ?_
        have E := E.mono s17.b
        have M2 := M2.mono s17
        have M3 := M3.mono s17
        refine ws_clear S M2 h2 (ev_ixRT (ev_v E 9) ev_int (atI_ok (Int.le_refl 0) rfl)) (fun B18 H18 sb18 S M2 ot => ?_)
        have E := E.mono sb18
        have M3 := ot q3 _ (Ne.symm hne) M3
        refine ws_app S M3 h3 (ev_ixRT (ev_v E 9) ev_int (atI_ok (by decide) rfl)) ev_int (by rw [List.length_map, cl2]; omega) (fun B19 H19 sb19 S M3 _ => ?_)
        have E := E.mono sb19
        have sbX : Same B7 B19 := s89.b.trans (s10.b.trans (s11.b.trans (s12.b.trans (s13.b.trans (sb14.trans (sb15.trans (s16.b.trans (s17.b.trans (sb18.trans sb19)))))))))
        refine ws_no S (EvT.cast (et_cmp (cm_neD hr (p2_shp (cornerV l (at_ (told n gs) i) n) (secondV (cornerV l (at_ (told n gs) i) n) o)) (p2_shp (cornerV l (at_ (told n gs) i) n) (secondV (cornerV l (at_ (told n gs) i) n) o))) (Ev.cast ((ew_callK3 (cl_shown T n gs i o G F i0 (by omega) o0 (by omega)).2 hr (ev_v E 8) (ev_v E 5) (ev_v E 1)).ev (frz_pair _)) (by rw [eo]; rfl)) (ev_tup [encI (cornerV l (at_ (told n gs) i) n), encI (secondV (cornerV l (at_ (told n gs) i) n) o)] (ea2 (ev_v E 11) (ev_v E 12)) (Nat.le_of_ble_eq_true rfl))) (by rw [p2_eqv]; simp)) fun B20 H20 s20 S => ?_
        exact ws_nil (ws_nil ⟨B20, sbX.trans s20.b, S, (E.mono s20.b).to, trivial⟩)
      · rw [shown_out hm] at w
        obtain rfl : v = .non := w
        have E := E.set (i := 9) (R := K3.IsD .none) (v := .non) .non
        refine ws_ifF S (EvT.cast (et_cmp (cm_inI lsL) (ev_v E 8) (ev_v E 6)) (decide_eq_false hm)) (fun B10 H10 s10 S => ?_)
        have E := E.mono s10.b
        refine ws_no S (et_cmp cm_notN (ev_v E 9) ev_non) fun B11 H11 s11 S => ?_
        exact ws_nil (ws_nil ⟨B11, s89.b.trans (s10.b.trans s11.b), S, (E.mono s11.b).to, trivial⟩)
    · refine ws_lcY (xs := List.range n) (enc := fun (j : Nat) => PyData.int (j : Int)) (P := fun d => ∃ z : Int, d = .int z) (own := [("_law_lane_now", 5)]) S2 E2 13 (by rw [← er]; exact (wk_range (T_free T) (ev_v E2 4) (by omega) (by omega)).s) rfl sc_L_hung_right.nd (blkOk_by (own := [("_law_lane_now", 5)]) (N := N_L_hung_right) (sc := defScope s_L_hung_right) (by decide +kernel)) (fun _ _ _ _ _ => pg_name (i := 5) sc_L_hung_right.nd rfl (by first | exact Or.inl rfl | exact Or.inr rfl)) (fun x _ => tg1)
        (fun s0 H0 C cl fp x σ1 B1 H1 hx s1 E1 => ev_ofI (pr := fun d => ∃ z : Int, d = .int z) (xp_subR (P' := fun _ => True) (ev_callP (cl_L_draw T p 41 (by decide) (by decide)) hr (ea2 (ev_v E1 0) ev_int)) ev_int fun _ _ => trivial) fun z _ => ⟨z, rfl⟩) (by rw [List.length_range]; omega) (fun q1 ds B3 H3 s3 S3 n1 n2 hl hp M E3 => ?_)
      obtain ⟨zs, rfl, _⟩ := dec_all (P := fun _ : Int => True) (enc := PyData.int) (ds := ds) fun d hd => let ⟨z, e⟩ := hp d hd; ⟨z, trivial, e⟩
      rw [List.length_map, List.length_range] at hl
      obtain ⟨B4, sb4, S4, r4⟩ := M.frz S3 n2
      have E4 := (E3.mono sb4).re 13 rfl (R := K3.IsD (encI zs)) r4
      refine ws_ret S4 (ev_callP (cl_L_still_right T p n gs zs G F hl) hr (ea_cons (ev_v E4 0) (ea3 (ev_v E4 1) (ev_v E4 3) (ev_v E4 13)))) q
end
end K3
/-! TEXT K21f -/
set_option Elab.async false
set_option linter.all false
set_option maxRecDepth 100000
set_option maxHeartbeats 1000000
/-! defs that may print lists: no repr is under way where they are called -/
namespace K3
open PySem PySem.Spec L2
section
variable {m : Option Addr} {X : Cx} {e a b c o i : Expr} {es : List Expr} {σ : L2.St} {B H B' H' B0 H0 : Hp} {R R1 R2 R3 : Rt} {Rs : List Rt} {pos p1 p2 p3 apos cpos : Pos} {Γ : List (Option Rt)} {d d1 d2 : PyData} {ds : List PyData} {x y f mt : Str} {k n : Nat} {rest : List Stmt} {D : Ends} {p q C : Addr} {ps fs : List Str} {W : WK} {sp sp' : Sp}
/-- x, y = a, b: b an answer with own lists inside -/
theorem ws_parW {px py pt : Pos} {kt k2 : Nat} {pt2 : Pos} (S : Stp m B0 H0 B H) (E : Sl σ B Γ) (i j : Nat) [mr1 : Mn R1] (ha : Ev m X a σ B H R1) (hb : EvW m X b σ B H W)
    (k : ∀ u v B1 H1 B' H', Stp m B H B1 H1 → Stp none B1 H1 B' H' → Stp m B H B' H' → Stp m B0 H0 B' H' → R1 u B' → W v H1 B' H' → Sl (σ.set i (some u)) B' (Γ.set i (some R1)) → wSs X rest D ((σ.set i (some u)).set j (some v)) H')
    (hN : X.N.Nodup) (hc : X.calm = true := by rfl) (hi : X.N[i]? = some x := by rfl) (hj : X.N[j]? = some y := by rfl) (hij : i ≠ j := by decide) (hx : X.env.scope.names.lookup x = some .local := by rfl) (hy : X.env.scope.names.lookup y = some .local := by rfl)
    (hw : swappedStores [.Tuple [.Name x px, .Name y py] kt pt] (.Tuple [a, b] k2 pt2) X.env = pure (some [x, y]) := by rfl) (hs : swapsWithSole [.Tuple [.Name x px, .Name y py] kt pt] (.Tuple [a, b] k2 pt2) pos.line X.env = pure false := by rfl)
    (hst : starEach (a :: [b]) X.env = (false, eval a X.env) :: starEach [b] X.env := by rfl) (hst2 : starEach [b] X.env = (false, eval b X.env) :: starEach [] X.env := by rfl) :
    wSs X (.Assign [.Tuple [.Name x px, .Name y py] kt pt] (.Tuple [a, b] k2 pt2) pos :: rest) D σ H :=
  ws_cons (ps_par hc hN hi hj hij hx hy (pa_cons pe_w (pa_cons pe_w pa_nil hst2) hst) hw hs) (ha B H S.here _ fun u B1 H1 s1 r1 => hb B1 H1 s1 _ fun v B2 H2 B3 H3 s2 s3 w =>
    have st := s2.trans (s3.up s2.p)
    ⟨u, v, rfl, k u v B2 H2 B3 H3 (s1.trans s2) s3 (s1.trans st) (S.trans (s1.trans st)) (mr1.mn u _ _ st.b r1) w ((E.mono (s1.trans st).b).set (mr1.mn u _ _ st.b r1))⟩)
/-! ### repr of a bool -/
def boolS (b : Bool) : Str := if b then "True" else "False"
theorem call_reprB : CallR X (.builtin "repr") (fun xs H Q => ∃ b, xs = [.bl b] ∧ Q (.str (boolS b)) H) := by
  intro pins s σ H xs us Q I r h
  obtain ⟨b, rfl, q⟩ := h
  obtain ⟨u, rfl, rx⟩ := vals1 r
  obtain rfl : u = Value.bool b := rx
  exact PySem.P.repr_of_bool ⟨.str (boolS b), H, I.tok _, ⟨_, rfl⟩, q⟩
theorem ev_reprB {b : Bool} (hm : X.mg "repr" = none) (h : Ev m X e σ B H (K3.IsD (.bool b))) (hg : Gl X "repr" := by rfl) (hst : starEach [e] X.env = (false, eval e X.env) :: starEach [] X.env := by rfl) : Ev m X (.Call (.Name "repr" p1) [e] [] pos) σ B H (K3.IsD (.str (boolS b))) :=
  ev_blt call_reprB hm PyProof.Rows.boot_repr (ea1 h hst) (fun vs B1 H1 Q s1 r q => by
    obtain ⟨v, rfl, r5⟩ := args1 r
    exact ⟨b, by rw [Dq.bl_eq r5], q _ B1 H1 s1.here (.str _)⟩) hg (he := hst)
/-! ### repr of a list of data -/
theorem call_reprD (hgd : X.A.guards = some []) (hr : Room n X.A) : CallR X (.builtin "repr") (fun xs H Q => ∃ a d B, xs = [.ref a] ∧ Same B H ∧ Dq B (.ref a) d ∧ d.canLay0 = true ∧ d.depth ≤ 60 ∧ d.showable = true ∧ d.shown.length ≤ sizeLine ∧ Q (.str d.shown) H) := by
  intro pins s σ H xs us Q I r h
  obtain ⟨a, d, B, rfl, sb, rv, can, dep, sh, sz, q⟩ := h
  obtain ⟨u, rfl, rx⟩ := vals1 r
  obtain rfl : u = Value.ref a := rx
  obtain ⟨as, rd⟩ := Dp.reads I d _ _ (dq_dp d _ (rv.mono sb) can) (show RelV (.ref a) (.ref a) from rfl)
  exact repr_of_reads' rd sh (PyData.noDict_hsm (PyData.hasDict_of_canLay d can)) hgd (by have := hr.un; omega) (fun _ _ e => e) (fun h' u tk hk => ⟨.str d.shown, H, I.kept hk, ⟨_, rfl⟩, q⟩) sz
theorem ev_reprD (hgd : X.A.guards = some []) (hr : Room n X.A) (hm : X.mg "repr" = none) (h : Ev m X e σ B H (K3.IsD (.list ds))) (can : (PyData.list ds).canLay0 = true) (dep : (PyData.list ds).depth ≤ 60) (sh : (PyData.list ds).showable = true) (sz : (PyData.list ds).shown.length ≤ sizeLine) (hg : Gl X "repr" := by rfl) (hst : starEach [e] X.env = (false, eval e X.env) :: starEach [] X.env := by rfl) :
    Ev m X (.Call (.Name "repr" p1) [e] [] pos) σ B H (K3.IsD (.str (PyData.list ds).shown)) :=
  ev_blt (call_reprD hgd hr) hm PyProof.Rows.boot_repr (ea1 h hst) (fun vs B1 H1 Q s1 r q => by
    obtain ⟨v, rfl, r5⟩ := args1 r
    obtain ⟨a, xs, rfl, h1, h2⟩ := Dq.lst_ex r5
    exact ⟨a, .list ds, B1, rfl, s1.s, .lst h1 h2, can, dep, sh, sz, q _ B1 H1 s1.here (.str _)⟩) hg (he := hst)
/-- .. of a list that may change -/
theorem ev_reprM (hgd : X.A.guards = some []) (hr : Room n X.A) (M : Mu m B H p ds) (hm : X.mg "repr" = none) (h : Ev m X e σ B H (IsV (.ref p))) (can : (PyData.list ds).canLay0 = true) (dep : (PyData.list ds).depth ≤ 60) (sh : (PyData.list ds).showable = true) (sz : (PyData.list ds).shown.length ≤ sizeLine) (hg : Gl X "repr" := by rfl) (hst : starEach [e] X.env = (false, eval e X.env) :: starEach [] X.env := by rfl) :
    Ev m X (.Call (.Name "repr" p1) [e] [] pos) σ B H (K3.IsD (.str (PyData.list ds).shown)) :=
  ev_blt (call_reprD hgd hr) hm PyProof.Rows.boot_repr (ea1 h hst) (fun vs B1 H1 Q s1 r q => by
    obtain ⟨v, rfl, r5⟩ := args1 r
    obtain rfl : v = .ref p := r5
    exact ⟨p, .list ds, H1, rfl, Same.refl _, daM M _ B1 H1 s1 rfl, can, dep, sh, sz, q _ B1 H1 s1.here (.str _)⟩) hg (he := hst)
/-! ### a def's promise where no repr is under way -/
structure FnOg (P : Program) (w : World) (K : PySem.W.Frag) (mg : Str → Option Value) (base : Heap) (k : Nat) (f : Addr) (fd : FuncData) (ps : List Str) (sp : Sp) : Prop where
  len : ∀ vs H Q E, sp vs H Q E → vs.length = ps.length
  go : ∀ (A : Around) (out : List PySem.Env) (st : Shared) (H : Hp) (as : PySem.Args) (us : List Value) (vs : List V) (Q : VK) (E : XK), Room k A → A.guards = some [] → Env0 P w K mg base A out st H → BindsTo st fd as (ps.zip us) → Vals vs us → sp vs H Q E → codeAny (model P w) A (.call (.ref f) as) (CR CX0 out P w H st Q E) st
theorem FnOg.any {P : Program} {w : World} {K : PySem.W.Frag} {mg : Str → Option Value} {base : Heap} {f : Addr} {fd : FuncData} {α : Type} {spA : α → Sp} (h : ∀ a, FnOg P w K mg base k f fd ps (spA a)) : FnOg P w K mg base k f fd ps (fun vs H Q E => ∃ a, spA a vs H Q E) :=
  ⟨fun vs H Q E ⟨a, z⟩ => (h a).len vs H Q E z, fun A out st H as us vs Q E h1 h2 h3 h4 h5 ⟨a, z⟩ => (h a).go A out st H as us vs Q E h1 h2 h3 h4 h5 z⟩
structure ClG (P : Program) (w : World) (K : PySem.W.Frag) (mg : Str → Option Value) (base : Heap) (x : Str) (ps : List Str) (k : Nat) (sp : Sp) : Prop where
  ex : ∃ (f : Addr) (fd : FuncData), mg x = some (.ref f) ∧ PySem.W.keepIn K (.ref f) = true ∧ Binds K fd ps [] ∧ FnOg P w K mg base k f fd ps sp
/-- a body keeps the promise -/
theorem fn_G {P : Program} {w : World} {K : PySem.W.Frag} {mg : Str → Option Value} {base : Heap} {xn qual : Str} {st : Stmt} {fa : Addr} {fd : FuncData} {dvs : List V} {kws : List (Str × V)} {N : List Str} (F : FunD K xn qual (defArgs st) (defBody st) (defScope st) dvs kws fa fd) (S : FnScope N ps (defScope st)) (len : ∀ vs H Q E, sp vs H Q E → vs.length = ps.length)
    (body : ∀ cdv A outer s H vs (Q : VK) E, Room k (XO P w K mg base N qual st fa cdv A outer s H E).A → A.guards = some [] → sp vs H Q E → wSs (XO P w K mg base N qual st fa cdv A outer s H E) (defBody st) { nx := fun _ H' => Q .non H', rt := Q } (L2.start N vs) H) : FnOg P w K mg base (k + 1) fa fd ps sp := by
  obtain ⟨c1, c2, dfs, kds, doc, pmv, ann, cdv, ctv, slots, rfl, look, hcode, _, _⟩ := F.ex
  refine ⟨len, fun A out sh H as us vs Q E room hgd en bd rv z => ?_⟩
  have up : ∀ b o, base.get? b = some o → sh.heap.get? b = some o := fun b o e => (en.bs b o e).1
  have inK := en.mod.kin.keeps up
  refine codeAny_call_function room.depth (inK _ _ look) rfl S.co S.gen rfl (PySem.W.codeRec_of inK hcode) (bd _ _ _ _ ?_)
  refine wpAny_newFunctionEnv_cells S.kind (fun nv hv => (S.par nv.1 (List.of_mem_zip hv).1).imp id fun c => ⟨c, PySem.W.cellsFrom_some _ _ _ (.inl c)⟩) fun env eq s1 fr => ?_
  subst eq
  refine ⟨(en.mod.nolimit.keeps up).keeps fr.toInCall.keep, codeAny_func ?_⟩
  have J := inv_start (CX := CX0) (E := E) S room.hd en (len _ _ _ _ z) rv fr
  refine wpAny_mono ((PSs.nox pss_w : PSs (cxOf CX0 P w K mg base N qual (defScope st) fa cdv A out sh H E) (defBody st) _).run [] s1 (L2.start N vs) H _ J (body cdv A out sh H vs Q E (room.deeper _) hgd z)) (fun fl s2 hs => ?_) fun _ _ h => h
  cases fl with
  | ret u => exact let ⟨v, _, H', Z, r, q⟩ := hs; ⟨v, H', Z.os, Z.bare, Z.base, Z.hok, r, q⟩
  | next => exact let ⟨_, H', Z, q⟩ := hs; ⟨V.non, H', Z.os, Z.bare, Z.base, Z.hok, rfl, q⟩
  | brk => exact let ⟨_, _, _, z⟩ := hs; False.elim z
  | cont => exact let ⟨_, _, _, z⟩ := hs; False.elim z
theorem fn_okG {P : Program} {w : World} {K : PySem.W.Frag} {mg : Str → Option Value} {base : Heap} {xn qual : Str} {st : Stmt} {fa : Addr} {fd : FuncData} {dvs : List V} {kws : List (Str × V)} {N : List Str} [Mns Rs] (F : FunD K xn qual (defArgs st) (defBody st) (defScope st) dvs kws fa fd) (S : FnScope N ps (defScope st)) (hl : Rs.length = ps.length)
    (body : ∀ cdv A outer s E B H vs (Q : VK), Room k (XO P w K mg base N qual st fa cdv A outer s H E).A → (XO P w K mg base N qual st fa cdv A outer s H E).A.guards = some [] → Stp m B H B H → Sl (L2.start N vs) B (Rs.map some ++ List.replicate (N.length - Rs.length) none) → (∀ v B' H', Stp m B H B' H' → R v B' → Q v H') →
      wSs (XO P w K mg base N qual st fa cdv A outer s H E) (defBody st) { nx := fun _ H' => Q .non H', rt := Q } (L2.start N vs) H) : FnOg P w K mg base (k + 1) fa fd ps (spD m Rs R) :=
  fn_G F S (fun vs H Q E ⟨_, _, _, a, _⟩ => by rw [a.len, hl]) fun cdv A outer s H vs Q E hr hgd ⟨B, sb, hp, a, q⟩ => body cdv A outer s E B H vs Q hr hgd (Stp.refl sb hp) (sl_start a) q
/-! ### such a def is called -/
theorem run_G {pins : List (Addr × Obj)} {s : Shared} {g : Addr} {fd : FuncData} {Q : VK} {us : List Value} {vs : List V} {A : Around} (F : FnOg X.prog X.w X.K X.mg X.base k g fd ps sp) (hA : Room k A) (hgd : A.guards = some []) (en : ∀ {s H}, Inv X pins σ H s → Env0 X.prog X.w X.K X.mg X.base A X.stack s H) (hb : Binds X.K fd ps []) (I : Inv X pins σ H s) (r : Vals vs us) (h : sp vs H Q fun _ _ _ => False) :
    wpAny (model X.prog X.w) A (call (.ref g) us) (EP X pins σ Q) X.xe s := by
  have hl : (us ++ []).length = ps.length := by rw [List.append_nil, ← r.length, F.len _ _ _ _ h]
  have hbd := hb s us I.kIn hl
  rw [List.append_nil] at hbd
  refine wpAny_call (codeAny_mono (F.go A X.stack s H ⟨us, []⟩ us vs Q _ hA hgd (en I) hbd r h) fun res s2 z => ?_)
  cases res with
  | error _ => exact False.elim z
  | ok fl => cases fl with
    | ret u => exact I.after z
    | next => exact False.elim z
    | brk => exact False.elim z
    | cont => exact False.elim z
theorem wcallG0 {t : TA} {Q : VK} (G : ClG X.prog X.w X.K X.mg X.base x ps k sp) (hr : Room n X.A) (hgd : X.A.guards = some []) (ha : PA X (e :: es) t) (q : t σ H fun vs H2 => sp vs H2 Q fun _ _ _ => False) (hk : k ≤ n := by decide) (hg : Gl X x := by rfl) (hdb : (x == ("__debug__" : Str)) = false := by decide) (he : starEach (e :: es) X.env = (false, eval e X.env) :: starEach es X.env := by rfl)
    (hpl : (backTo pos (starEach es X.env)).any (·.1) = false := by rfl) : wE X (.Call (.Name x p1) (e :: es) [] pos) σ H Q := fun pins s I => by
  obtain ⟨g, fd, h1, h2, h3, h4⟩ := G.ex
  refine wpAny_Call_Name_kw (ld_glob I hg h1 (PySem.W.callWith_K (h₀ := X.base) I.ok.mod.kin h2 (thn (ha.run pos pins s σ H _ I q) fun us s1 ⟨vs, H1, I1, r, z⟩ => ⟨I1.kIn, ?_⟩) he hpl) hdb)
  exact run_G h4 (hr.mono hk) hgd (fun J => J.env0) h3 I1 r z
theorem ev_callG (G : ClG X.prog X.w X.K X.mg X.base x ps k (spD none Rs R)) (hr : Room n X.A) (hgd : X.A.guards = some []) (ha : EvA m X (e :: es) σ B H Rs) (hk : k ≤ n := by decide) (hg : Gl X x := by rfl) (hdb : (x == ("__debug__" : Str)) = false := by decide) (he : starEach (e :: es) X.env = (false, eval e X.env) :: starEach es X.env := by rfl)
    (hpl : (backTo pos (starEach es X.env)).any (·.1) = false := by rfl) : Ev m X (.Call (.Name x p1) (e :: es) [] pos) σ B H R := fun B1 H1 s1 Q q =>
  wcallG0 G hr hgd pa_w (ha B1 H1 s1 _ fun vs B2 H2 s2 r => ⟨B2, s2.s, pot0, r, fun v B3 H3 s3 rv => q v B3 H3 (s2.trans (s3.up s2.p)) rv⟩) hk hg hdb he hpl
theorem ev_callGP {p : Addr} (G : ClG X.prog X.w X.K X.mg X.base x ps k (spD (some p) Rs R)) (hr : Room n X.A) (hgd : X.A.guards = some []) (ha : EvA (some p) X (e :: es) σ B H Rs) (hk : k ≤ n := by decide) (hg : Gl X x := by rfl) (hdb : (x == ("__debug__" : Str)) = false := by decide) (he : starEach (e :: es) X.env = (false, eval e X.env) :: starEach es X.env := by rfl)
    (hpl : (backTo pos (starEach es X.env)).any (·.1) = false := by rfl) : Ev (some p) X (.Call (.Name x p1) (e :: es) [] pos) σ B H R := fun B1 H1 s1 Q q =>
  wcallG0 G hr hgd pa_w (ha B1 H1 s1 _ fun vs B2 H2 s2 r => ⟨B2, s2.s, s2.p, r, fun v B3 H3 s3 rv => q v B3 H3 (s2.trans s3) rv⟩) hk hg hdb he hpl
/-- repr(x) of an instance with a __repr__ of its own -/
theorem call_reprG {g : Addr} {fd : FuncData} {j : Str} (hs : PySem.W.findIn X.K (.ref C) "__repr__" = some (some (.ref g))) (hf : PySem.W.isFn X.K (.ref g) = true) (hb : Binds X.K fd ps []) (F : FnOg X.prog X.w X.K X.mg X.base k g fd ps (spD none [K3.IsD (insD C fs ds)] (K3.IsD (.str j)))) (hr : Room (k + 1) X.A) (hgd : X.A.guards = some []) (hlen : fs.length = ds.length) :
    CallR X (.builtin "repr") (fun vs H Q => ∃ v B, vs = [v] ∧ Same B H ∧ Dq B v (insD C fs ds) ∧ ∀ B' H', Stp none B H B' H' → Q (.str j) H') := by
  intro pins s σ H xs us Q I r h
  obtain ⟨v, B, rfl, sb, rv, q⟩ := h
  obtain ⟨a, dx, vs, rfl, k1, k2⟩ := Dq.ins_ex hlen rv
  obtain ⟨u, rfl, rx⟩ := vals1 r
  obtain rfl : u = Value.ref a := rx
  obtain ⟨mA, O, _⟩ := ins_get I.hok (sb _ _ k1)
  obtain ⟨od, J, _⟩ := O.look
  obtain ⟨mm, hF⟩ := I.fr
  refine PySem.W.repr_K (by have := hr.un; show X.A.units + 1 < _; omega) hF I.ok.mod.kin J hs hf ?_
  refine thn (run_G F hr.in1 hgd (fun J => J.env0.in1) hb I (us := [.ref a]) (vs := [.ref a]) (Q := fun v H' => v = .str j ∧ Q (.str j) H') (.cons rfl .nil) ⟨B, sb, pot0, ⟨rv, trivial⟩, fun v B' H' s' r' => ⟨Dq.str_eq r', q B' H' s'⟩⟩) fun u s' z => ?_
  obtain ⟨v, H', I', rv', e, qq⟩ := z
  subst e
  obtain ⟨t, rfl⟩ := rv'
  exact ⟨.str j, H', I', ⟨_, rfl⟩, qq⟩
theorem ev_reprG {g : Addr} {fd : FuncData} {j : Str} (hs : PySem.W.findIn X.K (.ref C) "__repr__" = some (some (.ref g))) (hf : PySem.W.isFn X.K (.ref g) = true) (hb : Binds X.K fd ps []) (F : FnOg X.prog X.w X.K X.mg X.base k g fd ps (spD none [K3.IsD (insD C fs ds)] (K3.IsD (.str j)))) (hr : Room n X.A) (hgd : X.A.guards = some [])
    (hm : X.mg "repr" = none) (h : Ev m X e σ B H (K3.IsD (insD C fs ds))) (hk : k + 1 ≤ n := by decide) (hlen : fs.length = ds.length := by rfl) (hg : Gl X "repr" := by rfl) (hst : starEach [e] X.env = (false, eval e X.env) :: starEach [] X.env := by rfl) : Ev m X (.Call (.Name "repr" p1) [e] [] pos) σ B H (K3.IsD (.str j)) :=
  ev_blt (call_reprG hs hf hb F (hr.mono hk) hgd hlen) hm PyProof.Rows.boot_repr (ea1 h hst) (fun vs B1 H1 Q s1 r q => by
    obtain ⟨v, rfl, r5⟩ := args1 r
    exact ⟨v, B1, rfl, s1.s, r5, fun B' H' s' => q _ B' H' (s'.up s1.p) (.str _)⟩) hg (he := hst)
/-! ### f-strings -/
theorem ev_fmtI {j : Int} (hz : j.natAbs.log2 < 1920) (h : Ev m X e σ B H (K3.IsD (.int j))) : Ev m X (.FormattedValue e (-1) none pos) σ B H (K3.IsD (.str (toString j))) :=
  ev_by (pe_fmt pe_w) fun B1 H1 s1 Q q => h B1 H1 s1 _ fun v B2 H2 s2 r => .inr ⟨j, Dq.int_eq r, hz, q _ B2 H2 s2 (.str _)⟩
/-- {x!r} of a list -/
theorem ev_fmtRD (hgd : X.A.guards = some []) (hr : Room n X.A) (h : Ev m X e σ B H (K3.IsD (.list ds))) (can : (PyData.list ds).canLay0 = true) (dep : (PyData.list ds).depth ≤ 60) (sh : (PyData.list ds).showable = true) (sz : (PyData.list ds).shown.length ≤ sizeLine) : Ev m X (.FormattedValue e 114 none pos) σ B H (K3.IsD (.str (PyData.list ds).shown)) := fun B1 H1 s1 Q q pins s I =>
  wpAny_FormattedValue_repr (thn (h B1 H1 s1 (fun v H2 => ∃ B2, Stp m B1 H1 B2 H2 ∧ K3.IsD (.list ds) v B2) (fun v B2 H2 s2 r => ⟨B2, s2, r⟩) pins s I) fun u s2 hv => by
    obtain ⟨v, H2, I2, rx, B2, s3, rv⟩ := hv
    obtain ⟨a, xs, rfl, h1, h2⟩ := Dq.lst_ex rv
    obtain rfl : u = Value.ref a := rx
    obtain ⟨as, rd⟩ := Dp.reads I2 (.list ds) _ _ (dq_dp (.list ds) _ ((Dq.lst h1 h2).mono s3.s) can) (show RelV (.ref a) (.ref a) from rfl)
    exact pyReprObj_of_reads rd sh (PyData.noDict_hsm (PyData.hasDict_of_canLay _ can)) hgd (by have := hr.un; omega) (fun _ _ e => e) (fun h' u tk hk => wpAny_formatField_str ⟨.str (PyData.list ds).shown, H2, I2.kept hk, ⟨_, rfl⟩, q _ B2 H2 s3 (.str _)⟩ ⟨.str (PyData.list ds).shown, H2, (I2.kept hk).tok _, ⟨_, rfl⟩, q _ B2 H2 s3 (.str _)⟩ sz) sz)
end
section
variable {P : Program} {w : World} {K : PySem.W.Frag} {mg : Str → Option Value} {base : Heap} {ps : List Str} {k : Nat} {sp : Sp} {x : Str}
theorem clg_mk (T : Tx K mg) {d : He.DefD} (i : Nat) (h : fnL[i]? = some d) (ha : d.at_ = (x, none)) (hd : d.dfl = []) (hk : d.kwd = []) (hx : x ∈ gloL)
    (hb : ∀ (kV doc pm : Value) (an : Option Addr) (cdv ct : Value) (us : List Value), us.length = ps.length → bindArgs (PySem.W.fnOf d.name d.qual d.params d.body d.scope .none kV doc pm an cdv ct) ⟨us, []⟩ = pure (ps.zip us))
    (hf : ∀ f fd, FunD K d.name d.qual d.params d.body d.scope [] [] f fd → FnOg P w K mg base k f fd ps sp) : ClG P w K mg base x ps k sp := by
  obtain ⟨fd, F⟩ := T.c.d.def_ i h
  have e1 : d.dvs K = [] := by unfold He.DefD.dvs; rw [hd]; rfl
  have e2 : d.kws K = [] := by unfold He.DefD.kws; rw [hk]; rfl
  rw [e1, e2] at F
  have e3 : He.fAd K d.at_ = He.ga K x := by rw [ha]; rfl
  rw [e3] at F
  exact ⟨_, fd, T.glo x hx, F.kp, F.bindsN hb, hf _ _ F⟩
theorem cmg_mk {C mt : Str} (T : Tx K mg) {d : He.DefD} (i : Nat) (h : fnL[i]? = some d) (ha : d.at_ = (C, some mt)) (hd : d.dfl = []) (hk : d.kwd = [])
    (hb : ∀ (kV doc pm : Value) (an : Option Addr) (cdv ct : Value) (us : List Value), us.length = ps.length → bindArgs (PySem.W.fnOf d.name d.qual d.params d.body d.scope .none kV doc pm an cdv ct) ⟨us, []⟩ = pure (ps.zip us))
    (hf : ∀ f fd, FunD K d.name d.qual d.params d.body d.scope [] [] f fd → FnOg P w K mg base k f fd ps sp) : ∃ fd, Binds K fd ps [] ∧ FnOg P w K mg base k (He.ma K (He.ga K C) mt) fd ps sp := by
  obtain ⟨fd, F⟩ := T.c.d.def_ i h
  have e1 : d.dvs K = [] := by unfold He.DefD.dvs; rw [hd]; rfl
  have e2 : d.kws K = [] := by unfold He.DefD.kws; rw [hk]; rfl
  rw [e1, e2] at F
  have e3 : He.fAd K d.at_ = He.ma K (He.ga K C) mt := by rw [ha]; rfl
  rw [e3] at F
  exact ⟨fd, F.bindsN hb, hf _ _ F⟩
end
end K3
/-! TEXT G13 -/
set_option Elab.async false
set_option linter.all false
set_option maxRecDepth 100000
set_option maxHeartbeats 1000000
namespace K3
open PySem PySem.Spec L2
section
variable {P : Program} {w : World} {K : PySem.W.Frag} {mg : Str → Option Value} {base : Heap}
/-! families apart -/
theorem diffAt_sym (n : Nat) (t t' : List Fam) : diffAt n t t' = diffAt n t' t := by
  unfold diffAt
  congr 1
  funext i
  rw [decide_eq_decide]
  exact ⟨Ne.symm, Ne.symm⟩
theorem diffAt_some {n j : Nat} {t t' : List Fam} (h : diffAt n t t' = some j) : j < n ∧ at_ t (j : Nat) ≠ at_ t' (j : Nat) ∧ ∀ k : Nat, k < j → at_ t (k : Nat) = at_ t' (k : Nat) := by
  unfold diffAt at h
  obtain ⟨h1, h2, h3⟩ := List.find?_range_eq_some.mp h
  exact ⟨List.mem_range.mp h2, of_decide_eq_true h1, fun k hk => by simpa using h3 k hk⟩
theorem diffAt_none {n : Nat} {t t' : List Fam} (h1 : t.length = n) (h2 : t'.length = n) (h : diffAt n t t' = none) : t = t' := by
  unfold diffAt at h
  have h := List.find?_range_eq_none.mp h
  refine List.ext_getElem (h1.trans h2.symm) fun i a b => ?_
  have e := h i (by omega)
  have e : at_ t (i : Nat) = at_ t' (i : Nat) := by simpa using e
  unfold at_ at e
  rw [Int.toNat_natCast, List.getD_eq_getElem?_getD, List.getD_eq_getElem?_getD, List.getElem?_eq_getElem a, List.getElem?_eq_getElem b] at e
  exact e
theorem unlike_some {n : Nat} {t t' : List Fam} {i : Int} {x : List Int} (h : unlikeO n t t' = some (i, x)) : ∃ (j : Nat) (z : Lot × Fam), i = (j : Int) ∧ j < n ∧ at_ t (j : Nat) ≠ at_ t' (j : Nat) ∧ (∀ k : Nat, k < j → at_ t (k : Nat) = at_ t' (k : Nat)) ∧ diffAt n t t' = some j ∧ apart2 (at_ t (j : Nat)) (at_ t' (j : Nat)) = some z ∧ x = cornerV z.1 z.2 n := by
  unfold unlikeO at h
  cases q : diffAt n t t' with
  | none => rw [q] at h; cases h
  | some j =>
    rw [q] at h
    obtain ⟨h1, h2, h3⟩ := diffAt_some q
    cases qz : apart2 (at_ t (j : Nat)) (at_ t' (j : Nat)) with
    | none =>
      have h : Option.map (fun z : Lot × Fam => ((j : Int), cornerV z.1 z.2 n)) (apart2 (at_ t (j : Nat)) (at_ t' (j : Nat))) = some (i, x) := h
      rw [qz] at h; cases h
    | some z =>
      have h : Option.map (fun z : Lot × Fam => ((j : Int), cornerV z.1 z.2 n)) (apart2 (at_ t (j : Nat)) (at_ t' (j : Nat))) = some (i, x) := h
      rw [qz] at h; cases h
      exact ⟨j, z, rfl, h1, h2, h3, rfl, qz, rfl⟩
theorem unlike_at {n j : Nat} {t t' : List Fam} (w1 : Wt n t) (w2 : Wt n t') (h : diffAt n t t' = some j) : ∃ y, unlikeO n t t' = some ((j : Int), y) := by
  obtain ⟨h1, h2, _⟩ := diffAt_some h
  have z := apart2_ne (w1.at_ (i := (j : Nat)) (by omega) (by omega)) (w2.at_ (i := (j : Nat)) (by omega) (by omega)) h2
  obtain ⟨z, hz⟩ := Option.isSome_iff_exists.mp z
  refine ⟨cornerV z.1 z.2 n, ?_⟩
  unfold unlikeO
  rw [h]
  show Option.map (fun z : Lot × Fam => ((j : Int), cornerV z.1 z.2 n)) (apart2 (at_ t (j : Nat)) (at_ t' (j : Nat))) = _
  rw [hz]; rfl
theorem unlike_none {n : Nat} {t t' : List Fam} (w1 : Wt n t) (w2 : Wt n t') (h : unlikeO n t t' = none) : t = t' := by
  cases q : diffAt n t t' with
  | none => exact diffAt_none w1.len w2.len q
  | some j =>
    obtain ⟨y, e⟩ := unlike_at w1 w2 q
    rw [e] at h; cases h
theorem unlike_self (n : Nat) (t : List Fam) : unlikeO n t t = none := by
  unfold unlikeO
  have : diffAt n t t = none := by
    unfold diffAt
    exact List.find?_range_eq_none.mpr fun i _ => by simp
  rw [this]; rfl
theorem take_same {xs ys : List Int} {j : Nat} (hl : xs.length = ys.length) (h : ∀ k : Nat, k < j → k < xs.length → xs.getD k 0 = ys.getD k 0) : xs.take j = ys.take j := by
  refine List.ext_getElem (by rw [List.length_take, List.length_take, hl]) fun i a b => ?_
  rw [List.length_take] at a b
  have e := h i (by omega) (by omega)
  rw [List.getD_eq_getElem?_getD, List.getD_eq_getElem?_getD, List.getElem?_eq_getElem (by omega), List.getElem?_eq_getElem (by omega)] at e
  rw [List.getElem_take, List.getElem_take]
  exact e
theorem run_at_eq {n : Nat} {gs hs : List Gate} {x : List Int} {i : Int} (hg : ∀ g ∈ gs, Vg n g) (hh : ∀ g ∈ hs, Vg n g) (hx : x.length = n) (h0 : 0 ≤ i) (h1 : i < n) (h : at_ (told n gs) i = at_ (told n hs) i) : xv (runG gs x) i = xv (runG hs x) i := by
  have q : ∀ v, xv (runG gs x) i ≤ v ↔ xv (runG hs x) i ≤ v := fun v => by rw [val_le hg hx h0 h1, val_le hh hx h0 h1, h]
  exact Int.le_antisymm ((q _).mpr (Int.le_refl _)) ((q _).mp (Int.le_refl _))
theorem u_can (o : Option (Int × List Int)) : (encU o).canLay0 = true := by
  cases o with
  | none => simp [encU, PyData.canLay0]
  | some z => obtain ⟨i, x⟩ := z; have := i_can x; simp [encU, PyData.canLay0, PyData.canLayAll0, this]
theorem u_dep (o : Option (Int × List Int)) : (encU o).depth ≤ 2 := by
  cases o with
  | none => simp [encU, PyData.depth]
  | some z => obtain ⟨i, x⟩ := z; have := i_dep x; simp [encU, PyData.depth, PyData.depthAll]; omega
theorem u_shp (o : Option (Int × List Int)) : SeqAt.shaped (encU o) = true := shp (u_can o) (u_dep o)
theorem u_eqv (o : Option (Int × List Int)) : PyData.eqv (encU o) (encU o) = true := by
  cases o with
  | none => simp [encU, PyData.eqv]
  | some z =>
    obtain ⟨i, x⟩ := z
    have e := i_eqv x x
    simp [encU, PyData.eqv, PyData.eqvAll, e]
theorem b_shp (b : Bool) : SeqAt.shaped (.bool b) = true := shp (k := 0) (by simp [PyData.canLay0]) (by simp [PyData.depth])
theorem b_eqv (b : Bool) : PyData.eqv (.bool b) (.bool b) = true := by simp [PyData.eqv]
theorem frz_tl (o : Option (Int × List Int)) : Frz (WTl o) (K3.IsD (encU o)) := fun v B2 H2 B3 H3 s w => by
  cases o with
  | none =>
    obtain rfl : v = .non := w
    exact ⟨B3, Same.refl _, s, .non⟩
  | some z =>
    obtain ⟨i, xs⟩ := z
    obtain ⟨t, q1, rfl, ht, n1, M1⟩ := w
    obtain ⟨B4, sb, S4, r⟩ := M1.frz s n1
    exact ⟨B4, sb, S4, .tup (sb _ _ ht) (.cons (.int _) (.cons r .nil))⟩
theorem cl_L_pair_right (T : Tx K mg) (n : Nat) (gs hs : List Gate) (G : Gd n gs) (F : FewAll 60 n gs) (G2 : Gd n hs) (F2 : FewAll 60 n hs) : Cl P w K mg base "_law_pair_right" ["_law_net_now", "_law_other_now", "_law_rows", "_law_more"] 11 (spD none [K3.IsD (netD K n gs), K3.IsD (netD K n hs), K3.IsD (encT (told n gs)), K3.IsD (encT (told n hs))] (K3.IsD (.bool true))) :=
  cl_mk T 77 (d := d_L_pair_right) rfl rfl rfl rfl (by decide +kernel) (fun _ _ _ _ _ _ us hl => match us, hl with | [_, _, _, _], _ => rfl) fun fa fdd FF => by
    refine fn_ok FF sc_L_pair_right rfl fun cdv A outer s E0 B H vs Q hr S E q => ?_
    have hn2 := G.n2
    have w1 : Wt n (told n gs) := told_wt G.vg
    have w2 : Wt n (told n hs) := told_wt G2.vg
    have f1 := F gs.length (Nat.le_refl _)
    have f2 := F2 hs.length (Nat.le_refl _)
    rw [List.take_length] at f1 f2
    refine ws_parW S E 4 5 (R1 := K3.IsD (encU (unlikeO n (told n gs) (told n hs)))) (ev_call (cl_L_unlike T n (told n gs) (told n hs) hn2 w1 w2 f1 f2) hr (ea2 (ev_v E 2) (ev_v E 3))) (ew_call (cl_unlike T n gs hs G F G2 F2).1 hr (ea2 (ev_v E 0) (ev_v E 1))) (fun u v B1 H1 B2 H2 s1 s2 s12 S r w E => ?_) sc_L_pair_right.nd
    have e0 := u_eqv (unlikeO n (told n gs) (told n hs))
    cases eo : unlikeO n (told n gs) (told n hs) with
    | none =>
      have te := unlike_none w1 w2 eo
      rw [eo] at w E
      obtain rfl : v = .non := w
      have E := E.set (i := 5) (R := K3.IsD .none) (v := .non) .non
      refine ws_no S (EvT.cast (et_or3 (et_cmp (cm_neD hr (u_shp none) (u_shp none)) (ev_v E 5) (ev_v E 4)) (fun _ => et_cmp cm_neS (ev_reprB (T_free T) (ev_call (cl_are_alike T n gs hs G F G2 F2).1 hr (ea2 (ev_v E 0) (ev_v E 1)))) (ev_reprB (T_free T) (ev_cmp cm_isN (ev_v E 4) ev_non)))
        (fun _ _ => et_cmp (cm_neD hr (b_shp (decide (told n gs = told n hs))) (b_shp (PyData.eqv (encT (told n gs)) (encT (told n hs))))) (ev_callK2 (cl_are_alike T n gs hs G F G2 F2).2 hr (ev_v E 1) (ev_v E 0)) (ev_cmp (cm_eqD hr (t_shp (told n gs)) (t_shp (told n hs))) (ev_v E 2) (ev_v E 3)))) (by
          rw [t_eqv, b_eqv, u_eqv, decide_eq_true te]; rfl)) fun B3 H3 s3 S => ?_
      have E := E.mono s3.b
      refine ws_ifT S (et_cmp cm_isN (ev_v E 4) ev_non) fun B4 H4 s4 S => ?_
      have E := E.mono s4.b
      refine ws_ret S (Ev.cast (ev_and2 (ev_cmp cm_isN ((ew_call (cl_unlike T n hs gs G2 F2 G F).1 hr (ea2 (ev_v E 1) (ev_v E 0))).ev (frz_tl _)) ev_non) fun _ => ev_cmp (cm_eqIns1 (enc := mapD K) (fs := ["own_families"]) (fv := fun t => [.list (t.map (famD K))]) (fun _ => rfl) (fun _ => rfl) (rc_Map T rfl rfl) (hr.mono (by decide)) (by rw [w1.len, w2.len])) (ev_call (cl_map_of T n gs G F) hr (ea1 (ev_v E 0))) (ev_call (cl_map_of T n hs G2 F2) hr (ea1 (ev_v E 1)))) (by rw [te, unlike_self, decide_eq_true rfl]; rfl)) q
    | some z =>
      obtain ⟨i, x⟩ := z
      obtain ⟨j, z, rfl, hj, hne, hlt, hd, hz, hx⟩ := unlike_some eo
      have nte : ¬ told n gs = told n hs := fun e => hne (by rw [e])
      rw [eo] at w E
      obtain ⟨t, p, rfl, ht, np, M⟩ := w
      have E := E.set (i := 5) (R := RawT [.int j, .ref p]) (v := .ref t) ⟨t, rfl, ht⟩
      refine ws_no S (EvT.cast (et_or3 (et_cmp (cm_neA hr (daTi M) daD (u_shp (some ((j : Int), x))) (u_shp (some ((j : Int), x)))) (ev_v E 5) (ev_v E 4)) (fun _ => et_cmp cm_neS (ev_reprB (T_free T) (ev_call (cl_are_alike T n gs hs G F G2 F2).1 hr (ea2 (ev_v E 0) (ev_v E 1)))) (ev_reprB (T_free T) (ev_cmp cm_isN (ev_v E 4) ev_non)))
        (fun _ _ => et_cmp (cm_neD hr (b_shp (decide (told n gs = told n hs))) (b_shp (PyData.eqv (encT (told n gs)) (encT (told n hs))))) (ev_callK2 (cl_are_alike T n gs hs G F G2 F2).2 hr (ev_v E 1) (ev_v E 0)) (ev_cmp (cm_eqD hr (t_shp (told n gs)) (t_shp (told n hs))) (ev_v E 2) (ev_v E 3)))) (by
          show (!PyData.eqv (encU (some ((j : Int), x))) (encU (some ((j : Int), x))) || _) = false
          rw [t_eqv, b_eqv, u_eqv, decide_eq_false nte]; rfl)) fun B3 H3 s3 S => ?_
      have E := E.mono s3.b
      have M := M.mono s3
      refine ws_no S (et_cmp cm_isN (ev_v E 4) ev_non) fun B4 H4 s4 S => ?_
      have E := E.mono s4.b
      have M := M.mono s4
      refine ws_asgG (d := .tuple [.int j, encI x]) S E (ev_v E 4) (pg_tup rfl (pgs_cons (pg_name (i := 6) sc_L_pair_right.nd rfl (by first | exact Or.inl rfl | exact Or.inr rfl)) (pgs_cons (pg_name (i := 7) sc_L_pair_right.nd rfl (by first | exact Or.inl rfl | exact Or.inr rfl)) pgs_nil))) tg2 (fun σ' B5 H5 s5 S E => ?_)
      have M := M.mono s5
      have hxl : x.length = n := by rw [hx]; exact corner_len _ _ _
      have j0 : 0 ≤ ((j : Nat) : Int) := Int.natCast_nonneg j
      obtain ⟨fd1, hb1, FC1⟩ := cm_call (P := P) (w := w) (base := base) T n gs x G.n1 G.n2 G.vg hxl
      obtain ⟨fd2, hb2, FC2⟩ := cm_call (P := P) (w := w) (base := base) T n hs x G2.n1 G2.n2 G2.vg hxl
      have va := apart2_vals (n := n) (w1.at_ (i := (j : Nat)) (by omega) (by omega)) (w2.at_ (i := (j : Nat)) (by omega) (by omega)) hz
      rw [← hx, ← val_le G.vg hxl j0 (by omega), ← val_le G2.vg hxl j0 (by omega)] at va
      have vne : ¬ xv (runG gs x) j = xv (runG hs x) j := fun e => by rw [e] at va; rcases va with ⟨a, b⟩ | ⟨a, b⟩ <;> exact b a
      have tke : (runG gs x).take j = (runG hs x).take j := take_same (by rw [run_len, run_len]) fun k hk hkl => by
        rw [run_len] at hkl
        have e := run_at_eq G.vg G2.vg hxl (i := (k : Nat)) (by omega) (by omega) (hlt k hk)
        unfold xv at e
        rw [Int.toNat_natCast] at e
        exact e
      refine ws_no S (EvT.cast (et_or2 (et_cmp cm_eqI (ev_ixL (EvM.ev (ev_callO (call_N T) hb1 FC1 hr (ev_v E 0) (ea1 (ev_v E 7)))) (ev_v E 6) (atI_int j0 (by rw [run_len, Int.toNat_natCast]; omega))) (ev_ixL (EvM.ev (ev_callO (call_N T) hb2 FC2 hr (ev_v E 1) (ea1 (ev_v E 7)))) (ev_v E 6) (atI_int j0 (by rw [run_len, Int.toNat_natCast]; omega))))
        fun _ => et_cmp (cm_neD hr (i_shp ((runG gs x).take j)) (i_shp ((runG hs x).take j))) (Ev.cast (EvM.ev (em_slL (EvM.ev (ev_callO (call_N T) hb1 FC1 hr (ev_v E 0) (ea1 (ev_v E 7)))) eo_none (eo_some (ev_v E 6)))) (by rw [cut_to, ← List.map_take]; rfl)) (Ev.cast (EvM.ev (em_slL (EvM.ev (ev_callO (call_N T) hb2 FC2 hr (ev_v E 1) (ea1 (ev_v E 7)))) eo_none (eo_some (ev_v E 6)))) (by rw [cut_to, ← List.map_take]; rfl))) (by
          rw [i_eqv, decide_eq_true tke]
          show (decide (xv (runG gs x) j = xv (runG hs x) j) || !true) = false
          rw [decide_eq_false vne]; rfl)) fun B6 H6 s6 S => ?_
      have E := E.mono s6.b
      have M := M.mono s6
      refine ws_clear S M (s1.t p np) (ev_ixRT (ev_v E 5) ev_int (atI_ok (by decide) rfl)) (fun B7 H7 sb7 S M _ => ?_)
      have E := E.mono sb7
      have hd' := hd
      rw [diffAt_sym] at hd'
      obtain ⟨y, eo2⟩ := unlike_at w2 w1 hd'
      refine ws_ret S (Ev.cast (ev_and3 (ev_cmp (cm_eqD hr (u_shp (unlikeO n (told n gs) (told n hs))) (u_shp (some ((j : Int), x)))) ((ew_callK2 (cl_unlike T n gs hs G F G2 F2).2 hr (ev_v E 1) (ev_v E 0)).ev (frz_tl _)) (ev_v E 4))
        (fun _ => ev_cmp cm_eqI (ev_ixT (ds := [.int (j : Int), encI y]) (Ev.cast ((ew_call (cl_unlike T n hs gs G2 F2 G F).1 hr (ea2 (ev_v E 1) (ev_v E 0))).ev (frz_tl _)) (by rw [eo2]; rfl)) ev_int (atI_ok (Int.le_refl 0) rfl)) (ev_v E 6))
        (fun _ _ => ev_not (ev_call (cl_are_alike T n hs gs G2 F2 G F).1 hr (ea2 (ev_v E 1) (ev_v E 0))))) (by rw [eo, u_eqv, decide_eq_true rfl, decide_eq_false fun e => nte e.symm]; rfl)) q
end
end K3
/-! TEXT K22f -/
set_option Elab.async false
set_option linter.all false
set_option maxRecDepth 100000
set_option maxHeartbeats 1000000
/-! texts that fit -/
namespace K3
open PySem PySem.Spec L2
section
variable {m : Option Addr} {X : Cx} {e1 e2 e3 e4 e5 : Expr} {σ : L2.St} {B H : Hp} {pos : Pos}
theorem ev_join5 {y1 y2 y3 y4 y5 : Str} (h1 : Ev m X e1 σ B H (K3.IsD (.str y1))) (h2 : Ev m X e2 σ B H (K3.IsD (.str y2))) (h3 : Ev m X e3 σ B H (K3.IsD (.str y3))) (h4 : Ev m X e4 σ B H (K3.IsD (.str y4))) (h5 : Ev m X e5 σ B H (K3.IsD (.str y5))) (sz : y1.length + y2.length + y3.length + y4.length + y5.length ≤ sizeLine) :
    Ev m X (.JoinedStr [e1, e2, e3, e4, e5] pos) σ B H (K3.IsD (.str (Str.empty ++ y1 ++ y2 ++ y3 ++ y4 ++ y5))) := by
  have z0 : Str.empty.length = 0 := rfl
  refine ev_by (pe_joined (PJ.cons pe_w (PJ.cons pe_w (PJ.cons pe_w (PJ.cons pe_w (PJ.cons pe_w PJ.nil)))))) fun B1 H1 s1 Q q => ?_
  refine h1 B1 H1 s1 _ fun v B2 H2 s2 r => ⟨y1, Dq.str_eq r, by rw [strLen_append]; omega, ?_⟩
  refine h2 B2 H2 (s1.trans s2) _ fun v B3 H3 s3 r => ⟨y2, Dq.str_eq r, by rw [strLen_append, strLen_append]; omega, ?_⟩
  refine h3 B3 H3 ((s1.trans s2).trans s3) _ fun v B4 H4 s4 r => ⟨y3, Dq.str_eq r, by rw [strLen_append, strLen_append, strLen_append]; omega, ?_⟩
  refine h4 B4 H4 (((s1.trans s2).trans s3).trans s4) _ fun v B5 H5 s5 r => ⟨y4, Dq.str_eq r, by rw [strLen_append, strLen_append, strLen_append, strLen_append]; omega, ?_⟩
  refine h5 B5 H5 ((((s1.trans s2).trans s3).trans s4).trans s5) _ fun v B6 H6 s6 r => ⟨y5, Dq.str_eq r, by rw [strLen_append, strLen_append, strLen_append, strLen_append, strLen_append]; omega, ?_⟩
  exact q _ B6 H6 ((((s2.trans s3).trans s4).trans s5).trans s6) (.str _)
end
section
variable {m : Option Addr} {X : Cx} {a b e tg : Expr} {σ : L2.St} {B H B0 H0 : Hp} {pos : Pos} {Γ : List (Option Rt)} {d1 : PyData} {D : Ends} {rest : List Stmt}
theorem ev_tup2X {P : Int → Prop} {kk : Nat} (ha : Ev m X a σ B H (K3.IsD d1)) (hb : Ev m X b σ B H (IntP P)) (hs : starEach (a :: [b]) X.env = (false, eval a X.env) :: starEach [b] X.env := by rfl) (hs2 : starEach [b] X.env = (false, eval b X.env) :: starEach [] X.env := by rfl) :
    Ev m X (.Tuple [a, b] kk pos) σ B H (fun v B => ∃ j : Int, P j ∧ Dq B v (.tuple [d1, .int j])) :=
  ev_by (pe_tup pa_w) fun B1 H1 s1 Q q => (ea2 ha hb hs hs2) B1 H1 s1 _ fun vs B2 H2 s2 r => by
    match vs, r with
    | [v1, v2], ⟨r1, ⟨j, hj, eq⟩, _⟩ =>
      subst eq
      refine ⟨by show 2 ≤ sizeLine; decide, fun p hp => q (.ref p) _ _ (s2.new hp) ⟨j, hj, .tup upd_same ?_⟩⟩
      exact .cons (Dq.mono r1 (same_upd (s2.s.free hp))) (.cons (.int _) .nil)
/-- tg = e, of which is known what it may be -/
theorem ws_asgX {α : Type} {P : α → Prop} {enc : α → PyData} {g : TG} {ixs : List Nat} {u : α → List (Option Rt) → List (Option Rt)} (S : Stp m B0 H0 B H) (E : Sl σ B Γ) (ha : Ev m X e σ B H (fun v B => ∃ j, P j ∧ Dq B v (enc j))) (hg : PG X tg g) (T : ∀ j, TgE X.K g (enc j) ixs (u j))
    (k : ∀ j σ' B' H', P j → Stp m B H B' H' → Stp m B0 H0 B' H' → Sl σ' B' (u j Γ) → wSs X rest D σ' H')
    (hs : swapsWithSole [tg] e pos.line X.env = pure false := by rfl) (hw : swappedStores [tg] e X.env = pure none := by rfl) (h1 : (assignEach [tg] X.env).map (·.2) = [assign tg X.env] := by rfl) : wSs X (.Assign [tg] e pos :: rest) D σ H :=
  ws_cons (ps_asg pe_w hg hs hw h1) (ha B H S.here _ fun v B1 H1 s1 ⟨j, hj, r1⟩ => T j v σ B1 H1 Γ _ (E.mono s1.b) r1 s1.s fun σ' E' _ => k j σ' B1 H1 hj s1 (S.trans s1) E')
end
/-- small data: what is printed of it fits -/
structure Sml (k : Nat) (d : PyData) : Prop where
  can : d.canLay0 = true
  dep : d.depth ≤ 5
  sho : d.showable = true
  ish : d.intsShort 13 = true
  wei : d.weight ≤ k
theorem Sml.fits {d : PyData} {k : Nat} (h : Sml k d) (hk : k ≤ 10000 := by decide) : d.shown.length ≤ 15728653 := by
  refine PyData.shown_le_of_layable0 ?_ h.ish
  have h1 := h.dep
  have h2 := h.wei
  unfold PyData.layable0
  rw [h.can, decide_eq_true (show d.depth ≤ 64 by omega), decide_eq_true (show d.weight ≤ 2 ^ 20 by omega)]
  rfl
theorem Sml.fits' {d : PyData} {k : Nat} (h : Sml k d) (hk : k ≤ 10000 := by decide) : d.shown.length ≤ sizeLine := Nat.le_trans (h.fits hk) (by decide)
theorem log_small : ∀ m : Nat, m ≤ 20 → Nat.log2 m ≤ 4 := by decide
theorem sml_int {i : Int} (h1 : -20 ≤ i) (h2 : i ≤ 20) : Sml 5 (.int i) := by
  have hl := log_small i.natAbs (by omega)
  refine ⟨by simp [PyData.canLay0], by simp [PyData.depth], ?_, ?_, ?_⟩
  · simp only [PyData.showable, decide_eq_true_eq]; omega
  · simp only [PyData.intsShort, decide_eq_true_eq]
    exact PyData.shown_int_le (by omega)
  · simp only [PyData.weight]
    split <;> omega
theorem sml_bool (b : Bool) : Sml 0 (.bool b) := ⟨by simp [PyData.canLay0], by simp [PyData.depth], by simp [PyData.showable], by simp [PyData.intsShort], by simp [PyData.weight]⟩
theorem sml_all {k : Nat} : ∀ {ds : List PyData}, (∀ d ∈ ds, Sml k d ∧ d.depth ≤ 4) → PyData.canLayAll0 ds = true ∧ PyData.depthAll ds ≤ 4 ∧ PyData.showableAll ds = true ∧ PyData.intsShortAll 13 ds = true ∧ PyData.weightAll ds ≤ ds.length * (k + 1)
  | [], _ => by simp [PyData.canLayAll0, PyData.depthAll, PyData.showableAll, PyData.intsShortAll, PyData.weightAll]
  | d :: ds, h => by
    obtain ⟨i1, i2, i3, i4, i5⟩ := sml_all (ds := ds) fun x hx => h x (List.mem_cons_of_mem _ hx)
    obtain ⟨a, b⟩ := h d List.mem_cons_self
    refine ⟨by simp [PyData.canLayAll0, a.can, i1], ?_, by simp [PyData.showableAll, a.sho, i3], by simp [PyData.intsShortAll, a.ish, i4], ?_⟩
    · simp only [PyData.depthAll]; omega
    · simp only [PyData.weightAll, List.length_cons]
      have := a.wei
      have e : (ds.length + 1) * (k + 1) = ds.length * (k + 1) + (k + 1) := Nat.succ_mul _ _
      omega
theorem sml_list {k j : Nat} {ds : List PyData} (h : ∀ d ∈ ds, Sml k d ∧ d.depth ≤ 4) (hj : ds.length * (k + 1) ≤ j) : Sml j (.list ds) := by
  obtain ⟨h1, h2, h3, h4, h5⟩ := sml_all h
  exact ⟨by rw [PyData.canLay0]; exact h1, by rw [PyData.depth]; omega, by rw [PyData.showable]; exact h3, by rw [PyData.intsShort]; exact h4, by rw [PyData.weight]; omega⟩
theorem sml_tup {k j : Nat} {ds : List PyData} (h : ∀ d ∈ ds, Sml k d ∧ d.depth ≤ 4) (hj : ds.length * (k + 1) ≤ j) : Sml j (.tuple ds) := by
  obtain ⟨h1, h2, h3, h4, h5⟩ := sml_all h
  exact ⟨by rw [PyData.canLay0]; exact h1, by rw [PyData.depth]; omega, by rw [PyData.showable]; exact h3, by rw [PyData.intsShort]; exact h4, by rw [PyData.weight]; omega⟩
theorem Sml.le {k j : Nat} {d : PyData} (h : Sml k d) (hj : k ≤ j) : Sml j d := ⟨h.can, h.dep, h.sho, h.ish, Nat.le_trans h.wei hj⟩
theorem sml_kind (k : Gk) : Sml 5 (.str k.s) := ⟨by cases k <;> (simp [PyData.canLay0]; decide +kernel), by simp [PyData.depth], by simp [PyData.showable], by simp [PyData.intsShort], by simp only [PyData.weight]; cases k <;> decide +kernel⟩
theorem sml_gate {g : Gate} (h1 : -20 ≤ g.one ∧ g.one ≤ 20) (h2 : -20 ≤ g.other ∧ g.other ≤ 20) : Sml 18 (encG g) := sml_tup (k := 5) (fun d hd => by
  simp only [List.mem_cons, List.not_mem_nil, or_false] at hd
  rcases hd with rfl | rfl | rfl
  · exact ⟨sml_kind _, by simp [PyData.depth]⟩
  · exact ⟨sml_int h1.1 h1.2, by simp [PyData.depth]⟩
  · exact ⟨sml_int h2.1 h2.2, by simp [PyData.depth]⟩) (Nat.le_of_ble_eq_true rfl)
theorem sml_pair {p : Int × Int} (h1 : -20 ≤ p.1 ∧ p.1 ≤ 20) (h2 : -20 ≤ p.2 ∧ p.2 ≤ 20) : Sml 12 (pairD p) := sml_tup (k := 5) (fun d hd => by
  simp only [List.mem_cons, List.not_mem_nil, or_false] at hd
  rcases hd with rfl | rfl
  · exact ⟨sml_int h1.1 h1.2, by simp [PyData.depth]⟩
  · exact ⟨sml_int h2.1 h2.2, by simp [PyData.depth]⟩) (Nat.le_of_ble_eq_true rfl)
end K3
/-! TEXT G14 -/
set_option Elab.async false
set_option linter.all false
set_option maxRecDepth 100000
set_option maxHeartbeats 1000000
namespace K3
open PySem PySem.Spec L2
section
variable {P : Program} {w : World} {K : PySem.W.Frag} {mg : Str → Option Value} {base : Heap}
/-! what a net prints -/
def netS (n : Nat) (gs : List Gate) : Str := Str.empty ++ "Net(" ++ toString (n : Int) ++ ", " ++ (encGs gs).shown ++ ")"
theorem sml_gs {n k : Nat} {gs : List Gate} (h : Sgs n k gs) (hn : n ≤ 12) (hk : k ≤ 12) : Sml 300 (encGs gs) := sml_list (k := 18) (fun d hd => by
  obtain ⟨g, hg, rfl⟩ := List.mem_map.mp hd
  obtain ⟨v, l1, l2⟩ := h.2 g hg
  have := v.one
  exact ⟨sml_gate (by omega) (by omega), by have := g_dep g; omega⟩) (by
  have := h.1
  rw [List.length_map]
  omega)
theorem log_lt {n : Nat} (hn : n ≤ 12) : ((n : Int)).natAbs.log2 < 1920 := by have := log_small n (by omega); rw [Int.natAbs_natCast]; omega
theorem shown_n {n : Nat} (hn : n ≤ 12) : (toString (n : Int) : Str).length ≤ 13 := PyData.shown_int_le (i := (n : Int)) (by omega)
theorem cm_repr (T : Tx K mg) (n k : Nat) (gs : List Gate) (hs : Sgs n k gs) (hn : n ≤ 12) (hk : k ≤ 12) : ∃ fd, Binds K fd ["self"] [] ∧ FnOg P w K mg base 1 (He.ma K (He.ga K "Net") "__repr__") fd ["self"] (spD none [K3.IsD (netD K n gs)] (K3.IsD (.str (netS n gs)))) :=
  cmg_mk T 56 (d := d_NetZ_reprZ) rfl rfl rfl rfl (fun _ _ _ _ _ _ us hl => match us, hl with | [_], _ => rfl) fun fa fdd FF => by
    refine fn_okG FF sc_NetZ_reprZ rfl fun cdv A outer s E0 B H vs Q hr hgd S E q => ?_
    have sm := sml_gs hs hn hk
    have sz := sm.fits
    have sn := shown_n hn
    refine ws_ret S (ev_join5 ev_str (ev_fmtI (log_lt hn) (ev_fld (cls_N T) (na_lanes T) (ev_v E 0) rfl)) ev_str (ev_fmtRD hgd hr (EvM.ev (em_listT (T_free T) (ev_fld (cls_N T) (na_gates T) (ev_v E 0) rfl))) sm.can (Nat.le_trans sm.dep (by decide)) sm.sho sm.fits') ev_str ?_) q
    have a1 : ("Net(" : Str).length ≤ 10 := by decide +kernel
    have a2 : (", " : Str).length ≤ 10 := by decide +kernel
    have a3 : (")" : Str).length ≤ 10 := by decide +kernel
    have e : sizeLine = 16777216 := rfl
    have sz : ((PyData.list (gs.map encG)).shown).length ≤ 15728653 := sz
    omega
end
end K3
/-! TEXT G15 -/
set_option Elab.async false
set_option linter.all false
set_option maxRecDepth 100000
set_option maxHeartbeats 1000000
namespace K3
open PySem PySem.Spec L2
section
variable {P : Program} {w : World} {K : PySem.W.Frag} {mg : Str → Option Value} {base : Heap}
theorem em_to {m : Option Addr} {X : Cx} {a b : Expr} {σ : L2.St} {B H : Hp} {pos p2 : Pos} {ds : List PyData} {i : Nat} (ha : Ev m X a σ B H (K3.IsD (.list ds))) (hb : Ev m X b σ B H (K3.IsD (.int (i : Int)))) : EvM m X (.Subscript a (.Slice none (some b) none p2) pos) σ B H (ds.take i) := by
  have h := em_slL (p2 := p2) (pos := pos) ha eo_none (eo_some hb)
  rwa [cut_to] at h
theorem em_from {m : Option Addr} {X : Cx} {a b : Expr} {σ : L2.St} {B H : Hp} {pos p2 : Pos} {ds : List PyData} {i : Nat} (ha : Ev m X a σ B H (K3.IsD (.list ds))) (hb : Ev m X b σ B H (K3.IsD (.int (i : Int)))) : EvM m X (.Subscript a (.Slice (some b) none none p2) pos) σ B H (ds.drop i) := by
  have h := em_slL (p2 := p2) (pos := pos) ha (eo_some hb) eo_none
  rwa [cut_from] at h
theorem flat2 {α : Type} (x : α) : (List.replicate 2 [x]).flatten = [x, x] := rfl
theorem sml_bb (b c : Bool) : Sml 2 (.list [.bool b, .bool c]) := sml_list (k := 0) (fun d hd => by
  simp only [List.mem_cons, List.not_mem_nil, or_false] at hd
  rcases hd with rfl | rfl <;> exact ⟨sml_bool _, by simp [PyData.depth]⟩) (Nat.le_of_ble_eq_true rfl)
theorem cl_L_may_right (T : Tx K mg) (n : Nat) (gs : List Gate) (G : Gd n gs) (F : FewAll 60 n gs) (hz : gs.length ≤ 100) : ClG P w K mg base "_law_may_right" ["_law_net_now", "_law_gates_here", "_law_rows"] 12 (spD none [K3.IsD (netD K n gs), K3.IsD (encGs gs), K3.IsD (encT (told n gs))] (K3.IsD (.bool true))) :=
  clg_mk T 80 (d := d_L_may_right) rfl rfl rfl rfl (by decide +kernel) (fun _ _ _ _ _ _ us hl => match us, hl with | [_, _, _], _ => rfl) fun fa fdd FF => by
    refine fn_okG FF sc_L_may_right rfl fun cdv A outer s E0 B H vs Q hr hgd S E q => ?_
    have hn2 := G.n2
    have wt : Wt n (told n gs) := told_wt G.vg
    have tl : (told n gs).length = n := wt.len
    have er : rngD (((gs.length : Int) - 1).toNat) = (List.range (gs.length - 1)).map fun (i : Nat) => PyData.int (i : Int) := by
      unfold rngD
      rw [show ((gs.length : Int) - 1).toNat = gs.length - 1 by omega]
    refine ws_for (xs := List.range (gs.length - 1)) (enc := fun (j : Nat) => PyData.int (j : Int)) (u := fun j Γ => Γ.set 3 (some (K3.IsD (.int (j : Nat))))) S (by rw [← er]; exact wk_range (T_free T) (ev_sub (Ev.cast (ev_lenL (T_free T) (ev_v E 1)) (by rw [List.length_map])) ev_int) (by omega) (by omega)) (pg_name (i := 3) sc_L_may_right.nd rfl (by first | exact Or.inl rfl | exact Or.inr rfl)) (fun x _ => tg1) rfl PassesOwn.never
      (fun j => [some (K3.IsD (netD K n gs)), some (K3.IsD (encGs gs)), some (K3.IsD (encT (told n gs))), none, none, none]) (fun j _ _ => True) (fun _ _ _ _ _ _ h => h) (fun B1 H1 s1 S => ⟨(E.mono s1.b).to, trivial⟩) (fun j i σ1 B1 H1 hx1 S sb1 E _ => ?_) (fun σ1 B2 H2 S2 sb E2 _ => ws_ret S2 ev_bl q)
    obtain ⟨hij, hin⟩ := range_at hx1
    subst hij
    have hp : i + 1 < gs.length := by omega
    have e1 : ((i : Nat) : Int) + 1 = ((i + 1 : Nat) : Int) := by omega
    have e2 : ((i : Nat) : Int) + 2 = ((i + 2 : Nat) : Int) := by omega
    have hv : ∀ g ∈ exch gs i, Vg n g := fun g hg => G.vg g (mem_exch hp hg)
    refine ws_set S E 4 (R := K3.IsD (encGs (exch gs i))) (Ev.cast (EvM.ev (em_cat (ds := (gs.map encG).take i ++ [encG (gs.getD (i + 1) gate0), encG (gs.getD i gate0)]) (es := (gs.map encG).drop (i + 2)) (by simp; omega) (EvM.ev (em_cat (by simp; omega) (EvM.ev (em_to (ev_v E 1) (ev_v E 3))) (EvM.ev (em_lst [encG (gs.getD (i + 1) gate0), encG (gs.getD i gate0)] (ea2 (ev_ixL (ev_v E 1) (ev_add (ev_v E 3) ev_int) (atG hp e1)) (ev_ixL (ev_v E 1) (ev_v E 3) (atG (by omega) rfl))) (Nat.le_of_ble_eq_true rfl))))) (EvM.ev (em_from (ev_v E 1) (Ev.cast (ev_add (ev_v E 3) ev_int) (congrArg PyData.int e2)))))) (by
      rw [encGs, exch, List.map_append, List.map_append, List.map_take, List.map_drop]; rfl)) (fun v B2 H2 s2 S r E => ?_) sc_L_may_right.nd
    refine ws_set S E 5 (R := TR 8 n (exch gs i)) (ev_call (cl_L_told T n 8 (exch gs i) G.n1 hn2 (by decide) (by decide) hv) hr (ea3 (Ev.cast (ev_lenL (T_free T) (ev_v E 2)) (by rw [List.length_map, tl])) (ev_v E 4) ev_int)) (fun v B3 H3 s3 S r E => ?_) sc_L_may_right.nd
    rcases r with ⟨F8, rd⟩ | rfl
    · have E := E.put1 (i := 5) (R := K3.IsD (encT (told n (exch gs i)))) (Nat.le_of_ble_eq_true rfl) rd
      refine ws_ifT S (EvT.cast (et_cmp cm_notN (ev_v E 5) ev_non) rfl) fun B4 H4 s4 S => ?_
      have E := E.mono s4.b
      refine ws_no S (EvT.cast (et_cmp cm_neS (ev_reprD (ds := [.bool (decide (told n gs = told n (exch gs i))), .bool (decide (told n gs = told n (exch gs i)))]) hgd hr (T_free T) (EvM.ev (em_lst [.bool (decide (told n gs = told n (exch gs i))), .bool (decide (told n gs = told n (exch gs i)))] (ea2 (ev_call (cl_may_change T n gs i G F hp (F8.mono (by decide))).1 hr (ea2 (ev_v E 0) (ev_v E 3))) (ev_callK2 (cl_may_change T n gs i G F hp (F8.mono (by decide))).2 hr (ev_v E 3) (ev_v E 0))) (Nat.le_of_ble_eq_true rfl))) (sml_bb _ _).can (Nat.le_trans (sml_bb _ _).dep (by decide)) (sml_bb _ _).sho (sml_bb _ _).fits')
        (ev_reprD (ds := [.bool (decide (told n (exch gs i) = told n gs)), .bool (decide (told n (exch gs i) = told n gs))]) hgd hr (T_free T) (Ev.cast (EvM.ev (em_rep (j := 2) (by decide) (by decide) (Nat.le_of_ble_eq_true rfl) (EvM.ev (em_lst [.bool (decide (told n (exch gs i) = told n gs))] (ea1 (Ev.cast (ev_cmp (cm_eqD hr (t_shp (told n (exch gs i))) (t_shp (told n gs))) (ev_v E 5) (ev_v E 2)) (by rw [t_eqv]))) (Nat.le_of_ble_eq_true rfl))) ev_int)) (by rw [show (2 : Int).toNat = 2 from rfl, flat2])) (sml_bb _ _).can (Nat.le_trans (sml_bb _ _).dep (by decide)) (sml_bb _ _).sho (sml_bb _ _).fits')) (by
          rw [show decide (told n (exch gs i) = told n gs) = decide (told n gs = told n (exch gs i)) from decide_eq_decide.mpr ⟨Eq.symm, Eq.symm⟩]
          simp)) fun B5 H5 s5 S => ?_
      exact ws_nil (ws_nil ⟨B5, s2.b.trans (s3.b.trans (s4.b.trans s5.b)), S, (E.mono s5.b).to, trivial⟩)
    · have E := E.put1 (i := 5) (R := K3.IsD .none) (Nat.le_of_ble_eq_true rfl) .non
      refine ws_no S (EvT.cast (et_cmp cm_notN (ev_v E 5) ev_non) rfl) fun B4 H4 s4 S => ?_
      exact ws_nil ⟨B4, s2.b.trans (s3.b.trans s4.b), S, (E.mono s4.b).to, trivial⟩
end
end K3
/-! TEXT G16 -/
set_option Elab.async false
set_option linter.all false
set_option maxRecDepth 100000
set_option maxHeartbeats 1000000
namespace K3
open PySem PySem.Spec L2
section
variable {P : Program} {w : World} {K : PySem.W.Frag} {mg : Str → Option Value} {base : Heap}
theorem riseOf_same {f g : Fam} (h : f = g) : riseOf f g = (0, 0) := by unfold riseOf; rw [if_pos h]
theorem riseOf_more {n : Nat} {f g : Fam} (hf : Wf n f) (h : f ≠ g) (h2 : raised f 1 = g) : riseOf f g = (1, 1) := by unfold riseOf; rw [if_neg h, raised_kept hf, if_pos h2]
theorem riseOf_else {n : Nat} {f g : Fam} (hf : Wf n f) (h : f ≠ g) (h2 : raised f 1 ≠ g) : riseOf f g = (0, 1) := by unfold riseOf; rw [if_neg h, raised_kept hf, if_neg h2]
theorem riseOf_back {n : Nat} {f g : Fam} (hf : Wf n f) (h : riseOf f g = (0, 1)) : f ≠ g ∧ raised f 1 ≠ g := by
  constructor
  · intro e; rw [riseOf_same e] at h; cases h
  · intro e
    by_cases e2 : f = g
    · rw [riseOf_same e2] at h; cases h
    · rw [riseOf_more hf e2 e] at h; cases h
theorem riseOf_in (f g : Fam) : riseOf f g = (0, 0) ∨ riseOf f g = (1, 1) ∨ riseOf f g = (0, 1) := by
  unfold riseOf
  split
  · exact .inl rfl
  · split
    · exact .inr (.inl rfl)
    · exact .inr (.inr rfl)
theorem pr_shp (p : Int × Int) : SeqAt.shaped (pairD p) = true := shp (pr_can p) (pr_dep p)
/-- the contents that are met -/
def fnd (n : Nat) (zs : List (Fam × Fam)) : List (List Int) := zs.flatMap fun z => ((leftL z.1 z.2).take 1).map fun l => cornerV l z.1 n
theorem fnd_len {n : Nat} {zs : List (Fam × Fam)} : ∀ x ∈ fnd n zs, x.length = n := fun x hx => by
  unfold fnd at hx
  obtain ⟨z, _, hz⟩ := List.mem_flatMap.mp hx
  obtain ⟨l, _, rfl⟩ := List.mem_map.mp hz
  exact corner_len _ _ _
theorem fnd_size (n : Nat) : ∀ zs : List (Fam × Fam), (fnd n zs).length ≤ zs.length
  | [] => Nat.le_refl _
  | z :: zs => by
    have := fnd_size n zs
    unfold fnd at *
    rw [List.flatMap_cons, List.length_append, List.length_map, List.length_take, List.length_cons]
    omega
theorem left_take {f g : Fam} {l : Lot} (h : apartL f g = some l) : (leftL f g).take 1 = [l] := by
  rw [← leftL_head] at h
  cases e : leftL f g with
  | nil => rw [e] at h; cases h
  | cons a r => rw [e] at h; cases h; rfl
def riseL (n : Nat) (gs hs : List Gate) : List PyData := (List.range n).map fun (j : Nat) => pairD (riseOf (at_ (told n gs) j) (at_ (told n hs) j))
theorem riseL_at {n i : Nat} {gs hs : List Gate} (h : i < n) : atI (riseL n gs hs) (i : Nat) = some (pairD (riseOf (at_ (told n gs) (i : Nat)) (at_ (told n hs) (i : Nat)))) := by
  refine atI_ok (Int.natCast_nonneg i) ?_
  unfold riseL
  rw [Int.toNat_natCast, List.getElem?_map, List.getElem?_range h] <;> rfl
theorem sml_rise {n : Nat} {gs hs : List Gate} (hn : n ≤ 12) : Sml 200 (.list (riseL n gs hs)) := sml_list (k := 12) (fun d hd => by
  obtain ⟨j, _, rfl⟩ := List.mem_map.mp hd
  refine ⟨?_, Nat.le_trans (pr_dep _) (by decide)⟩
  rcases riseOf_in (at_ (told n gs) (j : Nat)) (at_ (told n hs) (j : Nat)) with e | e | e <;> (rw [e]; exact sml_pair (by decide) (by decide))) (by unfold riseL; rw [List.length_map, List.length_range]; omega)
theorem cl_L_rise_right (T : Tx K mg) (p : Addr) (n : Nat) (gs : List Gate) (G : Gd n gs) (F : FewAll 60 n gs) (hz : gs.length ≤ 100) : ClG P w K mg base "_law_rise_right" ["_law_pot_here", "_law_net_now", "_law_gates_here", "_law_rows"] 11 (spD (some p) [IsV (.ref p), K3.IsD (netD K n gs), K3.IsD (encGs gs), K3.IsD (encT (told n gs))] (K3.IsD (.bool true))) :=
  clg_mk T 81 (d := d_L_rise_right) rfl rfl rfl rfl (by decide +kernel) (fun _ _ _ _ _ _ us hl => match us, hl with | [_, _, _, _], _ => rfl) fun fa fdd FF => by
    refine fn_okG FF sc_L_rise_right rfl fun cdv A outer s E0 B H vs Q hr hgd S E q => ?_
    have hn1 := G.n1
    have hn2 := G.n2
    have wt : Wt n (told n gs) := told_wt G.vg
    have tl : (told n gs).length = n := wt.len
    have f60 := F gs.length (Nat.le_refl _)
    rw [List.take_length] at f60
    refine ws_asgX (P := fun z : Int => 0 ≤ z ∧ z < ((gs.length + 1 : Nat) : Int)) (enc := fun z : Int => .tuple [.int (n : Int), .int z]) (u := fun z Γ => (Γ.set 4 (some (K3.IsD (.int (n : Int))))).set 5 (some (K3.IsD (.int z)))) S E (ev_tup2X (Ev.cast (ev_lenL (T_free T) (ev_v E 3)) (by rw [List.length_map, tl])) (ev_callP (cl_L_draw T p (gs.length + 1) (by omega) (by omega)) hr (ea2 (ev_v E 0) (Ev.cast (ev_add (Ev.cast (ev_lenL (T_free T) (ev_v E 2)) (by rw [List.length_map])) ev_int) (by rw [Int.natCast_add]; rfl))))) (pg_tup rfl (pgs_cons (pg_name (i := 4) sc_L_rise_right.nd rfl (by first | exact Or.inl rfl | exact Or.inr rfl)) (pgs_cons (pg_name (i := 5) sc_L_rise_right.nd rfl (by first | exact Or.inl rfl | exact Or.inr rfl)) pgs_nil))) (fun _ => tg2) (fun zp σa B1 H1 hzp s1 S E => ?_)
    obtain ⟨pl, rfl⟩ : ∃ pl : Nat, zp = pl := ⟨zp.toNat, by omega⟩
    have hpl : pl ≤ gs.length := by omega
    refine ws_setI S E 6 (ev_callP (cl_L_draw T p n hn1 (by omega)) hr (ea2 (ev_v E 0) (ev_v E 4))) (fun la B2 H2 hla s2 S E => ?_) sc_L_rise_right.nd
    have hv : ∀ g ∈ ltr gs pl la, Vg n g := ltr_vg G.vg hla.1 hla.2
    have wt2 : Wt n (told n (ltr gs pl la)) := told_wt hv
    have tl2 : (told n (ltr gs pl la)).length = n := wt2.len
    refine ws_set S E 7 (R := K3.IsD (encGs (ltr gs pl la))) (Ev.cast (EvM.ev (em_cat (ds := (gs.map encG).take pl ++ [encG ⟨.add, la, 1⟩]) (es := (gs.map encG).drop pl) (by simp; omega) (EvM.ev (em_cat (by simp; omega) (EvM.ev (em_to (ev_v E 2) (ev_v E 5))) (EvM.ev (em_lst [encG ⟨.add, la, 1⟩] (ea1 (ev_tup [.str "add", .int la, .int 1] (ea3 ev_str (ev_v E 6) ev_int) (Nat.le_of_ble_eq_true rfl))) (Nat.le_of_ble_eq_true rfl))))) (EvM.ev (em_from (ev_v E 2) (ev_v E 5))))) (by
      rw [encGs, ltr, List.map_append, List.map_append, List.map_take, List.map_drop]; rfl)) (fun v B3 H3 s3 S r E => ?_) sc_L_rise_right.nd
    refine ws_set S E 8 (R := TR 12 n (ltr gs pl la)) (ev_call (cl_L_told T n 12 (ltr gs pl la) hn1 hn2 (by decide) (by decide) hv) hr (ea3 (ev_v E 4) (ev_v E 7) ev_int)) (fun v B4 H4 s4 S r E => ?_) sc_L_rise_right.nd
    rcases r with ⟨F12, rd⟩ | rfl
    · have E := E.put1 (i := 8) (R := K3.IsD (encT (told n (ltr gs pl la)))) (Nat.le_of_ble_eq_true rfl) rd
      have fl := F12 (ltr gs pl la).length (Nat.le_refl _)
      rw [List.take_length] at fl
      refine ws_no S (et_cmp cm_isN (ev_v E 8) ev_non) fun B5 H5 s5 S => ?_
      have E := E.mono s5.b
      have RI := cl_rise (P := P) (w := w) (base := base) T n gs pl la G (by omega) F hpl hla.1 hla.2 (F12.mono (by decide))
      refine ws_setM S E 9 (em_call (ds := riseL n gs (ltr gs pl la)) RI.1 hr (ea3 (ev_v E 1) (ev_v E 5) (ev_v E 6))) (fun q9 B6 H6 s6 S k1 k2 M E => ?_) sc_L_rise_right.nd
      have er : rngD ((n : Int).toNat) = (List.range n).map fun (i : Nat) => PyData.int (i : Int) := by unfold rngD; rw [Int.toNat_natCast]
      refine ws_for (xs := List.range n) (enc := fun (j : Nat) => PyData.int (j : Int)) (u := fun j Γ => Γ.set 10 (some (K3.IsD (.int (j : Nat))))) S (by rw [← er]; exact wk_range (T_free T) (ev_v E 4) (by omega) (by omega)) (pg_name (i := 10) sc_L_rise_right.nd rfl (by first | exact Or.inl rfl | exact Or.inr rfl)) (fun x _ => tg1) rfl PassesOwn.never
        (fun j => [some (IsV (.ref p)), some (K3.IsD (netD K n gs)), some (K3.IsD (encGs gs)), some (K3.IsD (encT (told n gs))), some (K3.IsD (.int n)), some (K3.IsD (.int pl)), some (K3.IsD (.int la)), some (K3.IsD (encGs (ltr gs pl la))), some (K3.IsD (encT (told n (ltr gs pl la)))), some (IsV (.ref q9)), none, none, none, none, none, none, none, none, none, none, none, none, none, none]) (fun j B H => Mu (some p) B H q9 (riseL n gs (ltr gs pl la))) (fun _ _ _ _ _ s h => h.mono s) (fun B1 H1 s1 S => ⟨(E.mono s1.b).to, M.mono s1⟩) (fun j i σ1 B7 H7 hx7 S sb7 E M => ?_) (fun σ1 B8 H8 S sb E M => ?_)
      · obtain ⟨hij, hin⟩ := range_at hx7
        subst hij
        have i0 : 0 ≤ ((i : Nat) : Int) := Int.natCast_nonneg i
        have a1 := at_enc (t := told n gs) i0 (by rw [tl]; omega)
        have a2 := at_enc (t := told n (ltr gs pl la)) i0 (by rw [tl2]; omega)
        have wn := wt.at_ i0 (by omega)
        have wf := wt2.at_ i0 (by omega)
        have z1 : (at_ (told n gs) i).length ≤ 60 := f60 _ (at_mem i0 (by rw [tl]; omega))
        have z2 : (at_ (told n (ltr gs pl la)) i).length ≤ 12 := fl _ (at_mem i0 (by rw [tl2]; omega))
        have one := rise_one (p := pl) (j := (i : Nat)) G.vg hla.1 hla.2 i0 (by omega)
        have two := rise_two (p := pl) (j := (i : Nat)) G.vg hla.1 hla.2 i0 (by omega)
        have ra := riseL_at (gs := gs) (hs := ltr gs pl la) hin
        generalize hN : at_ (told n gs) ((i : Nat) : Int) = near at a1 wn z1 one two ra
        generalize hF : at_ (told n (ltr gs pl la)) ((i : Nat) : Int) = far at a2 wf z2 one two ra
        have wr := wn.raised 1
        refine ws_par S E 11 12 (R1 := K3.IsD (encF near)) (R2 := K3.IsD (encF far)) (ev_ixL (ev_v E 3) (ev_v E 10) a1) (ev_ixL (ev_v E 8) (ev_v E 10) a2) (fun v w B9 H9 s9 S r1 r2 E => ?_) sc_L_rise_right.nd
        have M := M.mono s9
        refine ws_set S E 13 (R := K3.IsD (encF (raised near 1))) (ev_call (cl_L_raised T near 1 (by omega) (fun l hl => by have := vl_len ((wn.vl l hl).mono (by omega : (n : Int) ≤ 12)); omega)) hr (ea2 (ev_v E 11) ev_int)) (fun v B10 H10 s10 S r E => ?_) sc_L_rise_right.nd
        have M := M.mono s10
        refine ws_set S E 14 (R := K3.IsD (pairD (riseOf near far))) (ev_if (et_cmp (cm_eqD hr (f_shp near) (f_shp far)) (ev_v E 11) (ev_v E 12)) (fun h => Ev.cast (ev_tup [.int 0, .int 0] (ea2 ev_int ev_int) (Nat.le_of_ble_eq_true rfl)) (by rw [f_eqv] at h; rw [riseOf_same (of_decide_eq_true h)]; rfl))
          (fun h => ev_if (et_cmp (cm_eqD hr (f_shp (raised near 1)) (f_shp far)) (ev_v E 13) (ev_v E 12)) (fun h2 => Ev.cast (ev_tup [.int 1, .int 1] (ea2 ev_int ev_int) (Nat.le_of_ble_eq_true rfl)) (by rw [f_eqv] at h h2; rw [riseOf_more wn (of_decide_eq_false h) (of_decide_eq_true h2)]; rfl))
            (fun h2 => Ev.cast (ev_tup [.int 0, .int 1] (ea2 ev_int ev_int) (Nat.le_of_ble_eq_true rfl)) (by rw [f_eqv] at h h2; rw [riseOf_else wn (of_decide_eq_false h) (of_decide_eq_false h2)]; rfl)))) (fun v B11 H11 s11 S r E => ?_) sc_L_rise_right.nd
        have M := M.mono s11
        refine ws_no S (EvT.cast (et_cmp (cm_neD hr (pr_shp (riseOf near far)) (pr_shp (riseOf near far))) (ev_ixM M (ev_v E 9) (ev_v E 10) ra) (ev_v E 14)) (by rw [pr_eqv]; simp)) fun B12 H12 s12 S => ?_
        have E := E.mono s12.b
        have M := M.mono s12
        refine ws_setM S E 15 (em_lst [] ea_nil) (fun q15 B13 H13 s13 S g1 g2 M15 E => ?_) sc_L_rise_right.nd
        have ne : q9 ≠ q15 := by obtain ⟨zs, e, _⟩ := M.ex; exact ne_of_none e g1
        have M := M.mono s13
        have sbA := s9.b.trans (s10.b.trans (s11.b.trans (s12.b.trans s13.b)))
        refine ws_for (xs := [(far, near), (raised near 1, far)]) (enc := fun z => .tuple [encF z.1, encF z.2]) (u := fun z Γ => (Γ.set 16 (some (K3.IsD (encF z.1)))).set 17 (some (K3.IsD (encF z.2)))) S (wk_list (EvM.ev (em_lst [.tuple [encF far, encF near], .tuple [encF (raised near 1), encF far]] (ea2 (ev_tup [encF far, encF near] (ea2 (ev_v E 12) (ev_v E 11)) (Nat.le_of_ble_eq_true rfl)) (ev_tup [encF (raised near 1), encF far] (ea2 (ev_v E 13) (ev_v E 12)) (Nat.le_of_ble_eq_true rfl))) (Nat.le_of_ble_eq_true rfl)))) (pg_tup rfl (pgs_cons (pg_name (i := 16) sc_L_rise_right.nd rfl (by first | exact Or.inl rfl | exact Or.inr rfl)) (pgs_cons (pg_name (i := 17) sc_L_rise_right.nd rfl (by first | exact Or.inl rfl | exact Or.inr rfl)) pgs_nil))) (fun x _ => tg2) rfl PassesOwn.never
          (fun _ => [some (IsV (.ref p)), some (K3.IsD (netD K n gs)), some (K3.IsD (encGs gs)), some (K3.IsD (encT (told n gs))), some (K3.IsD (.int n)), some (K3.IsD (.int pl)), some (K3.IsD (.int la)), some (K3.IsD (encGs (ltr gs pl la))), some (K3.IsD (encT (told n (ltr gs pl la)))), some (IsV (.ref q9)), some (K3.IsD (.int (i : Nat))), some (K3.IsD (encF near)), some (K3.IsD (encF far)), some (K3.IsD (encF (raised near 1))), some (K3.IsD (pairD (riseOf near far))), some (IsV (.ref q15)), none, none, none, none, none, none, none, none])
          (fun j B H => Mu (some p) B H q9 (riseL n gs (ltr gs pl la)) ∧ Mu (some p) B H q15 ((fnd n (([(far, near), (raised near 1, far)] : List (Fam × Fam)).take j)).map encI)) (fun _ _ _ _ _ s h => ⟨h.1.mono s, h.2.mono s⟩) (fun B1 H1 s1 S => ⟨(E.mono s1.b).to, M.mono s1, M15.mono s1⟩) (fun j z σ3 B14 H14 hz S sb14 E MM => ?_) (fun σ3 B14 H14 S sb14 E MM => ?_)
        · obtain ⟨M, M15⟩ := MM
          have hzz : z = (far, near) ∨ z = (raised near 1, far) := by
            have := List.mem_of_getElem? hz
            simpa using this
          have w1 : Wf n z.1 := by rcases hzz with rfl | rfl <;> assumption
          have w2 : Wf n z.2 := by rcases hzz with rfl | rfl <;> assumption
          have y1 : z.1.length ≤ 60 := by rcases hzz with rfl | rfl
                                          · exact Nat.le_trans z2 (by decide)
                                          · rw [raised_len]; exact z1
          have y2 : z.2.length ≤ 60 := by rcases hzz with rfl | rfl
                                          · exact z1
                                          · exact Nat.le_trans z2 (by decide)
          refine ws_lcF (xs := z.2) (enc := encL) (p := fun l => !z.1.any fun m => under m l) (f := encL) (own := [("_law_lot", 22)]) S E 18 (wk_list (ev_v E 17)).s rfl sc_L_rise_right.nd (blkOk_by (own := [("_law_lot", 22)]) (by rfl)) (fun _ _ _ _ _ => pg_name (i := 22) sc_L_rise_right.nd rfl (by first | exact Or.inl rfl | exact Or.inr rfl)) (fun x _ => tg1)
            (fun s0 H0 C cl fp l σ1 B1 H1 hl s1 E1 => et_not (et_val (ev_anyB (f := fun m => under m l) (T_free T) (em_lc (xs := z.1) (enc := encL) (own := [("_law_part", 21)]) E1 (wk_list (ev_v E1 16)).s rfl sc_L_rise_right.nd (blkOk_by (own := [("_law_part", 21)]) (by rfl)) (fun _ _ _ _ _ => pg_name (i := 21) sc_L_rise_right.nd rfl (by first | exact Or.inl rfl | exact Or.inr rfl)) (fun x _ => tg1)
              (fun s0 H0 C cl fp m σ2 B2 H2 hm s2 E2 => ev_call (cl_L_is_under T m l (w2.vl l hl) (by have := vl_len ((w1.vl m hm).mono (by omega : (n : Int) ≤ 12)); omega)) hr (ea2 (ev_v E2 21) (ev_v E2 22))) (by omega))))) (fun s0 H0 C cl fp l σ1 B1 H1 hx hp s1 E1 => ev_v E1 22) (by omega) (fun q18 B15 H15 s15 S g3 g4 M18 E => ?_)
          have ne1 : q9 ≠ q18 := by obtain ⟨zs, e, _⟩ := M.ex; exact ne_of_none e g3
          have ne2 : q15 ≠ q18 := by obtain ⟨zs, e, _⟩ := M15.ex; exact ne_of_none e g3
          have M := M.mono s15
          have M15 := M15.mono s15
          obtain ⟨B16, sb16, S, r16, ot⟩ := M18.frz2 S g4
          have M := ot q9 _ ne1 M
          have M15 := ot q15 _ ne2 M15
          have E := (E.mono sb16).re 18 rfl (R := K3.IsD (encF (leftL z.1 z.2))) r16
          refine ws_ext (es := ((leftL z.1 z.2).take 1).map fun l => encI (cornerV l z.1 n)) S M15 g2 (ev_v E 15) (EvM.ev (em_lc (xs := (leftL z.1 z.2).take 1) (enc := encL) (f := fun l => encI (cornerV l z.1 n)) (own := [("_law_lot", 22)]) E (wk_list (Ev.cast (EvM.ev (em_to (i := 1) (ev_v E 18) ev_int)) (by rw [← List.map_take]))).s rfl sc_L_rise_right.nd (blkOk_by (own := [("_law_lot", 22)]) (by rfl)) (fun _ _ _ _ _ => pg_name (i := 22) sc_L_rise_right.nd rfl (by first | exact Or.inl rfl | exact Or.inr rfl)) (fun x _ => tg1)
            (fun s0 H0 C cl fp l σ2 B2 H2 hl s2 E2 => ev_call (cl_L_corner T l z.1 n hn2 (w2.vl l (List.mem_filter.mp (List.mem_of_mem_take hl)).1) w1 (by omega)) hr (ea3 (ev_v E2 22) (ev_v E2 16) (ev_v E2 4))) (by rw [List.length_take]; omega))) ?_ (fun B17 H17 sb17 S M15 ot => ?_)
          · have := fnd_size n (([(far, near), (raised near 1, far)] : List (Fam × Fam)).take j)
            rw [List.length_map, List.length_map, List.length_take]
            rw [List.length_take] at this
            have : ([(far, near), (raised near 1, far)] : List (Fam × Fam)).length = 2 := rfl
            omega
          · refine ws_nil ⟨B17, s15.b.trans (sb16.trans sb17), S, (E.mono sb17).to, ot q9 _ ne M, ?_⟩
            rw [take_last hz]
            unfold fnd at M15 ⊢
            rw [List.flatMap_append, List.flatMap_cons, List.flatMap_nil, List.append_nil, List.map_append, List.map_map]
            exact M15
        · obtain ⟨M, M15⟩ := MM
          rw [List.take_length] at M15
          obtain ⟨B15, sb15, S, r15, ot⟩ := M15.frz2 S g2
          have M := ot q9 _ ne M
          have E := (E.mono sb15).re 15 rfl (R := K3.IsD (encII (fnd n [(far, near), (raised near 1, far)]))) r15
          refine ws_lc (xs := fnd n [(far, near), (raised near 1, far)]) (enc := encI) (f := fun x => .int (xv (runG (ltr gs pl la) x) i - xv (runG gs x) i)) (own := [("_law_term", 23)]) S E 19 (wk_list (ev_v E 15)).s rfl sc_L_rise_right.nd (blkOk_by (own := [("_law_term", 23)]) (by rfl)) (fun _ _ _ _ _ => pg_name (i := 23) sc_L_rise_right.nd rfl (by first | exact Or.inl rfl | exact Or.inr rfl)) (fun x _ => tg1)
            (fun s0 H0 C cl fp x σ2 B2 H2 hx s2 E2 => ev_sub (ev_ixL (ev_call (cl_L_run T n (ltr gs pl la) x hv (fnd_len x hx) (by omega)) hr (ea2 (ev_v E2 7) (ev_v E2 23))) (ev_v E2 10) (atI_int i0 (by rw [run_len, Int.toNat_natCast, fnd_len x hx]; omega))) (ev_ixL (ev_call (cl_L_run T n gs x G.vg (fnd_len x hx) (by omega)) hr (ea2 (ev_v E2 2) (ev_v E2 23))) (ev_v E2 10) (atI_int i0 (by rw [run_len, Int.toNat_natCast, fnd_len x hx]; omega)))) (Nat.le_trans (fnd_size n _) (Nat.le_of_ble_eq_true rfl)) (fun q19 B16 H16 s16 S g3 g4 M19 E => ?_)
          have M := M.mono s16
          have M19 : Mu (some p) B16 H16 q19 (((fnd n [(far, near), (raised near 1, far)]).map fun x => xv (runG (ltr gs pl la) x) i - xv (runG gs x) i).map .int) := by rw [List.map_map]; exact M19
          refine ws_no S (EvT.cast (et_and2 (k' := false) (et_cmp (cm_eqD hr (pr_shp (riseOf near far)) (pr_shp (0, 1))) (ev_v E 14) (ev_tup [.int 0, .int 1] (ea2 ev_int ev_int) (Nat.le_of_ble_eq_true rfl))) fun h => EvT.cast (et_cmp (cm_neA hr (daM M19) daD (i_shp ((fnd n [(far, near), (raised near 1, far)]).map fun x => xv (runG (ltr gs pl la) x) i - xv (runG gs x) i)) (i_shp [1, 0])) (ev_v E 19) (EvM.ev (em_lst [.int 1, .int 0] (ea2 ev_int ev_int) (Nat.le_of_ble_eq_true rfl)))) (by
            rw [pr_eqv] at h
            obtain ⟨h1, h2⟩ := riseOf_back wn (of_decide_eq_true h)
            obtain ⟨l1, p1, _, v1, v2⟩ := one h1
            obtain ⟨l2, p2, _, v3, v4⟩ := two h2
            have e : (fnd n [(far, near), (raised near 1, far)]).map (fun x => xv (runG (ltr gs pl la) x) i - xv (runG gs x) i) = [1, 0] := by
              unfold fnd
              rw [List.flatMap_cons, List.flatMap_cons, List.flatMap_nil, left_take p1, left_take p2]
              show [xv (runG (ltr gs pl la) (cornerV l1 far n)) i - xv (runG gs (cornerV l1 far n)) i, xv (runG (ltr gs pl la) (cornerV l2 (raised near 1) n)) i - xv (runG gs (cornerV l2 (raised near 1) n)) i] = [1, 0]
              rw [v1, v2, v3, v4]; rfl
            have e2 := i_eqv ((fnd n [(far, near), (raised near 1, far)]).map fun x => xv (runG (ltr gs pl la) x) i - xv (runG gs x) i) [1, 0]
            rw [decide_eq_true e] at e2
            show (!PyData.eqv (encI ((fnd n [(far, near), (raised near 1, far)]).map fun x => xv (runG (ltr gs pl la) x) i - xv (runG gs x) i)) (encI [1, 0])) = false
            rw [e2]; rfl)) (Bool.and_false _)) fun B17 H17 s17 S => ?_
          exact ws_nil ⟨B17, sbA.trans (sb14.trans (sb15.trans (s16.b.trans s17.b))), S, (E.mono s17.b).to, M.mono s17⟩
      · have sm := sml_rise (gs := gs) (hs := ltr gs pl la) hn2
        refine ws_set S E 20 (R := K3.IsD (.str (PyData.list (riseL n gs (ltr gs pl la))).shown)) (ev_reprM hgd hr M (T_free T) (ev_v E 9) sm.can (Nat.le_trans sm.dep (by decide)) sm.sho sm.fits') (fun v B9 H9 s9 S r E => ?_) sc_L_rise_right.nd
        have M := M.mono s9
        refine ws_app S M k2 (ev_v E 9) ev_non (by unfold riseL; rw [List.length_map, List.length_range]; omega) (fun B10 H10 sb10 S M _ => ?_)
        have E := E.mono sb10
        refine ws_ret S (Ev.cast (ev_cmp cm_eqS (ev_reprD (ds := riseL n gs (ltr gs pl la)) hgd hr (T_free T) (EvM.ev (em_callK3 RI.2 hr (ev_v E 6) (ev_v E 5) (ev_v E 1))) sm.can (Nat.le_trans sm.dep (by decide)) sm.sho sm.fits') (ev_v E 20)) (by rw [decide_eq_true rfl])) q
    · have E := E.put1 (i := 8) (R := K3.IsD .none) (Nat.le_of_ble_eq_true rfl) .non
      refine ws_ifT S (et_cmp cm_isN (ev_v E 8) ev_non) fun B5 H5 s5 S => ws_ret S ev_bl q
end
end K3
/-! TEXT G17 -/
set_option Elab.async false
set_option linter.all false
set_option maxRecDepth 100000
set_option maxHeartbeats 1000000
namespace K3
open PySem PySem.Spec L2
section
variable {P : Program} {w : World} {K : PySem.W.Frag} {mg : Str → Option Value} {base : Heap}
theorem op_isB {X : Cx} : OpR X (compareOp .Is) (fun x y H Q => ∃ a b, x = .bl a ∧ y = .bl b ∧ Q (.bl (decide (a = b))) H) := by
  intro pins s σ H x y v u Q I rx ry h
  obtain ⟨a, b, rfl, rfl, q⟩ := h
  cases (show v = Value.bool a from rx)
  cases (show u = Value.bool b from ry)
  exact wpAny_is_plain rfl (fin_bl I q (by cases a <;> cases b <;> rfl))
theorem cm_isB {m : Option Addr} {X : Cx} {B H : Hp} {i j : Bool} : Cm m X .Is B H (K3.IsD (.bool i)) (K3.IsD (.bool j)) (decide (i = j)) :=
  ⟨_, op_isB, fun x y B1 H1 Q s1 rx ry q => ⟨i, j, Dq.bl_eq rx, Dq.bl_eq ry, q B1 H1 s1.here⟩⟩
def IsBl : Rt := fun v B => ∃ b : Bool, K3.IsD (.bool b) v B
instance : Mn IsBl := ⟨fun v B B' e ⟨b, h⟩ => ⟨b, Dq.mono h e⟩⟩
theorem ev_eqX {m : Option Addr} {X : Cx} {a b : Expr} {σ : L2.St} {B H : Hp} {pos : Pos} {P : Int → Prop} {j : Int} (ha : Ev m X a σ B H (IntP P)) (hb : Ev m X b σ B H (K3.IsD (.int j))) (hm : behindInMarks .Eq b = false := by first | exact nomark _ | rfl) : Ev m X (.Compare a [.Eq] [b] pos) σ B H IsBl :=
  ev_by (pe_cmpR op_eq pe_w pe_w hm) fun B1 H1 s1 Q q => ha B1 H1 s1 _ fun x B2 H2 s2 ⟨i, _, e⟩ => hb B2 H2 (s1.trans s2) _ fun y B3 H3 s3 ry => by
    subst e
    cases Dq.int_eq ry
    exact ⟨rfl, q _ B3 H3 (s2.trans s3) ⟨_, .bl _⟩⟩
theorem cl_L_gatesX (T : Tx K mg) (p : Addr) (n most : Nat) (hn : 0 < n) (hn2 : n ≤ 12) (hm : most ≤ 100) : Cl P w K mg base "_law_gates" ["_law_pot_here", "_law_lanes_here", "_law_most", "_law_plain"] 4 (spD (some p) [IsV (.ref p), K3.IsD (.int n), K3.IsD (.int most), IsBl] (GsD n most)) :=
  cl_mk T 63 (d := d_L_gates) rfl rfl rfl rfl (by decide +kernel) (fun _ _ _ _ _ _ us hl => match us, hl with | [_, _, _, _], _ => rfl) fun fa fdd FF => by
    refine fn_ok FF sc_L_gates rfl fun cdv A outer s E0 B H vs Q hr S E q => ?_
    obtain ⟨plain, E⟩ := E.open_ (S := fun b : Bool => K3.IsD (.bool b)) 3 rfl fun _ => inferInstance
    refine ws_lcX (N := most) (P := fun d => ∃ g, Sg n g ∧ d = encG g) (own := [("_law_turn", 5)]) S E 4 (wx_range (T_free T) (xp_imp (ev_callP (cl_L_draw T p (most + 1) (by omega) (by omega)) hr (ea2 (ev_v E 0) (Ev.cast (ev_add (ev_v E 2) ev_int) (by rw [Int.natCast_add]; rfl)))) fun i h => by omega) (by omega)) rfl sc_L_gates.nd (blkOk_by (own := [("_law_turn", 5)]) (N := N_L_gates) (sc := defScope s_L_gates) (by decide +kernel)) (fun _ _ _ _ _ => pg_name (i := 5) sc_L_gates.nd rfl (by first | exact Or.inl rfl | exact Or.inr rfl)) (fun x => tg1)
      (fun s0 H0 C cl fp x σ1 B1 H1 s1 E1 => ev_callP (cl_L_gate T p n plain hn hn2) hr (ea3 (ev_v E1 0) (ev_v E1 1) (ev_v E1 3))) (by omega) fun q1 ds B1 H1 s1 S n1 n2 hl hp M E => ?_
    obtain ⟨gs, rfl, hg⟩ := dec_all hp
    rw [List.length_map] at hl
    refine ws_ret S (EvM.ev (em_lcF (xs := gs) (enc := encG) (f := encG) (p := fun g => !plain || !decide (g.kind.s = "add")) (own := [("_law_gate_here", 6)]) E (wk_listM M (ev_v E 4)) rfl sc_L_gates.nd (blkOk_by (own := [("_law_gate_here", 6)]) (N := N_L_gates) (sc := defScope s_L_gates) (by decide +kernel)) (fun _ _ _ _ _ => pg_name (i := 6) sc_L_gates.nd rfl (by first | exact Or.inl rfl | exact Or.inr rfl)) (fun x _ => tg1)
      (fun s0 H0 C cl fp g σ1 B1 H1 hx s1 E1 => et_or2 (et_not (et_val (ev_v E1 3))) fun _ => et_cmp cm_neS (ev_ixT (ev_v E1 6) ev_int (atI_ok (by decide) rfl)) ev_str) (fun s0 H0 C cl fp g σ1 B1 H1 hx _ s1 E1 => ev_v E1 6) (by omega))) fun v B' H' s' r => ?_
    exact q v B' H' s' ⟨_, ⟨gs.filter fun g => !plain || !decide (g.kind.s = "add"), ⟨Nat.le_trans (List.length_filter_le _ _) hl, fun g h => hg g (List.mem_filter.mp h).1⟩, rfl⟩, r⟩
theorem cl_L_right (T : Tx K mg) : ClG P w K mg base "_law_right" ["_law_pot_here"] 13 (fun vs H Q E => ∃ p : Addr, spD (some p) [IsV (.ref p)] (K3.IsD (.bool true)) vs H Q E) :=
  clg_mk T 82 (d := d_L_right) rfl rfl rfl rfl (by decide +kernel) (fun _ _ _ _ _ _ us hl => match us, hl with | [_], _ => rfl) fun fa fdd FF => FnOg.any fun p => by
    refine fn_okG FF sc_L_right rfl fun cdv A outer s E0 B H vs Q hr hgd S E q => ?_
    refine ws_setI S E 1 (xp_addL (P' := fun z => 1 ≤ z ∧ z ≤ 4) ev_int (ev_callP (cl_L_draw T p 4 (by decide) (by decide)) hr (ea2 (ev_v E 0) ev_int)) fun i h => by omega) (fun z B1 H1 hz s1 S E => ?_) sc_L_right.nd
    obtain ⟨n, rfl⟩ : ∃ n : Nat, z = n := ⟨z.toNat, by omega⟩
    have hn1 : 1 ≤ n := by omega
    have hn2 : n ≤ 12 := by omega
    refine ws_setX (P := fun d => ∃ gs, Sgs n 9 gs ∧ d = encGs gs) S E 2 (ev_callP (cl_L_gatesX T p n 9 (by omega) hn2 (by decide)) hr (ea_cons (ev_v E 0) (ea3 (ev_v E 1) ev_int (ev_eqX (ev_callP (cl_L_draw T p 3 (by decide) (by decide)) hr (ea2 (ev_v E 0) ev_int)) ev_int)))) (fun v d B2 H2 hd s2 S E => ?_) sc_L_right.nd
    obtain ⟨gs, hgs, rfl⟩ := hd
    have hlen := hgs.1
    have G : Gd n gs := ⟨hn1, hn2, fun g hg => (hgs.2 g hg).1, by omega⟩
    refine ws_set S E 3 (R := TR 8 n gs) (ev_call (cl_L_told T n 8 gs hn1 hn2 (by decide) (by decide) G.vg) hr (ea3 (ev_v E 1) (ev_v E 2) ev_int)) (fun v B3 H3 s3 S r E => ?_) sc_L_right.nd
    rcases r with ⟨F8, rd⟩ | rfl
    · have F : FewAll 60 n gs := F8.mono (by decide)
      have E := E.put1 (i := 3) (R := K3.IsD (encT (told n gs))) (Nat.le_of_ble_eq_true rfl) rd
      refine ws_no S (et_cmp cm_isN (ev_v E 3) ev_non) fun B4 H4 s4 S => ?_
      have E := E.mono s4.b
      refine ws_set S E 4 (R := K3.IsD (netD K n gs)) (ev_make (ci_NetL T n gs hn1 hn2 G.vg (by omega)) hr (ea2 (ev_v E 1) (ev_v E 2))) (fun v B5 H5 s5 S r E => ?_) sc_L_right.nd
      obtain ⟨fdr, hbr, FR⟩ := cm_repr (P := P) (w := w) (base := base) T n 9 gs hgs hn2 (by decide)
      refine ws_set S E 5 (R := K3.IsD (.str (netS n gs))) (ev_reprG (m_repr T).at_ (m_repr T).fn hbr FR hr hgd (T_free T) (ev_v E 4)) (fun v B6 H6 s6 S r E => ?_) sc_L_right.nd
      refine ws_no S (EvT.cast (et_or2 (et_not (et_val (ev_callP (cl_L_hung_right T p n gs G F) hr (ea_cons (ev_v E 0) (ea3 (ev_v E 4) (ev_v E 2) (ev_v E 3)))))) fun _ => et_not (et_val (ev_callG (cl_L_may_right T n gs G F (by omega)) hr hgd (ea3 (ev_v E 4) (ev_v E 2) (ev_v E 3))))) rfl) fun B7 H7 s7 S => ?_
      have E := E.mono s7.b
      have er : rngD ((2 : Int).toNat) = (List.range 2).map fun (i : Nat) => PyData.int (i : Int) := rfl
      refine ws_for (xs := List.range 2) (enc := fun (j : Nat) => PyData.int (j : Int)) (u := fun j Γ => Γ.set 6 (some (K3.IsD (.int (j : Nat))))) S (by rw [← er]; exact wk_range (T_free T) ev_int (by decide) (by decide)) (pg_name (i := 6) sc_L_right.nd rfl (by first | exact Or.inl rfl | exact Or.inr rfl)) (fun x _ => tg1) rfl PassesOwn.never
        (fun j => [some (IsV (.ref p)), some (K3.IsD (.int n)), some (K3.IsD (encGs gs)), some (K3.IsD (encT (told n gs))), some (K3.IsD (netD K n gs)), some (K3.IsD (.str (netS n gs))), none, none, none]) (fun j _ _ => True) (fun _ _ _ _ _ _ h => h) (fun B1 H1 s1 S => ⟨(E.mono s1.b).to, trivial⟩) (fun j i σ1 B8 H8 hx1 S sb1 E _ => ?_) (fun σ1 B8 H8 S sb E _ => ?_)
      · refine ws_no S (EvT.cast (et_not (et_val (ev_callGP (cl_L_rise_right T p n gs G F (by omega)) hr hgd (ea_cons (ev_v E 0) (ea3 (ev_v E 4) (ev_v E 2) (ev_v E 3)))))) rfl) fun B9 H9 s9 S => ?_
        exact ws_nil ⟨B9, s9.b, S, (E.mono s9.b).to, trivial⟩
      · refine ws_forX (enc := encGs) (PX := fun gss => gss.length ≤ 4 ∧ ∀ gs ∈ gss, Sgs n 12 gs) (u := fun hs Γ => Γ.set 7 (some (K3.IsD (encGs hs)))) S (wx_list ((ev_callP (cl_L_others T p n gs hn1 hn2 hgs) hr (ea3 (ev_v E 0) (ev_v E 2) (ev_v E 1))).imp fun v B' _ ⟨d, ⟨gss, h1, h2, e⟩, r⟩ => ⟨d, ⟨gss, ⟨h1, h2⟩, e⟩, r⟩)) (pg_name (i := 7) sc_L_right.nd rfl (by first | exact Or.inl rfl | exact Or.inr rfl)) (fun x => tg1) rfl PassesOwn.never
          [some (IsV (.ref p)), some (K3.IsD (.int n)), some (K3.IsD (encGs gs)), some (K3.IsD (encT (told n gs))), some (K3.IsD (netD K n gs)), some (K3.IsD (.str (netS n gs))), none, none, none] (fun B1 H1 s1 => (E.mono s1.b).to) (fun gss hs σ2 B9 H9 hP hmem S sb9 E => ?_) (fun σ2 B9 H9 S sb9 E => ?_)
        · have hhs := hP.2 hs hmem
          have hl2 := hhs.1
          have G2 : Gd n hs := ⟨hn1, hn2, fun g hg => (hhs.2 g hg).1, by omega⟩
          refine ws_set S E 8 (R := TR 8 n hs) (ev_call (cl_L_told T n 8 hs hn1 hn2 (by decide) (by decide) G2.vg) hr (ea3 (ev_v E 1) (ev_v E 7) ev_int)) (fun v B10 H10 s10 S r E => ?_) sc_L_right.nd
          rcases r with ⟨F82, rd2⟩ | rfl
          · have E := E.put1 (i := 8) (R := K3.IsD (encT (told n hs))) (Nat.le_of_ble_eq_true rfl) rd2
            refine ws_no S (EvT.cast (et_and2 (et_cmp cm_notN (ev_v E 8) ev_non) fun _ => et_not (et_val (ev_call (cl_L_pair_right T n gs hs G F G2 (F82.mono (by decide))) hr (ea_cons (ev_v E 4) (ea3 (ev_make (ci_NetL T n hs hn1 hn2 G2.vg (by omega)) hr (ea2 (ev_v E 1) (ev_v E 7))) (ev_v E 3) (ev_v E 8)))))) rfl) fun B11 H11 s11 S => ?_
            exact ws_nil ⟨B11, s10.b.trans s11.b, S, (E.mono s11.b).to⟩
          · have E := E.put1 (i := 8) (R := K3.IsD .none) (Nat.le_of_ble_eq_true rfl) .non
            refine ws_no S (EvT.cast (et_and2 (k' := false) (et_cmp (cm_notN (d := .none)) (ev_v E 8) ev_non) fun h => Bool.noConfusion (show false = true from h)) rfl) fun B11 H11 s11 S => ?_
            exact ws_nil ⟨B11, s10.b.trans s11.b, S, (E.mono s11.b).to⟩
        · refine ws_ret S (Ev.cast (ev_and3 (ev_cmp cm_eqS (ev_reprG (m_repr T).at_ (m_repr T).fn hbr FR hr hgd (T_free T) (ev_v E 4)) (ev_v E 5)) (fun _ => ev_cmp cm_isB (ev_call (cl_are_alike T n gs gs G F G F).1 hr (ea2 (ev_v E 4) (ev_v E 4))) ev_bl) (fun _ _ => ev_cmp cm_isN ((ew_call (cl_unlike T n gs gs G F G F).1 hr (ea2 (ev_v E 4) (ev_v E 4))).ev (frz_tl _)) ev_non)) (by rw [unlike_self, decide_eq_true rfl, decide_eq_true rfl]; rfl)) q
    · have E := E.put1 (i := 3) (R := K3.IsD .none) (Nat.le_of_ble_eq_true rfl) .non
      refine ws_ifT S (et_cmp cm_isN (ev_v E 3) ev_non) fun B4 H4 s4 S => ws_ret S ev_bl q
end
end K3
/-! TEXT G18 -/
set_option Elab.async false
set_option linter.all false
set_option maxRecDepth 100000
set_option maxHeartbeats 1000000
namespace K3
open PySem PySem.Spec L2
section
variable {P : Program} {w : World} {K : PySem.W.Frag} {mg : Str → Option Value} {base : Heap}
/-! the script -/
def ScrR (K : PySem.W.Frag) (xs : List Int) : Rt := fun v B => ∃ a, v = .ref a ∧ SqL K B a (xs.map V.int)
theorem SqL.same {K : PySem.W.Frag} {B B' : Hp} {a : Addr} {vs : List V} (h : SqL K B a vs) (e : Same B B') : SqL K B' a vs := by
  rcases h with (h | ⟨o, h⟩) | h
  · exact .inl (.inl (e _ _ h))
  · exact .inl (.inr ⟨o, e _ _ h⟩)
  · exact .inr h
instance {K : PySem.W.Frag} {xs : List Int} : Mn (ScrR K xs) := ⟨fun v B B' e ⟨a, h, r⟩ => ⟨a, h, SqL.same r e⟩⟩
section
variable {m : Option Addr} {X : Cx} {a b e : Expr} {σ : L2.St} {B H : Hp} {pos p1 p2 : Pos} {xs : List Int}
theorem ev_lenS (hm : X.mg "len" = none) (h : Ev m X e σ B H (ScrR X.K xs)) (hg : Gl X "len" := by rfl) (hs : starEach [e] X.env = (false, eval e X.env) :: starEach [] X.env := by rfl) : Ev m X (.Call (.Name "len" p1) [e] [] pos) σ B H (K3.IsD (.int xs.length)) :=
  ev_blt call_len_seq hm boot_len (ea1 h hs) (fun vs B1 H1 Q s1 r q => by
    obtain ⟨v, rfl, a, rfl, h1⟩ := args1 r
    exact ⟨a, xs.map V.int, rfl, .inl (SqL.same h1 s1.s), by rw [List.length_map]; exact q _ B1 H1 s1.here (.int _)⟩) hg (he := hs)
theorem ev_ixS {i x : Int} (ha : Ev m X a σ B H (ScrR X.K xs)) (hb : Ev m X b σ B H (K3.IsD (.int i))) (h : atI (xs.map V.int) i = some (.int x)) (hs : PlainIx b := by intro _ _; rfl) : Ev m X (.Subscript a b pos) σ B H (K3.IsD (.int x)) :=
  ev_by (pe_ix ix_list pe_w pe_w hs) fun B1 H1 s1 Q q => ha B1 H1 s1 _ fun v B2 H2 s2 rx => hb B2 H2 (s1.trans s2) _ fun y B3 H3 s3 ry => by
    obtain ⟨p, rfl, h1⟩ := rx
    exact ⟨p, xs.map V.int, i, .int x, rfl, Dq.int_eq ry, SqL.same h1 (s3.b.trans s3.s), h, q _ B3 H3 (s2.trans s3) (.int x)⟩
theorem cutV_map (xs : List Int) (i j : Option Int) : cutV (xs.map V.int) i j = (cutD xs i j).map V.int := by
  unfold cutV cutD
  rw [List.map_take, List.map_drop, List.length_map]
theorem em_slS {lo hi : Option Expr} {i j : Option Int} (ha : Ev m X a σ B H (ScrR X.K xs)) (hl : EvO m X lo σ B H i) (hh : EvO m X hi σ B H j) : EvM m X (.Subscript a (.Slice lo hi none p2) pos) σ B H ((cutD xs i j).map .int) := by
  obtain ⟨t, h1, h2⟩ := hl
  obtain ⟨t', h3, h4⟩ := hh
  refine fun B1 H1 s1 Q q => wE.of (pe_slice sl_list pe_w h1 h3) (ha B1 H1 s1 _ fun x B2 H2 s2 rx => h2 B2 H2 (s1.trans s2) _ fun B3 H3 s3 => h4 B3 H3 ((s1.trans s2).trans s3) _ fun B4 H4 s4 => ?_)
  obtain ⟨p, rfl, k1⟩ := rx
  exact ⟨p, xs.map V.int, rfl, SqL.same k1 ((s3.trans s4).b.trans s4.s), fun l hl => q l _ B4 _ (((s2.trans s3).trans s4).mnew hl) (((s2.trans s3).trans s4).t l hl) (s4.s.free hl) upd_same (by rw [cutV_map]; exact dq_of_ints _)⟩
end
theorem cl_L_potS (T : Tx K mg) (xs : List Int) (k : Nat) (hk : k < 10) (hl : xs.length ≤ 1000) : Cl P w K mg base "_law_pot" ["_law_script", "_law_k"] 1 (spW [ScrR K xs, K3.IsD (.int k)] WPot) :=
  cl_mk T 59 (d := d_L_pot) rfl rfl rfl rfl (by decide +kernel) (fun _ _ _ _ _ _ us hl => match us, hl with | [_, _], _ => rfl) fun fa fdd FF => by
    refine fn_okW FF sc_L_pot rfl fun cdv A outer s E0 B H vs Q hr S E q => ?_
    have fin : ∀ {c : Int} {σ : L2.St} {B4 H4 : Hp} {Γ : List (Option Rt)}, Stp none B H B4 H4 → Sl σ B4 Γ → Γ[1]? = some (some (K3.IsD (.int (k : Nat)))) → Γ[2]? = some (some (K3.IsD (.int c))) → wSs (XO P w K mg base N_L_pot d_L_pot.qual s_L_pot fa cdv A outer s H E0) (defBody s_L_pot |>.drop 2) { nx := fun _ H' => Q .non H', rt := Q } σ H4 := by
      intro c σ B4 H4 Γ S E g1 g2
      have m1 : (0 : Int) ≤ c % 2147483563 := Int.emod_nonneg _ (by decide)
      have m2 : c % 2147483563 < 2147483563 := Int.emod_lt_of_pos _ (by decide)
      refine ws_retM S (em_lst [.int (max 0 (c - 10 ^ (18 : Int).toNat)), .int ((c % 2147483563 * (2 * (k : Int) + 3) + 751) % 2147483543 + 1)] (ea2 (ev_max2 (T_free T) rfl ev_int (ev_sub (ev_v E 2 (h := g2)) (ev_pow ⟨by decide, by decide, by decide⟩ ev_int ev_int))) (ev_add (ev_mod (by decide) (ev_int1 (T_free T) (ev_add (ev_mul (.inl ⟨by omega, by omega⟩) (ev_mod (by decide) (ev_int1 (T_free T) (ev_v E 2 (h := g2))) ev_int) (ev_add (ev_mul (.inl ⟨by decide, by decide⟩) ev_int (ev_v E 1 (h := g1))) ev_int)) ev_int)) ev_int) ev_int)) (Nat.le_of_ble_eq_true rfl)) fun p zs B' H' s' n1 n2 hz hd => q _ B' H' s' ⟨p, rfl, n1, ?_, n2⟩
      cases hd with
      | cons r1 hd => cases hd with
        | cons r2 hd =>
          cases hd
          rw [Dq.int_eq r1, Dq.int_eq r2] at hz
          refine ⟨_, _, hz, ?_, ?_, ?_⟩
          · exact Int.le_max_left _ _
          · have := Int.emod_nonneg (c % 2147483563 * (2 * (k : Int) + 3) + 751) (show (2147483543 : Int) ≠ 0 by decide); omega
          · have := Int.emod_lt_of_pos (c % 2147483563 * (2 * (k : Int) + 3) + 751) (show (0 : Int) < 2147483543 by decide); omega
    refine ws_set S E 2 (R := K3.IsD (.int (47 * (k : Int) + 29 + (xs.take 1).sum % 1000003))) (ev_add (ev_add (ev_mul (.inl ⟨by decide, by decide⟩) ev_int (ev_v E 1)) ev_int) (ev_mod (by decide) (ev_int1 (T_free T) (ev_sum (ns := xs.take 1) (T_free T) rfl (Ev.cast (EvM.ev (em_slS (xs := xs) (ev_v E 0) eo_none (eo_some ev_int))) (by rw [show (1 : Int) = ((1 : Nat) : Int) from rfl, cut_to])))) ev_int)) (fun v B1 H1 s1 S r E => ?_) sc_L_pot.nd
    refine ws_if S (et_cmp cm_lt (ev_v E 1) (ev_lenS (xs := xs) (T_free T) (ev_v E 0))) (fun h B2 H2 s2 S => ?_) (fun h B2 H2 s2 S => ws_nil (fin S (E.mono s2.b) rfl rfl))
    have E := E.mono s2.b
    have h := of_decide_eq_true h
    have hkx : k < xs.length := by omega
    refine ws_set S E 2 (R := K3.IsD (.int (if xs[k] < 0 then -xs[k] else xs[k]))) (ev_abs (T_free T) (ev_ixS (xs := xs) (ev_v E 0) (ev_v E 1) (atI_map V.int (atI_ok (Int.natCast_nonneg k) (by rw [Int.toNat_natCast]; exact List.getElem?_eq_getElem hkx))))) (fun v B1 H1 s1 S r E => ws_nil (fin S E rfl rfl)) sc_L_pot.nd
/-! the law -/
theorem Stp.drop {p : Addr} {B H B1 H1 B' H' : Hp} (a : Stp none B H B1 H1) (c : Stp (some p) B1 H1 B' H') (h : H p = none) : Stp none B H B' H' :=
  ⟨a.b.trans c.b, c.s, fun x o _ e => c.h x o (fun z => by cases z; rw [h] at e; cases e) (a.same x o e), fun x e => a.t x (c.t x e), fun x o e n => c.f x o (a.same x o e) (a.f x o e n), pot0⟩
def spLaw (K : PySem.W.Frag) : Sp := fun vs H Q _ => ∃ (a : Addr) (ns : List Int), vs = [.ref a] ∧ SqL K H a (ns.map V.int) ∧ ns.length ≤ 63 ∧ ∀ H', Q (.bl true) H'
theorem cl_law (T : Tx K mg) : ClG P w K mg base "law" ["_law_script"] 15 (spLaw K) :=
  clg_mk T 83 (d := d_law) rfl rfl rfl rfl (by decide +kernel) (fun _ _ _ _ _ _ us hl => match us, hl with | [_], _ => rfl) fun fa fdd FF => by
    refine fn_G FF sc_law (fun vs H Q E ⟨a, ns, e, _⟩ => by rw [e]; rfl) fun cdv A outer s H vs Q E0 hr hgd h => ?_
    obtain ⟨a, ns, rfl, hS, hns, q⟩ := h
    have S : Stp none H H H H := Stp.refl (Same.refl H) pot0
    have E : Sl (L2.start N_law [.ref a]) H ([ScrR K ns].map some ++ List.replicate (N_law.length - [ScrR K ns].length) none) := sl_start (Rs := [ScrR K ns]) ⟨⟨a, rfl, hS⟩, trivial⟩
    have hN : ∃ N : Nat, max 1 (min 3 (ns.length : Int)) = (N : Int) ∧ N ≤ 3 := ⟨(max 1 (min 3 (ns.length : Int))).toNat, by omega, by omega⟩
    obtain ⟨N, eN, hN⟩ := hN
    have er : rngD ((N : Int).toNat) = (List.range N).map fun (i : Nat) => PyData.int (i : Int) := by unfold rngD; rw [Int.toNat_natCast]
    refine ws_ret (R := K3.IsD (.bool true)) S (ev_allT (f := fun _ => true) (xs := List.range N) (T_free T) (em_lc (xs := List.range N) (enc := fun (j : Nat) => PyData.int (j : Int)) (f := fun _ => .bool true) (u := fun j Γ => Γ.set 1 (some (K3.IsD (.int (j : Nat))))) (own := [("_law_k", 1)]) E (by
        rw [← er]
        exact (wk_range (T_free T) (Ev.cast (ev_max2 (T_free T) rfl ev_int (ev_min2 (T_free T) rfl ev_int (ev_lenS (xs := ns) (T_free T) (ev_v E 0)))) (congrArg PyData.int eN)) (by omega) (by omega)).s) rfl sc_law.nd (blkOk_by (own := [("_law_k", 1)]) (N := N_law) (sc := defScope s_law) (by decide +kernel)) (fun _ _ _ _ _ => pg_name (i := 1) sc_law.nd rfl (by first | exact Or.inl rfl | exact Or.inr rfl)) (fun x _ => tg1)
      (fun s0 H0 C cl fp x σ1 B1 H1 hx s1 E1 => fun B2 H2 s2 Q2 q2 => ?_) (by rw [List.length_range]; omega)) fun _ _ => rfl) fun v B' H' s' r => by rw [Dq.bl_eq r]; exact q H'
    have hx : x < N := List.mem_range.mp hx
    refine wcallG0 (cl_L_right T) hr hgd (pa_cons pe_w pa_nil) ?_
    have E2 := E1.mono s2.b
    refine (ew_call (X := bX (XO P w K mg base N_law d_law.qual s_law fa cdv A outer s H E0) _ s0 H0 C cl fp) (m := none) (B := B2) (H := H2) (cl_L_potS T ns x (by omega) (by omega)) hr (ea2 (ev_v E2 0) (ev_v E2 1))) B2 H2 s2.here _ fun v B3 H3 B4 H4 s3 s4 w => ?_
    obtain ⟨p, rfl, hp, pot, nb⟩ := w
    refine ⟨p, B4, s4.s, fun p' e => by cases e; exact ⟨pot, nb⟩, ⟨rfl, trivial⟩, fun v B' H' s' r => ?_⟩
    exact q2 v B' H' (Stp.drop (s3.trans s4) s' (s3.t p hp)) r
end
end K3
/-! TEXT Z1 -/
set_option Elab.async false
set_option linter.all false
set_option maxRecDepth 100000
set_option maxHeartbeats 1000000
namespace K3
open PySem PySem.Spec PyProof.Rows L2
/-! ### the law is called behind the top, where no repr is under way -/
section
variable {P : Program} {w : World} {K : PySem.W.Frag} {mg mb : Str → Option Value} {k : Nat} {fa scr : Addr} {nm x : Str} {sp : Sp} {st : Shared} {vs : List Value} {ns : List Int}
abbrev scrO (vs : List Value) : Obj := { cls := .type "list", data := .seq vs.toArray }
/-- from a heap H that tracks nothing but the script, if that -/
theorem law_fromH (inK : K.In st.heap) (nsG : st.heap.Ns mainGlobals mg) (nsB : st.heap.Ns builtinsNs mb) (boot : ∀ y : Str, y ≠ "__name__" → mb y = bootBuiltins y) (lim : st.heap.NoLimit) (gen : st.gens = #[]) (at_ : st.heap.get? scr = some (scrO vs)) (room : Room k callerA)
    (hf : mg nm = some (.ref fa)) (F : ∀ base : Heap, ClG P w K mg base nm [x] k sp) {H : Hp} (only : Only H) (want : sp [.ref scr] H (fun v _ => v = .bl true) fun _ _ _ => False) (hok : HOk P w H st.heap) (one : ∀ b, H b ≠ none → b = scr) (off : H scr ≠ none → K.lookup scr = none) :
    codeAny (model P w) callerA (.call (.ref fa) ⟨[.ref scr], []⟩) (fun r s' => r = .ok (.ret (.bool true)) ∧ OldK st.heap s'.heap ∧ s'.os = st.os ∧ AllBare s'.gens) st := by
  have free : ∀ {b : Addr}, b ≠ scr → H b = none := fun {b} ne => by
    cases z : H b with
    | none => rfl
    | some _ => exact absurd (one b (by rw [z]; simp)) ne
  have nsH : ∀ {b : Addr} {mm : Str → Option Value}, st.heap.Ns b mm → (hidT st.heap H).Ns b mm := fun ⟨ob, es, ep, g1, g2, g3⟩ => ⟨ob, es, ep, hidT_get g1 (free fun z => by
    rw [z, at_] at g1
    cases g1
    exact Data.noConfusion (show Data.seq vs.toArray _ = Data.dict es ep from g2)), g2, g3⟩
  have inH : K.In (hidT st.heap H) := fun b ob g => hidT_get (inK b ob g) (by
    cases z : H b with
    | none => rfl
    | some _ =>
      have eb := one b (by rw [z]; simp)
      rw [eb] at g z
      rw [off (by rw [z]; simp)] at g
      cases g)
  have en : Env0 P w K mg (hidT st.heap H) callerA [] st H := ⟨rfl, ⟨inH, nsH nsG, ⟨mb, nsH nsB, boot⟩, lim.elim fun mc z => ⟨mc, nsH z.1, z.2⟩⟩, fun _ _ g => of_hidT g, Nat.le_of_eq (hidT_size _ _), trivial, fun _ z => absurd z List.not_mem_nil, hok, .of_eq gen⟩
  obtain ⟨f2, fd, g1, _, g3, g4⟩ := (F (hidT st.heap H)).ex
  cases hf.symm.trans g1
  refine codeAny_mono (g4.go callerA [] st H ⟨[.ref scr], []⟩ [.ref scr] [.ref scr] _ _ room rfl en (g3 st [.ref scr] inK rfl) (.cons rfl .nil) want) fun res s2 z => ?_
  cases res with
  | error _ => exact False.elim z
  | ok fl => cases fl with
    | next => exact False.elim z
    | brk => exact False.elim z
    | cont => exact False.elim z
    | ret u =>
      obtain ⟨v, H2, eos, ebare, un, hok2, rel, eq⟩ := z
      cases (show v = V.bl true from eq)
      cases (show u = Value.bool true from rel)
      refine ⟨rfl, OldK.of_keep fun b ob g => ?_, eos, ebare⟩
      cases z : H b with
      | none => exact un.keep b ob g z List.not_mem_nil (by simp)
      | some tr =>
        obtain ⟨o2, xs, z2⟩ := (only b).resolve_left fun c => by rw [z] at c; cases c
        have there := (hok b _ z2).1
        rw [g] at there
        cases there
        exact (hok2 b _ (un.frzs b ob _ z2)).1
theorem law_G (inK : K.In st.heap) (nsG : st.heap.Ns mainGlobals mg) (nsB : st.heap.Ns builtinsNs mb) (boot : ∀ y : Str, y ≠ "__name__" → mb y = bootBuiltins y) (lim : st.heap.NoLimit) (gen : st.gens = #[]) (at_ : st.heap.get? scr = some (scrO vs)) (hin : IntsAre vs ns) (few : ns.length ≤ sizeLine) (room : Room k callerA)
    (hf : mg nm = some (.ref fa)) (F : ∀ base : Heap, ClG P w K mg base nm [x] k sp) (want : ∀ H : Hp, SqL K H scr (ns.map V.int) → sp [.ref scr] H (fun v _ => v = .bl true) fun _ _ _ => False) :
    codeAny (model P w) callerA (.call (.ref fa) ⟨[.ref scr], []⟩) (fun r s' => r = .ok (.ret (.bool true)) ∧ OldK st.heap s'.heap ∧ s'.os = st.os ∧ AllBare s'.gens) st := by
  have rel := vals_ints hin
  cases z : K.lookup scr with
  | some ob =>
    have g := inK scr ob z
    rw [at_] at g
    cases g
    exact law_fromH inK nsG nsB boot lim gen at_ room hf F (H := fun _ => none) (fun _ => .inl rfl) (want _ (.inr ⟨_, vs.toArray, _, z, rfl, rfl, rfl, by rw [List.size_toArray, hin.length]; exact few, by simpa using rel⟩)) (fun _ _ c => nomatch c) (fun _ c => absurd rfl c) fun c => absurd rfl c
  | none =>
    have here : ∀ b, (if b = scr then some (HO.frz (scrO vs) (.lst (ns.map V.int))) else none) ≠ none → b = scr := fun b c => by
      by_cases e : b = scr
      · exact e
      · exact absurd (if_neg e) c
    refine law_fromH inK nsG nsB boot lim gen at_ room hf F (H := fun b => if b = scr then some (.frz (scrO vs) (.lst (ns.map V.int))) else none) (fun b => ?_) (want _ (.inl (.inr ⟨scrO vs, if_pos rfl⟩))) (fun b tr c => ?_) here fun _ => z
    · by_cases e : b = scr
      · exact .inr ⟨_, _, if_pos e⟩
      · exact .inl (if_neg e)
    · have e : b = scr := here b (by show (if b = scr then _ else _) ≠ none; rw [show (if b = scr then some (HO.frz (scrO vs) (.lst (ns.map V.int))) else none) = some tr from c]; simp)
      subst e
      cases (if_pos rfl).symm.trans c
      exact ⟨at_, by rw [List.length_map]; exact few, vs, _, rel, at_⟩
end
end K3
/-! TEXT Z2 -/
open PySem PySem.W PySem.Calls PyProof.Rows
set_option Elab.async false
set_option linter.all false
set_option maxRecDepth 100000 in
set_option maxHeartbeats 0 in
theorem PySem.Challenge.cw_lanelots_k36_whole_hung_and_alike_holds : PySem.Challenge.rw_lanelots_k36_whole_hung_and_alike.Holds := by
  w_on; o_law
  refine HandSHeadRun.head_any (r := OpenLaw.row PySem.Challenge.rw_lanelots_k36_whole_hung_and_alike) (q := view (OpenLaw.row PySem.Challenge.rw_lanelots_k36_whole_hung_and_alike).prog [124]) (H := K3H.hk) (ob := K3H.ob) (M := 20000) (loose := K3H.names) (d := HandSHeadRun.topDef (OpenLaw.row PySem.Challenge.rw_lanelots_k36_whole_hung_and_alike).prog 124) (kwd := []) K3H.ob_eq
    (by kernel_rfl) (fun s => by kernel_rfl) K3H.run (by kernel_rfl) (by kernel_rfl) (by kernel_rfl) (by rfl) (by first | assumption | decide +kernel) (by decide +kernel) ⟨rfl, rfl, rfl, rfl, rfl, by decide +kernel⟩ ?hw ?hc
  case hw => w_witness2
  case hc =>
    refine Att.attach_call (l := PySem.Challenge.rw_lanelots_k36_whole_hung_and_alike) (n := 63) rfl (by kernel_rfl) fun w s0 s1 mg mb fa o pm cd doc a vs ns G Y ho hd hcd hm hobj hin hlen hgen => ?_
    obtain ⟨K, KX, c⟩ := Y
    have hf : mg ("law" : PySem.Str) = some (.ref fa) := by
      have e : (HandSHeadRun.topDef (OpenLaw.row PySem.Challenge.rw_lanelots_k36_whole_hung_and_alike).prog 124).name = ("law" : PySem.Str) := by kernel_rfl
      rw [← e]
      exact hm
    exact K3.law_G KX G.T.g G.T.b G.T.builtins G.T.nolimit hgen hobj hin (Nat.le_trans hlen (by decide)) ⟨rfl, by decide, by decide⟩ hf (fun base => K3.cl_law (K3.tx_mk KX G.T.g c)) fun H hS => ⟨a, ns, rfl, hS, hlen, fun _ => rfl⟩
