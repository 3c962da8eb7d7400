import PyProof.Rows.All
import Wide.All
import OpenK.AllK
import Wide.FinOn
import HandS.ForMost
import KE.KStateDown
import Lean
import HandS.Head0
import HandS.Head1
import HandS.Head2
import HandS.Head3
import HandS.HeadEnd
import HandS.HeadHook1
import HandS.HeadHook2
import HandS.Wide
import HandS.More
import HandS.Zip
import HandS.Iter
import HandS.Gcd
import HandS.IsInst
import HandS.Star
import HandS.Text
import HandS.Deep
import HandS.TupAny
import HandS.Steps
import PyProof.ReprRoads
import HandS.MapJoin
import HandS.Style
import KE.SortData
import KE.GoesEnum
import HandS.TupSets
import HandS.Exc
import HandS.DictComp
import HandS.Conv
import KE.KDictWalk
import KE.Datum
import HandS.SetFor
import HandS.Strs
import HandS.Ends
import HandS.Defaults
import PySem.Challenge.RW_gripsure_k96_rooms_between_all_couples_o
set_option Elab.async false
set_option linter.all false
set_option maxRecDepth 100000
set_option maxHeartbeats 0
namespace K96
open PySem L2
def top (i : Nat) : Stmt := PySem.Challenge.pw_gripsure_k96_rooms_between_all_couples_o.main.body.getD i (.Pass ⟨0, 0, 0, 0⟩)
abbrev st_is_number : Stmt := top 10
theorem sc_is_number : FnScope ["thing"] ["thing"] (defScope st_is_number) := ⟨rfl, rfl, rfl, by decide +kernel, rfl, by decide +kernel, by decide +kernel⟩
abbrev st_is_index : Stmt := top 11
theorem sc_is_index : FnScope ["thing"] ["thing"] (defScope st_is_index) := ⟨rfl, rfl, rfl, by decide +kernel, rfl, by decide +kernel, by decide +kernel⟩
abbrev st_is_sized : Stmt := top 12
theorem sc_is_sized : FnScope ["thing", "many"] ["thing", "many"] (defScope st_is_sized) := ⟨rfl, rfl, rfl, by decide +kernel, rfl, by decide +kernel, by decide +kernel⟩
abbrev st_is_tuple_of : Stmt := top 13
theorem sc_is_tuple_of : FnScope ["thing", "is_one", "one"] ["thing", "is_one"] (defScope st_is_tuple_of) := ⟨rfl, rfl, rfl, by decide +kernel, rfl, by decide +kernel, by decide +kernel⟩
abbrev st_is_couple : Stmt := top 14
theorem sc_is_couple : FnScope ["thing"] ["thing"] (defScope st_is_couple) := ⟨rfl, rfl, rfl, by decide +kernel, rfl, by decide +kernel, by decide +kernel⟩
abbrev st_is_corners : Stmt := top 15
theorem sc_is_corners : FnScope ["thing"] ["thing"] (defScope st_is_corners) := ⟨rfl, rfl, rfl, by decide +kernel, rfl, by decide +kernel, by decide +kernel⟩
abbrev st_direction : Stmt := top 18
theorem sc_direction : FnScope ["a", "b", "many"] ["a", "b"] (defScope st_direction) := ⟨rfl, rfl, rfl, by decide +kernel, rfl, by decide +kernel, by decide +kernel⟩
abbrev st_cross : Stmt := top 19
theorem sc_cross : FnScope ["one", "other"] ["one", "other"] (defScope st_cross) := ⟨rfl, rfl, rfl, by decide +kernel, rfl, by decide +kernel, by decide +kernel⟩
abbrev st_put : Stmt := top 20
theorem sc_put : FnScope ["one", "other"] ["one", "other"] (defScope st_put) := ⟨rfl, rfl, rfl, by decide +kernel, rfl, by decide +kernel, by decide +kernel⟩
abbrev st_back : Stmt := top 21
theorem sc_back : FnScope ["one"] ["one"] (defScope st_back) := ⟨rfl, rfl, rfl, by decide +kernel, rfl, by decide +kernel, by decide +kernel⟩
abbrev st_before : Stmt := top 22
theorem sc_before : FnScope ["one", "other"] ["one", "other"] (defScope st_before) := ⟨rfl, rfl, rfl, by decide +kernel, rfl, by decide +kernel, by decide +kernel⟩
abbrev st_turn_between : Stmt := top 23
theorem sc_turn_between : FnScope ["one", "other"] ["one", "other"] (defScope st_turn_between) := ⟨rfl, rfl, rfl, by decide +kernel, rfl, by decide +kernel, by decide +kernel⟩
abbrev st_between : Stmt := top 24
theorem sc_between : FnScope ["one", "other", "turn"] ["one", "other"] (defScope st_between) := ⟨rfl, rfl, rfl, by decide +kernel, rfl, by decide +kernel, by decide +kernel⟩
abbrev st_size_of : Stmt := top 25
theorem sc_size_of : FnScope ["one"] ["one"] (defScope st_size_of) := ⟨rfl, rfl, rfl, by decide +kernel, rfl, by decide +kernel, by decide +kernel⟩
abbrev st_in_order : Stmt := top 26
theorem sc_in_order : FnScope ["some", "found", "one", "its", "at"] ["some"] (defScope st_in_order) := ⟨rfl, rfl, rfl, by decide +kernel, rfl, by decide +kernel, by decide +kernel⟩
abbrev st_is_less : Stmt := top 27
theorem sc_is_less : FnScope ["one", "other"] ["one", "other"] (defScope st_is_less) := ⟨rfl, rfl, rfl, by decide +kernel, rfl, by decide +kernel, by decide +kernel⟩
abbrev st_turn_of : Stmt := top 31
theorem sc_turn_of : FnScope ["one", "two", "three"] ["one", "two", "three"] (defScope st_turn_of) := ⟨rfl, rfl, rfl, by decide +kernel, rfl, by decide +kernel, by decide +kernel⟩
abbrev st_chain : Stmt := top 32
theorem sc_chain : FnScope ["points", "found", "point"] ["points"] (defScope st_chain) := ⟨rfl, rfl, rfl, by decide +kernel, rfl, by decide +kernel, by decide +kernel⟩
abbrev st_hull_of : Stmt := top 33
theorem sc_hull_of : FnScope ["points", "rows", "point", "low", "high", "found"] ["points"] (defScope st_hull_of) := ⟨rfl, rfl, rfl, by decide +kernel, rfl, by decide +kernel, by decide +kernel⟩
abbrev st_checked_part : Stmt := top 34
theorem sc_checked_part : FnScope ["thing", "number", "x", "y"] ["thing"] (defScope st_checked_part) := ⟨rfl, rfl, rfl, by decide +kernel, rfl, by decide +kernel, by decide +kernel⟩
abbrev st_is_hull : Stmt := top 35
theorem sc_is_hull : FnScope ["corners"] ["corners"] (defScope st_is_hull) := ⟨rfl, rfl, rfl, by decide +kernel, rfl, by decide +kernel, by decide +kernel⟩
abbrev st_is_amid : Stmt := top 37
theorem sc_is_amid : FnScope ["one", "other", "thing", "turn", "whole"] ["one", "other", "thing"] (defScope st_is_amid) := ⟨rfl, rfl, rfl, by decide +kernel, rfl, by decide +kernel, by decide +kernel⟩
abbrev st_squeezed : Stmt := top 38
theorem sc_squeezed : FnScope ["ring", "along", "number", "top", "rest", "other"] ["ring", "along"] (defScope st_squeezed) := ⟨rfl, rfl, rfl, by decide +kernel, rfl, by decide +kernel, by decide +kernel⟩
abbrev st_rest_at : Stmt := top 39
theorem sc_rest_at : FnScope ["ring", "number"] ["ring", "number"] (defScope st_rest_at) := ⟨rfl, rfl, rfl, by decide +kernel, rfl, by decide +kernel, by decide +kernel⟩
abbrev st_top_at : Stmt := top 40
theorem sc_top_at : FnScope ["ring", "number"] ["ring", "number"] (defScope st_top_at) := ⟨rfl, rfl, rfl, by decide +kernel, rfl, by decide +kernel, by decide +kernel⟩
abbrev st_turned_ring : Stmt := top 42
theorem sc_turned_ring : FnScope ["ring", "turn", "rows", "top", "rest"] ["ring", "turn"] (defScope st_turned_ring) := ⟨rfl, rfl, rfl, by decide +kernel, rfl, by decide +kernel, by decide +kernel⟩
abbrev st_leaves : Stmt := top 43
theorem sc_leaves : FnScope ["ring", "turn"] ["ring", "turn"] (defScope st_leaves) := ⟨rfl, rfl, rfl, by decide +kernel, rfl, by decide +kernel, by decide +kernel⟩
abbrev st_same_turns : Stmt := top 44
theorem sc_same_turns : FnScope ["ring", "some", "top", "rest", "turn"] ["ring"] (defScope st_same_turns) := ⟨rfl, rfl, rfl, by decide +kernel, rfl, by decide +kernel, by decide +kernel⟩
abbrev st_unlike_many : Stmt := top 45
theorem sc_unlike_many : FnScope ["ring"] ["ring"] (defScope st_unlike_many) := ⟨rfl, rfl, rfl, by decide +kernel, rfl, by decide +kernel, by decide +kernel⟩
abbrev st_are_alike : Stmt := top 46
theorem sc_are_alike : FnScope ["ring", "one", "other"] ["ring", "one", "other"] (defScope st_are_alike) := ⟨rfl, rfl, rfl, by decide +kernel, rfl, by decide +kernel, by decide +kernel⟩
abbrev st_next_rest : Stmt := top 48
theorem sc_next_rest : FnScope ["ring", "number", "turn"] ["ring", "number", "turn"] (defScope st_next_rest) := ⟨rfl, rfl, rfl, by decide +kernel, rfl, by decide +kernel, by decide +kernel⟩
abbrev st_weight : Stmt := top 50
theorem sc_weight : FnScope ["one"] ["one"] (defScope st_weight) := ⟨rfl, rfl, rfl, by decide +kernel, rfl, by decide +kernel, by decide +kernel⟩
abbrev st_by_weight : Stmt := top 51
theorem sc_by_weight : FnScope ["many", "found", "a", "b"] ["many"] (defScope st_by_weight) := ⟨rfl, rfl, rfl, by decide +kernel, rfl, by decide +kernel, by decide +kernel⟩
abbrev st_is_prime_to : Stmt := top 52
theorem sc_is_prime_to : FnScope ["one", "other"] ["one", "other"] (defScope st_is_prime_to) := ⟨rfl, rfl, rfl, by decide +kernel, rfl, by decide +kernel, by decide +kernel⟩
abbrev st_simplest_amid : Stmt := top 53
theorem sc_simplest_amid : FnScope ["one", "other", "low", "high", "amid"] ["one", "other"] (defScope st_simplest_amid) := ⟨rfl, rfl, rfl, by decide +kernel, rfl, by decide +kernel, by decide +kernel⟩
abbrev st_is_at_most : Stmt := top 54
theorem sc_is_at_most : FnScope ["one", "other"] ["one", "other"] (defScope st_is_at_most) := ⟨rfl, rfl, rfl, by decide +kernel, rfl, by decide +kernel, by decide +kernel⟩
abbrev st_rooms : Stmt := top 55
theorem sc_rooms : FnScope ["ring", "number", "goal", "rest"] ["ring", "number", "goal"] (defScope st_rooms) := ⟨rfl, rfl, rfl, by decide +kernel, rfl, by decide +kernel, by decide +kernel⟩
abbrev st_simplest_to : Stmt := top 56
theorem sc_simplest_to : FnScope ["ring", "number", "goal", "low", "high", "turn"] ["ring", "number", "goal"] (defScope st_simplest_to) := ⟨rfl, rfl, rfl, by decide +kernel, rfl, by decide +kernel, by decide +kernel⟩
abbrev st_turning_points : Stmt := top 58
theorem sc_turning_points : FnScope ["ring", "some", "other", "rest", "top", "its"] ["ring"] (defScope st_turning_points) := ⟨rfl, rfl, rfl, by decide +kernel, rfl, by decide +kernel, by decide +kernel⟩
abbrev st_unlike_turns : Stmt := top 59
theorem sc_unlike_turns : FnScope ["ring", "rows", "found", "number", "turn"] ["ring"] (defScope st_unlike_turns) := ⟨rfl, rfl, rfl, by decide +kernel, rfl, by decide +kernel, by decide +kernel⟩
abbrev st_maps : Stmt := top 60
theorem sc_maps : FnScope ["ring", "found", "turn", "row", "number"] ["ring"] (defScope st_maps) := ⟨rfl, rfl, rfl, by decide +kernel, rfl, by decide +kernel, by decide +kernel⟩
abbrev st_map_of : Stmt := top 62
theorem sc_map_of : FnScope ["ring", "turn", "number"] ["ring", "turn"] (defScope st_map_of) := ⟨rfl, rfl, rfl, by decide +kernel, rfl, by decide +kernel, by decide +kernel⟩
abbrev st_keeping_turns : Stmt := top 63
theorem sc_keeping_turns : FnScope ["ring", "number", "row", "turn"] ["ring", "number"] (defScope st_keeping_turns) := ⟨rfl, rfl, rfl, by decide +kernel, rfl, by decide +kernel, by decide +kernel⟩
abbrev st_is_top : Stmt := top 65
theorem sc_is_top : FnScope ["ring", "along", "top", "rest"] ["ring", "along"] (defScope st_is_top) := ⟨rfl, rfl, rfl, by decide +kernel, rfl, by decide +kernel, by decide +kernel⟩
abbrev st_falls : Stmt := top 66
theorem sc_falls : FnScope ["ring", "along", "number"] ["ring", "along"] (defScope st_falls) := ⟨rfl, rfl, rfl, by decide +kernel, rfl, by decide +kernel, by decide +kernel⟩
abbrev st_a_little_on : Stmt := top 67
theorem sc_a_little_on : FnScope ["ring", "turn", "rows"] ["ring", "turn"] (defScope st_a_little_on) := ⟨rfl, rfl, rfl, by decide +kernel, rfl, by decide +kernel, by decide +kernel⟩
abbrev st_check_kind : Stmt := top 69
theorem sc_check_kind : FnScope ["ring", "kind"] ["ring", "kind"] (defScope st_check_kind) := ⟨rfl, rfl, rfl, by decide +kernel, rfl, by decide +kernel, by decide +kernel⟩
abbrev st_turn_to_rest : Stmt := top 70
theorem sc_turn_to_rest : FnScope ["ring", "number", "kind"] ["ring", "number", "kind"] (defScope st_turn_to_rest) := ⟨rfl, rfl, rfl, by decide +kernel, rfl, by decide +kernel, by decide +kernel⟩
abbrev st_word_lines : Stmt := top 74
theorem sc_word_lines : FnScope ["text", "rows", "found", "number", "row", "words", "word"] ["text"] (defScope st_word_lines) := ⟨rfl, rfl, rfl, by decide +kernel, rfl, by decide +kernel, by decide +kernel⟩
abbrev st_index_in : Stmt := top 75
theorem sc_index_in : FnScope ["word", "sign"] ["word"] (defScope st_index_in) := ⟨rfl, rfl, rfl, by decide +kernel, rfl, by decide +kernel, by decide +kernel⟩
abbrev st_number_in : Stmt := top 76
theorem sc_number_in : FnScope ["word", "found"] ["word"] (defScope st_number_in) := ⟨rfl, rfl, rfl, by decide +kernel, rfl, by decide +kernel, by decide +kernel⟩
abbrev st_corner_in : Stmt := top 78
theorem sc_corner_in : FnScope ["line", "words", "found", "at", "word", "number"] ["line", "words"] (defScope st_corner_in) := ⟨rfl, rfl, rfl, by decide +kernel, rfl, by decide +kernel, by decide +kernel⟩
abbrev st_read_corners : Stmt := top 79
theorem sc_read_corners : FnScope ["text", "line", "words"] ["text"] (defScope st_read_corners) := ⟨rfl, rfl, rfl, by decide +kernel, rfl, by decide +kernel, by decide +kernel⟩
abbrev st_read_text : Stmt := top 80
theorem sc_read_text : FnScope ["text", "corners"] ["text"] (defScope st_read_text) := ⟨rfl, rfl, rfl, by decide +kernel, rfl, by decide +kernel, by decide +kernel⟩
abbrev st_read_whole : Stmt := top 82
theorem sc_read_whole : FnScope ["text"] ["text"] (defScope st_read_whole) := ⟨rfl, rfl, rfl, by decide +kernel, rfl, by decide +kernel, by decide +kernel⟩
abbrev st__law_bag : Stmt := top 84
theorem sc__law_bag : FnScope ["script", "cell"] ["script"] (defScope st__law_bag) := ⟨rfl, rfl, rfl, by decide +kernel, rfl, by decide +kernel, by decide +kernel⟩
abbrev st__law_take : Stmt := top 85
theorem sc__law_take : FnScope ["bag", "many", "cell", "stirred", "value", "begin", "second"] ["bag", "many"] (defScope st__law_take) := ⟨rfl, rfl, rfl, by decide +kernel, rfl, by decide +kernel, by decide +kernel⟩
abbrev st__law_some : Stmt := top 86
theorem sc__law_some : FnScope ["bag", "things"] ["bag", "things"] (defScope st__law_some) := ⟨rfl, rfl, rfl, by decide +kernel, rfl, by decide +kernel, by decide +kernel⟩
abbrev st__law_mixed : Stmt := top 87
theorem sc__law_mixed : FnScope ["bag", "things", "found", "thing"] ["bag", "things"] (defScope st__law_mixed) := ⟨rfl, rfl, rfl, by decide +kernel, rfl, by decide +kernel, by decide +kernel⟩
abbrev st__law_alike : Stmt := top 88
theorem sc__law_alike : FnScope ["found", "due"] ["found", "due"] (defScope st__law_alike) := ⟨rfl, rfl, rfl, by decide +kernel, rfl, by decide +kernel, by decide +kernel⟩
abbrev st__law_gcd : Stmt := top 89
theorem sc__law_gcd : FnScope ["a", "b", "turn"] ["a", "b"] (defScope st__law_gcd) := ⟨rfl, rfl, rfl, by decide +kernel, rfl, by decide +kernel, by decide +kernel⟩
abbrev st__law_direction : Stmt := top 90
theorem sc__law_direction : FnScope ["a", "b", "many"] ["a", "b"] (defScope st__law_direction) := ⟨rfl, rfl, rfl, by decide +kernel, rfl, by decide +kernel, by decide +kernel⟩
abbrev st__law_cross : Stmt := top 91
theorem sc__law_cross : FnScope ["one", "other"] ["one", "other"] (defScope st__law_cross) := ⟨rfl, rfl, rfl, by decide +kernel, rfl, by decide +kernel, by decide +kernel⟩
abbrev st__law_put : Stmt := top 92
theorem sc__law_put : FnScope ["one", "other"] ["one", "other"] (defScope st__law_put) := ⟨rfl, rfl, rfl, by decide +kernel, rfl, by decide +kernel, by decide +kernel⟩
abbrev st__law_back : Stmt := top 93
theorem sc__law_back : FnScope ["one"] ["one"] (defScope st__law_back) := ⟨rfl, rfl, rfl, by decide +kernel, rfl, by decide +kernel, by decide +kernel⟩
abbrev st__law_turn : Stmt := top 94
theorem sc__law_turn : FnScope ["one", "other"] ["one", "other"] (defScope st__law_turn) := ⟨rfl, rfl, rfl, by decide +kernel, rfl, by decide +kernel, by decide +kernel⟩
abbrev st__law_in_order : Stmt := top 95
theorem sc__law_in_order : FnScope ["some", "found", "one", "at", "its"] ["some"] (defScope st__law_in_order) := ⟨rfl, rfl, rfl, by decide +kernel, rfl, by decide +kernel, by decide +kernel⟩
abbrev st__law_amid : Stmt := top 96
theorem sc__law_amid : FnScope ["one", "other", "thing", "turn", "whole"] ["one", "other", "thing"] (defScope st__law_amid) := ⟨rfl, rfl, rfl, by decide +kernel, rfl, by decide +kernel, by decide +kernel⟩
abbrev st__law_between : Stmt := top 97
theorem sc__law_between : FnScope ["one", "other", "turn"] ["one", "other"] (defScope st__law_between) := ⟨rfl, rfl, rfl, by decide +kernel, rfl, by decide +kernel, by decide +kernel⟩
abbrev st__law_drawn_direction : Stmt := top 98
theorem sc__law_drawn_direction : FnScope ["bag", "most", "a", "b"] ["bag", "most"] (defScope st__law_drawn_direction) := ⟨rfl, rfl, rfl, by decide +kernel, rfl, by decide +kernel, by decide +kernel⟩
abbrev st__law_hull : Stmt := top 99
theorem sc__law_hull : FnScope ["spots", "rows", "here", "found", "turn", "goal", "spot", "one", "other", "side", "far"] ["spots"] (defScope st__law_hull) := ⟨rfl, rfl, rfl, by decide +kernel, rfl, by decide +kernel, by decide +kernel⟩
abbrev st__law_part : Stmt := top 100
theorem sc__law_part : FnScope ["bag", "most", "way", "a", "b", "spots", "turn", "k", "x", "y", "found"] ["bag", "most"] (defScope st__law_part) := ⟨rfl, rfl, rfl, by decide +kernel, rfl, by decide +kernel, by decide +kernel⟩
abbrev st__law_spread : Stmt := top 101
theorem sc__law_spread : FnScope ["part", "along", "rows", "corner"] ["part", "along"] (defScope st__law_spread) := ⟨rfl, rfl, rfl, by decide +kernel, rfl, by decide +kernel, by decide +kernel⟩
abbrev st__law_width : Stmt := top 102
theorem sc__law_width : FnScope ["part", "along", "many", "long", "shared"] ["part", "along"] (defScope st__law_width) := ⟨rfl, rfl, rfl, by decide +kernel, rfl, by decide +kernel, by decide +kernel⟩
abbrev st__law_wider : Stmt := top 103
theorem sc__law_wider : FnScope ["one", "other"] ["one", "other"] (defScope st__law_wider) := ⟨rfl, rfl, rfl, by decide +kernel, rfl, by decide +kernel, by decide +kernel⟩
abbrev st__law_side_ways : Stmt := top 104
theorem sc__law_side_ways : FnScope ["part", "one", "other"] ["part"] (defScope st__law_side_ways) := ⟨rfl, rfl, rfl, by decide +kernel, rfl, by decide +kernel, by decide +kernel⟩
abbrev st__law_ring : Stmt := top 105
theorem sc__law_ring : FnScope ["part", "ways", "up", "k", "one", "other", "mid", "rows", "corner", "low", "high", "top", "found", "some", "way", "rest"] ["part"] (defScope st__law_ring) := ⟨rfl, rfl, rfl, by decide +kernel, rfl, by decide +kernel, by decide +kernel⟩
abbrev st__law_squeezed : Stmt := top 106
theorem sc__law_squeezed : FnScope ["ring", "along", "found", "k"] ["ring", "along"] (defScope st__law_squeezed) := ⟨rfl, rfl, rfl, by decide +kernel, rfl, by decide +kernel, by decide +kernel⟩
abbrev st__law_same_turns : Stmt := top 107
theorem sc__law_same_turns : FnScope ["ring", "rows", "found", "top", "rest", "turn", "one", "other"] ["ring"] (defScope st__law_same_turns) := ⟨rfl, rfl, rfl, by decide +kernel, rfl, by decide +kernel, by decide +kernel⟩
abbrev st__law_kinds : Stmt := top 108
theorem sc__law_kinds : FnScope ["ring"] ["ring"] (defScope st__law_kinds) := ⟨rfl, rfl, rfl, by decide +kernel, rfl, by decide +kernel, by decide +kernel⟩
abbrev st__law_next : Stmt := top 109
theorem sc__law_next : FnScope ["ring", "number", "turn"] ["ring", "number", "turn"] (defScope st__law_next) := ⟨rfl, rfl, rfl, by decide +kernel, rfl, by decide +kernel, by decide +kernel⟩
abbrev st__law_turns : Stmt := top 110
theorem sc__law_turns : FnScope ["ring", "some", "other", "rest", "top", "its", "rows", "found", "k"] ["ring"] (defScope st__law_turns) := ⟨rfl, rfl, rfl, by decide +kernel, rfl, by decide +kernel, by decide +kernel⟩
abbrev st__law_text_rows : Stmt := top 111
theorem sc__law_text_rows : FnScope ["part", "x", "y"] ["part"] (defScope st__law_text_rows) := ⟨rfl, rfl, rfl, by decide +kernel, rfl, by decide +kernel, by decide +kernel⟩
abbrev st__law_loose : Stmt := top 112
theorem sc__law_loose : FnScope ["bag", "rows", "found", "row"] ["bag", "rows"] (defScope st__law_loose) := ⟨rfl, rfl, rfl, by decide +kernel, rfl, by decide +kernel, by decide +kernel⟩
abbrev st__law_tied : Stmt := top 113
theorem sc__law_tied : FnScope ["bag", "most", "turn", "spots", "k", "x", "y", "found"] ["bag", "most"] (defScope st__law_tied) := ⟨rfl, rfl, rfl, by decide +kernel, rfl, by decide +kernel, by decide +kernel⟩
abbrev st__law_text : Stmt := top 114
theorem sc__law_text : FnScope ["bag", "part"] ["bag", "part"] (defScope st__law_text) := ⟨rfl, rfl, rfl, by decide +kernel, rfl, by decide +kernel, by decide +kernel⟩
abbrev st__law_richest : Stmt := top 115
theorem sc__law_richest : FnScope ["parts", "best", "part"] ["parts"] (defScope st__law_richest) := ⟨rfl, rfl, rfl, by decide +kernel, rfl, by decide +kernel, by decide +kernel⟩
abbrev st__law_is_firm : Stmt := top 116
theorem sc__law_is_firm : FnScope ["ring", "turn", "ups", "top", "rest"] ["ring", "turn"] (defScope st__law_is_firm) := ⟨rfl, rfl, rfl, by decide +kernel, rfl, by decide +kernel, by decide +kernel⟩
abbrev st_law : Stmt := top 117
theorem sc_law : FnScope ["script", "bag", "lap", "part", "told", "ring", "size", "points", "top", "low", "its", "rest", "drawn", "number", "rows", "goal", "due", "within", "borders", "lands", "along", "sides", "high", "simple", "mid", "led_there", "turn", "many", "row"] ["script"] (defScope st_law) := ⟨rfl, rfl, rfl, by decide +kernel, rfl, by decide +kernel, by decide +kernel⟩
end K96

/-! KH0: the run of the top, the facts that are looked at behind it. -/
namespace K96
open PySem PySem.Spec PyProof.Rows L2
def fa0 : List He.Fa := [.free "len", .free "abs", .free "all", .free "any", .free "int", .free "str", .free "list", .free "tuple", .free "repr", .free "isinstance", .free "max", .free "min", .free "sorted", .free "set", .free "range", .free "enumerate", .free "zip", .free "bool", .str "DIGITS" "0123456789", .glo "EAST", .int "MOST_CORNERS" 10, .int "MOST_FAR" 99, .int "MOST_LINES" 200, .int "MOST_FIGURES" 4, .glo "is_number", .glo "is_index", .glo "is_sized", .glo "is_tuple_of", .glo "is_couple", .glo "is_corners"]
def fa1 : List He.Fa := [.glo "direction", .glo "cross", .glo "put", .glo "back", .glo "before", .glo "turn_between", .glo "between", .glo "size_of", .glo "in_order", .glo "is_less", .glo "turn_of", .glo "chain", .glo "hull_of", .glo "checked_part", .glo "is_hull", .glo "is_amid", .glo "squeezed", .glo "rest_at", .glo "top_at", .glo "turned_ring", .glo "leaves", .glo "same_turns", .glo "unlike_many", .glo "are_alike", .glo "next_rest", .glo "weight", .glo "by_weight", .glo "is_prime_to", .glo "simplest_amid", .glo "is_at_most"]
def fa2 : List He.Fa := [.glo "rooms", .glo "simplest_to", .glo "turning_points", .glo "unlike_turns", .glo "maps", .glo "map_of", .glo "keeping_turns", .glo "is_top", .glo "falls", .glo "a_little_on", .glo "check_kind", .glo "turn_to_rest", .glo "word_lines", .glo "index_in", .glo "number_in", .glo "corner_in", .glo "read_corners", .glo "read_text", .glo "read_whole", .glo "_law_bag", .glo "_law_take", .glo "_law_some", .glo "_law_mixed", .glo "_law_alike", .glo "_law_gcd", .glo "_law_direction", .glo "_law_cross", .glo "_law_put", .glo "_law_back", .glo "_law_turn"]
def fa3 : List He.Fa := [.glo "_law_in_order", .glo "_law_amid", .glo "_law_between", .glo "_law_drawn_direction", .glo "_law_hull", .glo "_law_part", .glo "_law_spread", .glo "_law_width", .glo "_law_wider", .glo "_law_side_ways", .glo "_law_ring", .glo "_law_squeezed", .glo "_law_same_turns", .glo "_law_kinds", .glo "_law_next", .glo "_law_turns", .glo "_law_text_rows", .glo "_law_loose", .glo "_law_tied", .glo "_law_text", .glo "_law_richest", .glo "_law_is_firm", .glo "law"]
def fas : List He.Fa := fa0 ++ fa1 ++ fa2 ++ fa3
def df_is_number : He.DefD := ⟨("is_number", none), "is_number", "is_number", defArgs st_is_number, defBody st_is_number, defScope st_is_number, [], []⟩
def df_is_index : He.DefD := ⟨("is_index", none), "is_index", "is_index", defArgs st_is_index, defBody st_is_index, defScope st_is_index, [], []⟩
def df_is_sized : He.DefD := ⟨("is_sized", none), "is_sized", "is_sized", defArgs st_is_sized, defBody st_is_sized, defScope st_is_sized, [], []⟩
def df_is_tuple_of : He.DefD := ⟨("is_tuple_of", none), "is_tuple_of", "is_tuple_of", defArgs st_is_tuple_of, defBody st_is_tuple_of, defScope st_is_tuple_of, [], []⟩
def df_is_couple : He.DefD := ⟨("is_couple", none), "is_couple", "is_couple", defArgs st_is_couple, defBody st_is_couple, defScope st_is_couple, [], []⟩
def df_is_corners : He.DefD := ⟨("is_corners", none), "is_corners", "is_corners", defArgs st_is_corners, defBody st_is_corners, defScope st_is_corners, [], []⟩
def df_direction : He.DefD := ⟨("direction", none), "direction", "direction", defArgs st_direction, defBody st_direction, defScope st_direction, [], []⟩
def df_cross : He.DefD := ⟨("cross", none), "cross", "cross", defArgs st_cross, defBody st_cross, defScope st_cross, [], []⟩
def df_put : He.DefD := ⟨("put", none), "put", "put", defArgs st_put, defBody st_put, defScope st_put, [], []⟩
def df_back : He.DefD := ⟨("back", none), "back", "back", defArgs st_back, defBody st_back, defScope st_back, [], []⟩
def df_before : He.DefD := ⟨("before", none), "before", "before", defArgs st_before, defBody st_before, defScope st_before, [], []⟩
def df_turn_between : He.DefD := ⟨("turn_between", none), "turn_between", "turn_between", defArgs st_turn_between, defBody st_turn_between, defScope st_turn_between, [], []⟩
def df_between : He.DefD := ⟨("between", none), "between", "between", defArgs st_between, defBody st_between, defScope st_between, [], []⟩
def df_size_of : He.DefD := ⟨("size_of", none), "size_of", "size_of", defArgs st_size_of, defBody st_size_of, defScope st_size_of, [], []⟩
def df_in_order : He.DefD := ⟨("in_order", none), "in_order", "in_order", defArgs st_in_order, defBody st_in_order, defScope st_in_order, [], []⟩
def df_is_less : He.DefD := ⟨("is_less", none), "is_less", "is_less", defArgs st_is_less, defBody st_is_less, defScope st_is_less, [], []⟩
def df_turn_of : He.DefD := ⟨("turn_of", none), "turn_of", "turn_of", defArgs st_turn_of, defBody st_turn_of, defScope st_turn_of, [], []⟩
def df_chain : He.DefD := ⟨("chain", none), "chain", "chain", defArgs st_chain, defBody st_chain, defScope st_chain, [], []⟩
def df_hull_of : He.DefD := ⟨("hull_of", none), "hull_of", "hull_of", defArgs st_hull_of, defBody st_hull_of, defScope st_hull_of, [], []⟩
def df_checked_part : He.DefD := ⟨("checked_part", none), "checked_part", "checked_part", defArgs st_checked_part, defBody st_checked_part, defScope st_checked_part, [], []⟩
def df_is_hull : He.DefD := ⟨("is_hull", none), "is_hull", "is_hull", defArgs st_is_hull, defBody st_is_hull, defScope st_is_hull, [], []⟩
def df_is_amid : He.DefD := ⟨("is_amid", none), "is_amid", "is_amid", defArgs st_is_amid, defBody st_is_amid, defScope st_is_amid, [], []⟩
def df_squeezed : He.DefD := ⟨("squeezed", none), "squeezed", "squeezed", defArgs st_squeezed, defBody st_squeezed, defScope st_squeezed, [], []⟩
def df_rest_at : He.DefD := ⟨("rest_at", none), "rest_at", "rest_at", defArgs st_rest_at, defBody st_rest_at, defScope st_rest_at, [], []⟩
def df_top_at : He.DefD := ⟨("top_at", none), "top_at", "top_at", defArgs st_top_at, defBody st_top_at, defScope st_top_at, [], []⟩
def df_turned_ring : He.DefD := ⟨("turned_ring", none), "turned_ring", "turned_ring", defArgs st_turned_ring, defBody st_turned_ring, defScope st_turned_ring, [], []⟩
def df_leaves : He.DefD := ⟨("leaves", none), "leaves", "leaves", defArgs st_leaves, defBody st_leaves, defScope st_leaves, [], []⟩
def df_same_turns : He.DefD := ⟨("same_turns", none), "same_turns", "same_turns", defArgs st_same_turns, defBody st_same_turns, defScope st_same_turns, [], []⟩
def df_unlike_many : He.DefD := ⟨("unlike_many", none), "unlike_many", "unlike_many", defArgs st_unlike_many, defBody st_unlike_many, defScope st_unlike_many, [], []⟩
def df_are_alike : He.DefD := ⟨("are_alike", none), "are_alike", "are_alike", defArgs st_are_alike, defBody st_are_alike, defScope st_are_alike, [], []⟩
def df_next_rest : He.DefD := ⟨("next_rest", none), "next_rest", "next_rest", defArgs st_next_rest, defBody st_next_rest, defScope st_next_rest, [], []⟩
def df_weight : He.DefD := ⟨("weight", none), "weight", "weight", defArgs st_weight, defBody st_weight, defScope st_weight, [], []⟩
def df_by_weight : He.DefD := ⟨("by_weight", none), "by_weight", "by_weight", defArgs st_by_weight, defBody st_by_weight, defScope st_by_weight, [], []⟩
def df_is_prime_to : He.DefD := ⟨("is_prime_to", none), "is_prime_to", "is_prime_to", defArgs st_is_prime_to, defBody st_is_prime_to, defScope st_is_prime_to, [], []⟩
def df_simplest_amid : He.DefD := ⟨("simplest_amid", none), "simplest_amid", "simplest_amid", defArgs st_simplest_amid, defBody st_simplest_amid, defScope st_simplest_amid, [], []⟩
def df_is_at_most : He.DefD := ⟨("is_at_most", none), "is_at_most", "is_at_most", defArgs st_is_at_most, defBody st_is_at_most, defScope st_is_at_most, [], []⟩
def df_rooms : He.DefD := ⟨("rooms", none), "rooms", "rooms", defArgs st_rooms, defBody st_rooms, defScope st_rooms, [], []⟩
def df_simplest_to : He.DefD := ⟨("simplest_to", none), "simplest_to", "simplest_to", defArgs st_simplest_to, defBody st_simplest_to, defScope st_simplest_to, [], []⟩
def df_turning_points : He.DefD := ⟨("turning_points", none), "turning_points", "turning_points", defArgs st_turning_points, defBody st_turning_points, defScope st_turning_points, [], []⟩
def df_unlike_turns : He.DefD := ⟨("unlike_turns", none), "unlike_turns", "unlike_turns", defArgs st_unlike_turns, defBody st_unlike_turns, defScope st_unlike_turns, [], []⟩
def df_maps : He.DefD := ⟨("maps", none), "maps", "maps", defArgs st_maps, defBody st_maps, defScope st_maps, [], []⟩
def df_map_of : He.DefD := ⟨("map_of", none), "map_of", "map_of", defArgs st_map_of, defBody st_map_of, defScope st_map_of, [], []⟩
def df_keeping_turns : He.DefD := ⟨("keeping_turns", none), "keeping_turns", "keeping_turns", defArgs st_keeping_turns, defBody st_keeping_turns, defScope st_keeping_turns, [], []⟩
def df_is_top : He.DefD := ⟨("is_top", none), "is_top", "is_top", defArgs st_is_top, defBody st_is_top, defScope st_is_top, [], []⟩
def df_falls : He.DefD := ⟨("falls", none), "falls", "falls", defArgs st_falls, defBody st_falls, defScope st_falls, [], []⟩
def df_a_little_on : He.DefD := ⟨("a_little_on", none), "a_little_on", "a_little_on", defArgs st_a_little_on, defBody st_a_little_on, defScope st_a_little_on, [], []⟩
def df_check_kind : He.DefD := ⟨("check_kind", none), "check_kind", "check_kind", defArgs st_check_kind, defBody st_check_kind, defScope st_check_kind, [], []⟩
def df_turn_to_rest : He.DefD := ⟨("turn_to_rest", none), "turn_to_rest", "turn_to_rest", defArgs st_turn_to_rest, defBody st_turn_to_rest, defScope st_turn_to_rest, [], []⟩
def df_word_lines : He.DefD := ⟨("word_lines", none), "word_lines", "word_lines", defArgs st_word_lines, defBody st_word_lines, defScope st_word_lines, [], []⟩
def df_index_in : He.DefD := ⟨("index_in", none), "index_in", "index_in", defArgs st_index_in, defBody st_index_in, defScope st_index_in, [], []⟩
def df_number_in : He.DefD := ⟨("number_in", none), "number_in", "number_in", defArgs st_number_in, defBody st_number_in, defScope st_number_in, [], []⟩
def df_corner_in : He.DefD := ⟨("corner_in", none), "corner_in", "corner_in", defArgs st_corner_in, defBody st_corner_in, defScope st_corner_in, [], []⟩
def df_read_corners : He.DefD := ⟨("read_corners", none), "read_corners", "read_corners", defArgs st_read_corners, defBody st_read_corners, defScope st_read_corners, [], []⟩
def df_read_text : He.DefD := ⟨("read_text", none), "read_text", "read_text", defArgs st_read_text, defBody st_read_text, defScope st_read_text, [], []⟩
def df_read_whole : He.DefD := ⟨("read_whole", none), "read_whole", "read_whole", defArgs st_read_whole, defBody st_read_whole, defScope st_read_whole, [], []⟩
def df__law_bag : He.DefD := ⟨("_law_bag", none), "_law_bag", "_law_bag", defArgs st__law_bag, defBody st__law_bag, defScope st__law_bag, [], []⟩
def df__law_take : He.DefD := ⟨("_law_take", none), "_law_take", "_law_take", defArgs st__law_take, defBody st__law_take, defScope st__law_take, [], []⟩
def df__law_some : He.DefD := ⟨("_law_some", none), "_law_some", "_law_some", defArgs st__law_some, defBody st__law_some, defScope st__law_some, [], []⟩
def df__law_mixed : He.DefD := ⟨("_law_mixed", none), "_law_mixed", "_law_mixed", defArgs st__law_mixed, defBody st__law_mixed, defScope st__law_mixed, [], []⟩
def df__law_alike : He.DefD := ⟨("_law_alike", none), "_law_alike", "_law_alike", defArgs st__law_alike, defBody st__law_alike, defScope st__law_alike, [], []⟩
def df__law_gcd : He.DefD := ⟨("_law_gcd", none), "_law_gcd", "_law_gcd", defArgs st__law_gcd, defBody st__law_gcd, defScope st__law_gcd, [], []⟩
def df__law_direction : He.DefD := ⟨("_law_direction", none), "_law_direction", "_law_direction", defArgs st__law_direction, defBody st__law_direction, defScope st__law_direction, [], []⟩
def df__law_cross : He.DefD := ⟨("_law_cross", none), "_law_cross", "_law_cross", defArgs st__law_cross, defBody st__law_cross, defScope st__law_cross, [], []⟩
def df__law_put : He.DefD := ⟨("_law_put", none), "_law_put", "_law_put", defArgs st__law_put, defBody st__law_put, defScope st__law_put, [], []⟩
def df__law_back : He.DefD := ⟨("_law_back", none), "_law_back", "_law_back", defArgs st__law_back, defBody st__law_back, defScope st__law_back, [], []⟩
def df__law_turn : He.DefD := ⟨("_law_turn", none), "_law_turn", "_law_turn", defArgs st__law_turn, defBody st__law_turn, defScope st__law_turn, [], []⟩
def df__law_in_order : He.DefD := ⟨("_law_in_order", none), "_law_in_order", "_law_in_order", defArgs st__law_in_order, defBody st__law_in_order, defScope st__law_in_order, [], []⟩
def df__law_amid : He.DefD := ⟨("_law_amid", none), "_law_amid", "_law_amid", defArgs st__law_amid, defBody st__law_amid, defScope st__law_amid, [], []⟩
def df__law_between : He.DefD := ⟨("_law_between", none), "_law_between", "_law_between", defArgs st__law_between, defBody st__law_between, defScope st__law_between, [], []⟩
def df__law_drawn_direction : He.DefD := ⟨("_law_drawn_direction", none), "_law_drawn_direction", "_law_drawn_direction", defArgs st__law_drawn_direction, defBody st__law_drawn_direction, defScope st__law_drawn_direction, [], []⟩
def df__law_hull : He.DefD := ⟨("_law_hull", none), "_law_hull", "_law_hull", defArgs st__law_hull, defBody st__law_hull, defScope st__law_hull, [], []⟩
def df__law_part : He.DefD := ⟨("_law_part", none), "_law_part", "_law_part", defArgs st__law_part, defBody st__law_part, defScope st__law_part, [], []⟩
def df__law_spread : He.DefD := ⟨("_law_spread", none), "_law_spread", "_law_spread", defArgs st__law_spread, defBody st__law_spread, defScope st__law_spread, [], []⟩
def df__law_width : He.DefD := ⟨("_law_width", none), "_law_width", "_law_width", defArgs st__law_width, defBody st__law_width, defScope st__law_width, [], []⟩
def df__law_wider : He.DefD := ⟨("_law_wider", none), "_law_wider", "_law_wider", defArgs st__law_wider, defBody st__law_wider, defScope st__law_wider, [], []⟩
def df__law_side_ways : He.DefD := ⟨("_law_side_ways", none), "_law_side_ways", "_law_side_ways", defArgs st__law_side_ways, defBody st__law_side_ways, defScope st__law_side_ways, [], []⟩
def df__law_ring : He.DefD := ⟨("_law_ring", none), "_law_ring", "_law_ring", defArgs st__law_ring, defBody st__law_ring, defScope st__law_ring, [], []⟩
def df__law_squeezed : He.DefD := ⟨("_law_squeezed", none), "_law_squeezed", "_law_squeezed", defArgs st__law_squeezed, defBody st__law_squeezed, defScope st__law_squeezed, [], []⟩
def df__law_same_turns : He.DefD := ⟨("_law_same_turns", none), "_law_same_turns", "_law_same_turns", defArgs st__law_same_turns, defBody st__law_same_turns, defScope st__law_same_turns, [], []⟩
def df__law_kinds : He.DefD := ⟨("_law_kinds", none), "_law_kinds", "_law_kinds", defArgs st__law_kinds, defBody st__law_kinds, defScope st__law_kinds, [], []⟩
def df__law_next : He.DefD := ⟨("_law_next", none), "_law_next", "_law_next", defArgs st__law_next, defBody st__law_next, defScope st__law_next, [], []⟩
def df__law_turns : He.DefD := ⟨("_law_turns", none), "_law_turns", "_law_turns", defArgs st__law_turns, defBody st__law_turns, defScope st__law_turns, [], []⟩
def df__law_text_rows : He.DefD := ⟨("_law_text_rows", none), "_law_text_rows", "_law_text_rows", defArgs st__law_text_rows, defBody st__law_text_rows, defScope st__law_text_rows, [], []⟩
def df__law_loose : He.DefD := ⟨("_law_loose", none), "_law_loose", "_law_loose", defArgs st__law_loose, defBody st__law_loose, defScope st__law_loose, [], []⟩
def df__law_tied : He.DefD := ⟨("_law_tied", none), "_law_tied", "_law_tied", defArgs st__law_tied, defBody st__law_tied, defScope st__law_tied, [], []⟩
def df__law_text : He.DefD := ⟨("_law_text", none), "_law_text", "_law_text", defArgs st__law_text, defBody st__law_text, defScope st__law_text, [], []⟩
def df__law_richest : He.DefD := ⟨("_law_richest", none), "_law_richest", "_law_richest", defArgs st__law_richest, defBody st__law_richest, defScope st__law_richest, [], []⟩
def df__law_is_firm : He.DefD := ⟨("_law_is_firm", none), "_law_is_firm", "_law_is_firm", defArgs st__law_is_firm, defBody st__law_is_firm, defScope st__law_is_firm, [], []⟩
def df_law : He.DefD := ⟨("law", none), "law", "law", defArgs st_law, defBody st_law, defScope st_law, [], []⟩
def fn0 : List He.DefD := [df_is_number, df_is_index, df_is_sized, df_is_tuple_of, df_is_couple, df_is_corners, df_direction, df_cross, df_put, df_back, df_before, df_turn_between, df_between, df_size_of, df_in_order, df_is_less, df_turn_of, df_chain, df_hull_of, df_checked_part, df_is_hull, df_is_amid, df_squeezed, df_rest_at, df_top_at, df_turned_ring, df_leaves, df_same_turns, df_unlike_many, df_are_alike]
def fn1 : List He.DefD := [df_next_rest, df_weight, df_by_weight, df_is_prime_to, df_simplest_amid, df_is_at_most, df_rooms, df_simplest_to, df_turning_points, df_unlike_turns, df_maps, df_map_of, df_keeping_turns, df_is_top, df_falls, df_a_little_on, df_check_kind, df_turn_to_rest, df_word_lines, df_index_in, df_number_in, df_corner_in, df_read_corners, df_read_text, df_read_whole, df__law_bag, df__law_take, df__law_some, df__law_mixed, df__law_alike]
def fn2 : List He.DefD := [df__law_gcd, df__law_direction, df__law_cross, df__law_put, df__law_back, df__law_turn, df__law_in_order, df__law_amid, df__law_between, df__law_drawn_direction, df__law_hull, df__law_part, df__law_spread, df__law_width, df__law_wider, df__law_side_ways, df__law_ring, df__law_squeezed, df__law_same_turns, df__law_kinds, df__law_next, df__law_turns, df__law_text_rows, df__law_loose, df__law_tied, df__law_text, df__law_richest, df__law_is_firm, df_law]
def fns : List He.DefD := fn0 ++ fn1 ++ fn2
def nm0 : List PySem.Str := ["_wall", "GripError", "BadText", "BadPart", "Nothing", "TooLarge", "DIGITS", "is_number", "is_index", "is_sized", "is_tuple_of", "is_couple", "is_corners", "EAST", "direction", "cross", "put", "back", "before", "turn_between", "between", "size_of", "in_order", "is_less", "MOST_CORNERS", "MOST_FAR", "turn_of", "chain", "hull_of", "checked_part"]
def nm1 : List PySem.Str := ["is_hull", "is_amid", "squeezed", "rest_at", "top_at", "turned_ring", "leaves", "same_turns", "unlike_many", "are_alike", "next_rest", "weight", "by_weight", "is_prime_to", "simplest_amid", "is_at_most", "rooms", "simplest_to", "turning_points", "unlike_turns", "maps", "map_of", "keeping_turns", "is_top", "falls", "a_little_on", "check_kind", "turn_to_rest", "MOST_LINES", "MOST_FIGURES"]
def nm2 : List PySem.Str := ["word_lines", "index_in", "number_in", "corner_in", "read_corners", "read_text", "read_whole", "_law_bag", "_law_take", "_law_some", "_law_mixed", "_law_alike", "_law_gcd", "_law_direction", "_law_cross", "_law_put", "_law_back", "_law_turn", "_law_in_order", "_law_amid", "_law_between", "_law_drawn_direction", "_law_hull", "_law_part", "_law_spread", "_law_width", "_law_wider", "_law_side_ways", "_law_ring", "_law_squeezed"]
def nm3 : List PySem.Str := ["_law_same_turns", "_law_kinds", "_law_next", "_law_turns", "_law_text_rows", "_law_loose", "_law_tied", "_law_text", "_law_richest", "_law_is_firm"]
def nms : List PySem.Str := nm0 ++ nm1 ++ nm2 ++ nm3
def ad0 : List Addr := [3, 6, 4, 49, 66, 88, 109, 121, 142, 151, 158, 165, 170, 177, 184, 185, 192, 199, 206, 213, 220, 227, 234, 241, 246, 253, 260, 267, 272, 279]
def ad1 : List Addr := [286, 293, 300, 307, 314, 319, 326, 331, 338, 345, 352, 359, 366, 373, 380, 387, 394, 401, 406, 413, 418, 423, 428, 433, 440, 447, 454, 461, 466, 471]
def ad2 : List Addr := [478, 485, 490, 497, 504, 509, 516, 523, 530, 537, 544, 551, 558, 565, 572, 579, 586, 593, 600, 607, 614, 619, 624, 631, 638, 643, 648, 655, 660, 667]
def ad3 : List Addr := [674, 679, 684, 691, 696, 703, 710, 715, 720, 0, 48, 65, 87, 108, 120, 141, 150, 157, 164, 169, 176, 183, 191, 198, 205, 212, 219, 226, 233, 240]
def ad4 : List Addr := [245, 252, 259, 266, 271, 278, 285, 292, 299, 306, 313, 318, 325, 330, 337, 344, 351, 358, 365, 372, 379, 386, 393, 400, 405, 412, 417, 422, 427, 432]
def ad5 : List Addr := [439, 446, 453, 460, 465, 470, 477, 484, 489, 496, 503, 508, 515, 522, 529, 536, 543, 550, 557, 564, 571, 578, 585, 592, 599, 606, 613, 618, 623, 630]
def ad6 : List Addr := [637, 642, 647, 654, 659, 666, 673, 678, 683, 690, 695, 702, 709, 714, 719]
def adZ : List Addr := ad0 ++ ad1 ++ ad2 ++ ad3 ++ ad4 ++ ad5 ++ ad6
/-- what the facts do not say: the pair of the east, gcd -/
def more (K : PySem.W.Frag) : Bool := He.tupB K "EAST" [.int 1, .int 0] && He.eqO (PySem.W.nsIn K mainGlobals "gcd") (some (some (.builtin "math.gcd")))
def obsZ (g : Addr → Option Obj) : Bool × He.AlD := (more (He.frG g adZ), He.obsD fas fns (He.frG g adZ))
def hookZ : PySem.W.Hook where
  α := Bool × He.AlD
  obs := fun z => obsZ z.heap.get?
  val := fun _ => (true, He.valD fns)
  says := fun _ h => ∃ K : PySem.W.Frag, K.In h ∧ more K = true ∧ He.SaysD fas fns K
  of := fun _ _ e => ⟨_, He.frG_in, congrArg Prod.fst e, congrArg Prod.snd e⟩
  keeps := fun _ _ _ ⟨K, a, b, c⟩ k => ⟨K, PySem.W.Frag.In.keeps a k, b, c⟩
def seeZ (z : PySem.W.SharedT) : Bool × He.AlD := obsZ (HandSHeadRun.getT z)
theorem seeZ_eq (z : PySem.W.SharedT) : seeZ z = hookZ.obs z.abs := by
  have e : HandSHeadRun.getT z = z.abs.heap.get? := funext (HandSHeadRun.getT_eq z)
  unfold seeZ
  rw [e]; rfl
abbrev rowZ : PySem.W.OpenRow := PySem.W.OpenLaw.row PySem.Challenge.rw_gripsure_k96_rooms_between_all_couples_o
theorem topRunZ (w : World) : HandSHeadRun.RunEqI rowZ (PySem.W.view rowZ.prog [0, 117]) hookZ seeZ 6000 nms w := by
  unfold HandSHeadRun.RunEqI
  kernel_rfl
end K96

/-! DL1: data judgements over the hand layer: values told as data, slots, the bag, what is hidden. -/
namespace DL
open PySem L2

abbrev D := PyData

/-! ### the heap without some addresses -/
def hid (O : List Addr) (H : Hp) : Hp := fun a => if a ∈ O then none else H a
theorem hid_in {O : List Addr} {H : Hp} {a : Addr} (h : a ∈ O) : hid O H a = none := by unfold hid; rw [if_pos h]
theorem hid_out {O : List Addr} {H : Hp} {a : Addr} (h : a ∉ O) : hid O H a = H a := by unfold hid; rw [if_neg h]
theorem hid_some {O : List Addr} {H : Hp} {a : Addr} {o : HO} (h : hid O H a = some o) : a ∉ O ∧ H a = some o := by
  unfold hid at h
  split at h
  · cases h
  · exact ⟨by assumption, h⟩
theorem hid_le {O : List Addr} {H : Hp} : Same (hid O H) H := fun _ _ h => (hid_some h).2
theorem hid_same {O : List Addr} {H H' : Hp} (s : Same H H') : Same (hid O H) (hid O H') := fun a o h => by
  rw [hid_out (hid_some h).1]; exact s _ _ (hid_some h).2
theorem hid_sub {O O' : List Addr} {H : Hp} (h : ∀ a ∈ O', a ∈ O) : Same (hid O H) (hid O' H) := fun a o q => by
  rw [hid_out fun z => (hid_some q).1 (h a z)]; exact (hid_some q).2
theorem hid_nil {H : Hp} : hid [] H = H := by
  funext a; exact hid_out (by simp)
theorem same_new {H : Hp} {p : Addr} (h : H p = none) (o : HO) : Same H (upd H p o) := fun b u q => by rw [upd_ne (ne_of_none q h)]; exact q
theorem hid_upd_in {O : List Addr} {H : Hp} {p : Addr} {o : HO} (h : p ∈ O) : hid O (upd H p o) = hid O H := by
  funext a
  by_cases ha : a ∈ O
  · rw [hid_in ha, hid_in ha]
  · rw [hid_out ha, hid_out ha, upd_ne (fun z => ha (by rw [z]; exact h))]
theorem seqT {K : PySem.W.Frag} {H H' : Hp} {a : Addr} {xs : List V} (e : Same H H') (h : SqT K H a xs) : SqT K H' a xs := by
  rcases h with (h | ⟨o, h⟩) | h
  · exact .inl (.inl (e _ _ h))
  · exact .inl (.inr ⟨o, e _ _ h⟩)
  · exact .inr h
/-- a row of a dict whose keys are tuples of ints: the key, where its tuple stands, the value -/
abbrev RowI := List Int × Addr × Value
def hashI (ns : List Int) : Int := reduceHash (Builtin.Tuple.tupleHashOf (ns.map hashInt))
structure DicH (h : Heap) (a : Addr) (L : List RowI) (o : Obj) : Prop where
  big : (a == sysModules) = false
  get : h.get? a = some o
  ex : ∃ es ep, o.ExactDict ∧ o.data = .dict es ep ∧ es.toList = L.map (fun r => ⟨hashI r.1, .ref r.2.1, r.2.2⟩) ∧ (L.map (·.1)).Nodup
def DicO (a : Addr) (L : List RowI) (o : Obj) : HO := .ext fun h => DicH h a L o
/-- values that carry no token -/
def vOf : V → Value
  | .bl b => .bool b
  | .ref r => .ref r
  | _ => .none
def vBk : Value → V
  | .bool b => .bl b
  | .ref r => .ref r
  | _ => .non
def rowsD (L : List RowI) (vds : List PyData) : List (PyData × PyData) := (L.map fun r => PyData.tuple (r.1.map .int)).zip vds
mutual
/-- a value told as data: lists are the run's own (none of the module's constants) -/
inductive Dq (K : PySem.W.Frag) (H : Hp) : V → PyData → Prop
  | non : Dq K H .non .none
  | bl (b : Bool) : Dq K H (.bl b) (.bool b)
  | int (i : Int) : Dq K H (.int i) (.int i)
  | str (x : Str) : Dq K H (.str x) (.str x)
  | lst {a : Addr} {xs : List V} {ds : List PyData} : H a = some (.lst xs) → DqAll K H xs ds → Dq K H (.ref a) (.list ds)
  | tup {a : Addr} {xs : List V} {ds : List PyData} : SqT K H a xs → DqAll K H xs ds → Dq K H (.ref a) (.tuple ds)
  | dic {a : Addr} {L : List RowI} {o : Obj} {vds : List PyData} : H a = some (DicO a L o) → (∀ r ∈ L, SqT K H r.2.1 (r.1.map V.int) ∧ vOf (vBk r.2.2) = r.2.2) → DqAll K H (L.map fun r => vBk r.2.2) vds → Dq K H (.ref a) (.dict (rowsD L vds))
inductive DqAll (K : PySem.W.Frag) (H : Hp) : List V → List PyData → Prop
  | nil : DqAll K H [] []
  | cons {v : V} {vs : List V} {d : PyData} {ds : List PyData} : Dq K H v d → DqAll K H vs ds → DqAll K H (v :: vs) (d :: ds)
end
mutual
theorem Dq.dp {K : PySem.W.Frag} {H : Hp} : ∀ {v : V} {d : PyData}, Dq K H v d → d.hasDict = false → L2.Dp K H v d
  | _, _, .non, _ => .non
  | _, _, .bl b, _ => .bl b
  | _, _, .int i, _ => .int i
  | _, _, .str x, _ => .str x
  | _, _, .lst q r, h => .lst (SqL.of q) (DqAll.dp r (by simpa [PyData.hasDict] using h))
  | _, _, .tup q r, h => .tup q (DqAll.dp r (by simpa [PyData.hasDict] using h))
  | _, _, .dic _ _ _, h => by simp [PyData.hasDict] at h
theorem DqAll.dp {K : PySem.W.Frag} {H : Hp} : ∀ {v : List V} {d : List PyData}, DqAll K H v d → PyData.hasDictAll d = false → L2.DpAll K H v d
  | _, _, .nil, _ => .nil
  | _, _, .cons a b, h => by
    simp only [PyData.hasDictAll, Bool.or_eq_false_iff] at h
    exact .cons (a.dp h.1) (b.dp h.2)
end
mutual
theorem noDict_lay : ∀ d : PyData, d.canLay0 = true → d.hasDict = false
  | .none, _ => rfl
  | .bool _, _ => rfl
  | .int _, _ => rfl
  | .str _, _ => rfl
  | .list xs, h => noDict_layAll xs (by simpa [PyData.canLay0] using h)
  | .tuple xs, h => noDict_layAll xs (by simpa [PyData.canLay0] using h)
  | .dict _, h => by simp [PyData.canLay0] at h
theorem noDict_layAll : ∀ xs : List PyData, PyData.canLayAll0 xs = true → PyData.hasDictAll xs = false
  | [], _ => rfl
  | x :: xs, h => by
    simp only [PyData.canLayAll0, Bool.and_eq_true] at h
    simp only [PyData.hasDictAll, Bool.or_eq_false_iff]
    exact ⟨noDict_lay x h.1, noDict_layAll xs h.2⟩
end
theorem noDict_shaped {d : PyData} (h : SeqAt.shaped d = true) : d.hasDict = false := noDict_lay d (SeqAt.canLay_of_shaped h)
mutual
theorem dp_mono {K : PySem.W.Frag} {H H' : Hp} (s : Same H H') : ∀ {v : V} {d : D}, Dq K H v d → Dq K H' v d
  | _, _, .non => .non
  | _, _, .bl b => .bl b
  | _, _, .int i => .int i
  | _, _, .str x => .str x
  | _, _, .lst q r => .lst (s _ _ q) (dpAll_mono s r)
  | _, _, .tup q r => .tup (seqT s q) (dpAll_mono s r)
  | _, _, .dic q h r => .dic (s _ _ q) (fun x hx => ⟨seqT s (h x hx).1, (h x hx).2⟩) (dpAll_mono s r)
theorem dpAll_mono {K : PySem.W.Frag} {H H' : Hp} (s : Same H H') : ∀ {v : List V} {d : List D}, DqAll K H v d → DqAll K H' v d
  | _, _, .nil => .nil
  | _, _, .cons a b => .cons (dp_mono s a) (dpAll_mono s b)
end
theorem DqAll.len {K : PySem.W.Frag} {H : Hp} : ∀ {v : List V} {d : List D}, DqAll K H v d → v.length = d.length
  | _, _, .nil => rfl
  | _, _, .cons _ b => congrArg (· + 1) (DqAll.len b)
theorem DqAll.app {K : PySem.W.Frag} {H : Hp} : ∀ {v w : List V} {d e : List D}, DqAll K H v d → DqAll K H w e → DqAll K H (v ++ w) (d ++ e)
  | _, _, _, _, .nil, h => h
  | _, _, _, _, .cons a b, h => .cons a (DqAll.app b h)
theorem DqAll.take {K : PySem.W.Frag} {H : Hp} : ∀ {v : List V} {d : List D} (n : Nat), DqAll K H v d → DqAll K H (v.take n) (d.take n)
  | _, _, 0, _ => .nil
  | _, _, _ + 1, .nil => .nil
  | _, _, n + 1, .cons a b => .cons a (DqAll.take n b)
theorem DqAll.drop {K : PySem.W.Frag} {H : Hp} : ∀ {v : List V} {d : List D} (n : Nat), DqAll K H v d → DqAll K H (v.drop n) (d.drop n)
  | _, _, 0, h => h
  | _, _, _ + 1, .nil => .nil
  | _, _, n + 1, .cons _ b => DqAll.drop n b
theorem DqAll.get {K : PySem.W.Frag} {H : Hp} : ∀ {v : List V} {d : List D} {n : Nat} {x : D}, DqAll K H v d → d[n]? = some x → ∃ y, v[n]? = some y ∧ Dq K H y x
  | _, _, _, _, .nil, h => by simp at h
  | _, _, 0, _, .cons a _, h => by simp at h; subst h; exact ⟨_, rfl, a⟩
  | _, _, n + 1, _, .cons _ b, h => by
    obtain ⟨y, h1, h2⟩ := DqAll.get (n := n) b (by simpa using h)
    exact ⟨y, by simpa using h1, h2⟩
theorem DqAll.getV {K : PySem.W.Frag} {H : Hp} : ∀ {v : List V} {d : List D} {n : Nat} {y : V}, DqAll K H v d → v[n]? = some y → ∃ x, d[n]? = some x ∧ Dq K H y x
  | _, _, _, _, .nil, h => by simp at h
  | _, _, 0, _, .cons a _, h => by simp at h; subst h; exact ⟨_, rfl, a⟩
  | _, _, n + 1, _, .cons _ b, h => by
    obtain ⟨y, h1, h2⟩ := DqAll.getV (n := n) b (by simpa using h)
    exact ⟨y, by simpa using h1, h2⟩
theorem DqAll.ints {K : PySem.W.Frag} {H : Hp} : ∀ {v : List V} {ns : List Int}, DqAll K H v (ns.map .int) → v = ns.map V.int
  | _, [], .nil => rfl
  | _, _ :: _, .cons (.int _) b => by rw [DqAll.ints b]; rfl
theorem DqAll.ofInts {K : PySem.W.Frag} {H : Hp} : ∀ (ns : List Int), DqAll K H (ns.map V.int) (ns.map .int)
  | [] => .nil
  | n :: r => .cons (.int n) (DqAll.ofInts r)
theorem DqAll.bools {K : PySem.W.Frag} {H : Hp} : ∀ {v : List V} {ns : List Bool}, DqAll K H v (ns.map .bool) → v = ns.map V.bl
  | _, [], .nil => rfl
  | _, _ :: _, .cons (.bl _) b => by rw [DqAll.bools b]; rfl
theorem DqAll.strs {K : PySem.W.Frag} {H : Hp} : ∀ {v : List V} {ns : List Str}, DqAll K H v (ns.map .str) → v = ns.map V.str
  | _, [], .nil => rfl
  | _, _ :: _, .cons (.str _) b => by rw [DqAll.strs b]; rfl
theorem DqAll.ofStrs {K : PySem.W.Frag} {H : Hp} : ∀ (ns : List Str), DqAll K H (ns.map V.str) (ns.map .str)
  | [] => .nil
  | n :: r => .cons (.str n) (DqAll.ofStrs r)
theorem Dq.int_inv {K : PySem.W.Frag} {H : Hp} {v : V} {i : Int} (h : Dq K H v (.int i)) : v = .int i := by cases h; rfl
theorem Dq.bool_inv {K : PySem.W.Frag} {H : Hp} {v : V} {i : Bool} (h : Dq K H v (.bool i)) : v = .bl i := by cases h; rfl
theorem Dq.str_inv {K : PySem.W.Frag} {H : Hp} {v : V} {i : Str} (h : Dq K H v (.str i)) : v = .str i := by cases h; rfl
theorem Dq.none_inv {K : PySem.W.Frag} {H : Hp} {v : V} (h : Dq K H v .none) : v = .non := by cases h; rfl
theorem Dq.lst_inv {K : PySem.W.Frag} {H : Hp} {v : V} {ds : List D} (h : Dq K H v (.list ds)) : ∃ a xs, v = .ref a ∧ H a = some (.lst xs) ∧ DqAll K H xs ds := by cases h; exact ⟨_, _, rfl, by assumption, by assumption⟩
theorem Dq.tup_inv {K : PySem.W.Frag} {H : Hp} {v : V} {ds : List D} (h : Dq K H v (.tuple ds)) : ∃ a xs, v = .ref a ∧ SqT K H a xs ∧ DqAll K H xs ds := by cases h; exact ⟨_, _, rfl, by assumption, by assumption⟩

/-! ### slots -/
def dicD (acc : List (List Int × D)) : D := .dict (acc.map fun p => (.tuple (p.1.map .int), p.2))
/-- rows that stand for pairs -/
structure RowsAt (K : PySem.W.Frag) (H : Hp) (L : List RowI) (acc : List (List Int × D)) : Prop where
  len : L.length = acc.length
  at_ : ∀ (i : Nat) (r : RowI) (p : List Int × D), L[i]? = some r → acc[i]? = some p → r.1 = p.1 ∧ SqT K H r.2.1 (r.1.map V.int) ∧ vOf (vBk r.2.2) = r.2.2 ∧ Dq K H (vBk r.2.2) p.2
theorem RowsAt.mono {K : PySem.W.Frag} {H H' : Hp} {L : List RowI} {acc : List (List Int × D)} (s : Same H H') (h : RowsAt K H L acc) : RowsAt K H' L acc :=
  ⟨h.len, fun i r p h1 h2 => let ⟨a, b, c, d⟩ := h.at_ i r p h1 h2; ⟨a, seqT s b, c, dp_mono s d⟩⟩
theorem RowsAt.keys {K : PySem.W.Frag} {H : Hp} {L : List RowI} {acc : List (List Int × D)} (h : RowsAt K H L acc) : L.map (·.1) = acc.map (·.1) := by
  apply List.ext_getElem?
  intro i
  rw [List.getElem?_map, List.getElem?_map]
  by_cases hi : i < L.length
  · have hj : i < acc.length := by rw [← h.len]; exact hi
    rw [List.getElem?_eq_getElem hi, List.getElem?_eq_getElem hj]
    exact congrArg some (h.at_ i _ _ (List.getElem?_eq_getElem hi) (List.getElem?_eq_getElem hj)).1
  · rw [List.getElem?_eq_none (by omega), List.getElem?_eq_none (by have := h.len; omega)]
    rfl
theorem dqAll_of {K : PySem.W.Frag} {H : Hp} : ∀ {vs : List V} {ds : List D}, vs.length = ds.length → (∀ (i : Nat) (v : V) (d : D), vs[i]? = some v → ds[i]? = some d → Dq K H v d) → DqAll K H vs ds
  | [], [], _, _ => .nil
  | v :: vs, d :: ds, hl, h => .cons (h 0 v d rfl rfl) (dqAll_of (by simpa using hl) fun i v d a b => h (i + 1) v d (by simpa using a) (by simpa using b))
theorem RowsAt.dq {K : PySem.W.Frag} {H : Hp} {a : Addr} {L : List RowI} {o : Obj} {acc : List (List Int × D)} (h : RowsAt K H L acc) (ha : H a = some (DicO a L o)) : Dq K H (.ref a) (dicD acc) := by
  have e : rowsD L (acc.map (·.2)) = acc.map fun p => (.tuple (p.1.map .int), p.2) := by
    unfold rowsD
    have : (L.map fun r => PyData.tuple (r.1.map .int)) = (L.map (·.1)).map fun k => PyData.tuple (k.map .int) := by rw [List.map_map]; rfl
    rw [this, h.keys, List.map_map]
    clear h ha this
    induction acc with
    | nil => rfl
    | cons p acc ih => simp only [List.map_cons, List.zip_cons_cons, ih]; rfl
  unfold dicD
  rw [← e]
  refine .dic ha (fun r hr => ?_) (dqAll_of (by simp [h.len]) fun i v d h1 h2 => ?_)
  · obtain ⟨i, hi, er⟩ := List.getElem_of_mem hr
    have hj : i < acc.length := by rw [← h.len]; exact hi
    obtain ⟨_, q2, q3, _⟩ := h.at_ i r acc[i] (by rw [List.getElem?_eq_getElem hi, er]) (List.getElem?_eq_getElem hj)
    exact ⟨q2, q3⟩
  · rw [List.getElem?_map] at h1 h2
    cases e1 : L[i]? with
    | none => rw [e1] at h1; cases h1
    | some r =>
      cases e2 : acc[i]? with
      | none => rw [e2] at h2; cases h2
      | some p =>
        rw [e1] at h1; rw [e2] at h2
        cases h1; cases h2
        exact (h.at_ i r p e1 e2).2.2.2
/-- what an object of the body's own holds -/
inductive Held (K : PySem.W.Frag) (H : Hp) (p : Addr) : HO → D → Prop
  | lst {vs : List V} {ds : List D} : DqAll K H vs ds → Held K H p (.lst vs) (.list ds)
  | dic {L : List RowI} {o : Obj} {acc : List (List Int × D)} : RowsAt K H L acc → Held K H p (DicO p L o) (dicD acc)
theorem Held.mono {K : PySem.W.Frag} {H H' : Hp} {p : Addr} {ho : HO} {d : D} (s : Same H H') : Held K H p ho d → Held K H' p ho d
  | .lst r => .lst (dpAll_mono s r)
  | .dic r => .dic (r.mono s)
theorem Held.dq {K : PySem.W.Frag} {H : Hp} {p : Addr} {ho : HO} {d : D} (h : Held K H p ho d) (e : H p = some ho) : Dq K H (.ref p) d := by
  cases h with
  | lst r => exact .lst e r
  | dic r => exact r.dq e
theorem Held.list_inv {K : PySem.W.Frag} {H : Hp} {p : Addr} {ho : HO} {ds : List D} (h : Held K H p ho (.list ds)) : ∃ vs, ho = .lst vs ∧ DqAll K H vs ds := by
  generalize e : PyData.list ds = d at h
  cases h with
  | lst r => cases e; exact ⟨_, rfl, r⟩
  | dic r => unfold dicD at e; cases e
inductive Sl where
  | no
  | dat (d : D)
  /-- a list, a dict of this body's own that it still changes -/
  | own (p : Addr) (d : D)
  | bag
  /-- a def of the module, handed in -/
  | fn (f : Addr)
abbrev Env := List Sl
def adr : Env → List Addr
  | [] => []
  | .own p _ :: r => p :: adr r
  | _ :: r => adr r
structure Fr where
  F : Hp
  O : List Addr
  bag : Option Addr
abbrev Bag := Int × Int × Int × List Int
def Fr.hb (c : Fr) : List Addr := c.O ++ c.bag.toList
def Fr.hs (c : Fr) (ρ : Env) : List Addr := c.hb ++ adr ρ
def SlOk (K : PySem.W.Frag) (c : Fr) (hs : List Addr) (H : Hp) (o : Option V) : Sl → Prop
  | .no => True
  | .dat d => ∃ v, o = some v ∧ Dq K (hid hs H) v d
  | .own p d => o = some (.ref p) ∧ ∃ ho, H p = some ho ∧ Held K (hid hs H) p ho d
  | .bag => ∃ p, c.bag = some p ∧ o = some (.ref p)
  | .fn f => o = some (.ref f)
def BagAt (K : PySem.W.Frag) (hs : List Addr) (H : Hp) (p : Addr) (b : Bag) : Prop :=
  ∃ q, H p = some (.lst [.int b.1, .int b.2.1, .int b.2.2.1, .ref q]) ∧ Dq K (hid hs H) (.ref q) (.list (b.2.2.2.map .int))
structure En (K : PySem.W.Frag) (c : Fr) (ρ : Env) (b : Bag) (σ : St) (H : Hp) : Prop where
  same : Same c.F H
  len : σ.length = ρ.length
  sl : ∀ (i : Nat) (s : Sl), ρ[i]? = some s → ∃ o, σ[i]? = some o ∧ SlOk K c (c.hs ρ) H o s
  nd : (c.hs ρ).Nodup
  dom : ∀ a ∈ c.hs ρ, H a ≠ none
  out : ∀ a ∈ c.bag.toList ++ adr ρ, c.F a = none
  bag : ∀ p, c.bag = some p → BagAt K (c.hs ρ) H p b
/-- what an expression may do with the heap -/
def Gr (hs : List Addr) (H H' : Hp) : Prop := Same (hid hs H) (hid hs H')
theorem Gr.refl (hs : List Addr) (H : Hp) : Gr hs H H := Same.refl _
theorem Gr.trans {hs : List Addr} {H H1 H2 : Hp} (a : Gr hs H H1) (b : Gr hs H1 H2) : Gr hs H H2 := Same.trans a b
theorem Gr.of {hs : List Addr} {H H' : Hp} (s : Same H H') : Gr hs H H' := hid_same s
theorem SlOk.mono {K : PySem.W.Frag} {c : Fr} {hs : List Addr} {H H' : Hp} {o : Option V} (s : Same H H') : ∀ {l : Sl}, SlOk K c hs H o l → SlOk K c hs H' o l
  | .no, _ => trivial
  | .dat _, ⟨v, e, h⟩ => ⟨v, e, dp_mono (hid_same s) h⟩
  | .own _ _, ⟨e, ho, h1, h2⟩ => ⟨e, ho, s _ _ h1, h2.mono (hid_same s)⟩
  | .bag, h => h
  | .fn _, h => h
theorem BagAt.mono {K : PySem.W.Frag} {hs : List Addr} {H H' : Hp} {p : Addr} {b : Bag} (s : Same H H') : BagAt K hs H p b → BagAt K hs H' p b
  | ⟨q, h1, h2⟩ => ⟨q, s _ _ h1, dp_mono (hid_same s) h2⟩
/-- the heap grows: all stays as it is told -/
theorem En.grow {K : PySem.W.Frag} {c : Fr} {ρ : Env} {b : Bag} {σ : St} {H H' : Hp} (e : En K c ρ b σ H) (s : Same H H') : En K c ρ b σ H' where
  same := e.same.trans s
  len := e.len
  sl := fun i l h => let ⟨o, h1, h2⟩ := e.sl i l h; ⟨o, h1, h2.mono s⟩
  nd := e.nd
  dom := fun a ha z => e.dom a ha (s.free z)
  out := e.out
  bag := fun p hp => (e.bag p hp).mono s
theorem En.fresh {K : PySem.W.Frag} {c : Fr} {ρ : Env} {b : Bag} {σ : St} {H : Hp} {p : Addr} (e : En K c ρ b σ H) (h : H p = none) : p ∉ c.hs ρ := fun z => e.dom p z h
theorem En.get {K : PySem.W.Frag} {c : Fr} {ρ : Env} {b : Bag} {σ : St} {H : Hp} {i : Nat} {d : D} (e : En K c ρ b σ H) (h : ρ[i]? = some (.dat d)) : ∃ v, σ[i]? = some (some v) ∧ Dq K (hid (c.hs ρ) H) v d := by
  obtain ⟨o, h1, v, h2, h3⟩ := e.sl i _ h
  exact ⟨v, by rw [h1, h2], h3⟩
/-- a new object of data -/
theorem new_at {hs : List Addr} {H : Hp} {p : Addr} {o : HO} (h : p ∉ hs) : hid hs (upd H p o) p = some o := by rw [hid_out h, upd_same]
end DL

/-! DL2: expressions, argument lists, tests, by data. -/
namespace DL
open PySem L2

abbrev WE := Env → Bag → (D → Bag → Prop) → Prop
abbrev WA := Env → Bag → (List D → Bag → Prop) → Prop
abbrev WT := Env → Bag → (Bool → Bag → Prop) → Prop
def Snd (K : PySem.W.Frag) (te : TE) (we : WE) : Prop := ∀ (c : Fr) (ρ : Env) (b : Bag) (σ : St) (H : Hp) (Φ : D → Bag → Prop) (Q : VK), En K c ρ b σ H → we ρ b Φ →
  (∀ d b' v H', Φ d b' → En K c ρ b' σ H' → Gr (c.hs ρ) H H' → Dq K (hid (c.hs ρ) H') v d → Q v H') → te σ H Q
def SndA (K : PySem.W.Frag) (ta : TA) (wa : WA) : Prop := ∀ (c : Fr) (ρ : Env) (b : Bag) (σ : St) (H : Hp) (Φ : List D → Bag → Prop) (Q : List V → Hp → Prop), En K c ρ b σ H → wa ρ b Φ →
  (∀ d b' v H', Φ d b' → En K c ρ b' σ H' → Gr (c.hs ρ) H H' → DqAll K (hid (c.hs ρ) H') v d → Q v H') → ta σ H Q
def SndT (K : PySem.W.Frag) (tt : TT) (wt : WT) : Prop := ∀ (c : Fr) (ρ : Env) (b : Bag) (σ : St) (H : Hp) (Φ : Bool → Bag → Prop) (Q : Bool → Hp → Prop), En K c ρ b σ H → wt ρ b Φ →
  (∀ k b' H', Φ k b' → En K c ρ b' σ H' → Gr (c.hs ρ) H H' → Q k H') → tt σ H Q
structure DE (X : Cx) (e : Expr) (we : WE) : Prop where
  ex : ∃ te, PE X e te ∧ Snd X.K te we
structure DA (X : Cx) (es : List Expr) (wa : WA) : Prop where
  ex : ∃ ta, PA X es ta ∧ SndA X.K ta wa
structure DT (X : Cx) (e : Expr) (wt : WT) : Prop where
  ex : ∃ tt, PT X e tt ∧ SndT X.K tt wt
/-- .. whatever its 'whole' (and, or) -/
structure DW (X : Cx) (e : Expr) (wt : WT) : Prop where
  ex : ∃ tt, PW X e tt ∧ SndT X.K tt wt

section
variable {X : Cx} {pos : Pos} {a e : Expr} {es : List Expr}

/-! ### names, constants -/
def wVar (i : Nat) : WE := fun ρ b Φ => ∃ d, ρ[i]? = some (.dat d) ∧ Φ d b
def wC (d : D) : WE := fun _ b Φ => Φ d b
theorem dv (i : Nat) {x : Str} (hN : X.N[i]? = some x) (hv : Vis X.env.scope x) (hd : (x == ("__debug__" : Str)) = false := by decide) (hcd : (x == ("__classdict__" : Str)) = false := by decide) : DE X (.Name x pos) (wVar i) :=
  ⟨_, pe_var hN hv hd hcd, fun c ρ b σ H Φ Q I ⟨d, e, h⟩ q => let ⟨v, e1, e2⟩ := I.get e; ⟨v, e1, q d b v H h I (Gr.refl _ _) e2⟩⟩
theorem d_int {i j} : DE X (.Constant (.int i) j pos) (wC (.int i)) := ⟨_, pe_int, fun c ρ b σ H Φ Q I h q => q _ _ _ _ h I (Gr.refl _ _) (.int i)⟩
theorem d_bool {i j} : DE X (.Constant (.bool i) j pos) (wC (.bool i)) := ⟨_, pe_bl, fun c ρ b σ H Φ Q I h q => q _ _ _ _ h I (Gr.refl _ _) (.bl i)⟩
theorem d_none {j} : DE X (.Constant .none j pos) (wC .none) := ⟨_, pe_non, fun c ρ b σ H Φ Q I h q => q _ _ _ _ h I (Gr.refl _ _) .non⟩
theorem d_str {x j} : DE X (.Constant (.str x) j pos) (wC (.str x)) := ⟨_, pe_str, fun c ρ b σ H Φ Q I h q => q _ _ _ _ h I (Gr.refl _ _) (.str x)⟩

/-! ### argument lists -/
def wNil : WA := fun _ b Φ => Φ [] b
def wCons (w : WE) (r : WA) : WA := fun ρ b Φ => w ρ b fun d b1 => r ρ b1 fun ds b2 => Φ (d :: ds) b2
theorem a_nil : DA X [] wNil := ⟨_, pa_nil, fun c ρ b σ H Φ Q I h q => q _ _ _ _ h I (Gr.refl _ _) .nil⟩
theorem a_cons {we : WE} {wa : WA} (h1 : DE X e we) (h2 : DA X es wa) (hs : starEach (e :: es) X.env = (false, eval e X.env) :: starEach es X.env := by rfl) : DA X (e :: es) (wCons we wa) := by
  obtain ⟨te, p1, s1⟩ := h1.ex
  obtain ⟨ta, p2, s2⟩ := h2.ex
  refine ⟨_, pa_cons p1 p2 hs, fun c ρ b σ H Φ Q I h q => ?_⟩
  refine s1 c ρ b σ H _ _ I h fun d b1 v H1 h1 I1 g1 r1 => ?_
  refine s2 c ρ b1 σ H1 _ _ I1 h1 fun ds b2 vs H2 h2 I2 g2 r2 => ?_
  exact q _ _ _ _ h2 I2 (g1.trans g2) (.cons (dp_mono g2 r1) r2)

/-! ### displays -/
def wTup (w : WA) : WE := fun ρ b Φ => w ρ b fun ds b1 => ds.length ≤ sizeLine ∧ Φ (.tuple ds) b1
def wLst (w : WA) : WE := fun ρ b Φ => w ρ b fun ds b1 => ds.length ≤ sizeLine ∧ Φ (.list ds) b1
theorem dp_newT {K : PySem.W.Frag} {c : Fr} {ρ : Env} {b : Bag} {σ : St} {H : Hp} {vs : List V} {ds : List D} {p : Addr} (I : En K c ρ b σ H) (hp : H p = none) (r : DqAll K (hid (c.hs ρ) H) vs ds) : Dq K (hid (c.hs ρ) (upd H p (.tup vs))) (.ref p) (.tuple ds) :=
  .tup (.inl (.inl (new_at (I.fresh hp)))) (dpAll_mono (hid_same (same_new hp _)) r)
theorem dp_newL {K : PySem.W.Frag} {c : Fr} {ρ : Env} {b : Bag} {σ : St} {H : Hp} {vs : List V} {ds : List D} {p : Addr} (I : En K c ρ b σ H) (hp : H p = none) (r : DqAll K (hid (c.hs ρ) H) vs ds) : Dq K (hid (c.hs ρ) (upd H p (.lst vs))) (.ref p) (.list ds) :=
  .lst (new_at (I.fresh hp)) (dpAll_mono (hid_same (same_new hp _)) r)
theorem d_tup {x1} {wa : WA} (h : DA X es wa) : DE X (.Tuple es x1 pos) (wTup wa) := by
  obtain ⟨ta, p, s⟩ := h.ex
  refine ⟨_, pe_tup p, fun c ρ b σ H Φ Q I h q => ?_⟩
  refine s c ρ b σ H _ _ I h fun ds b1 vs H1 ⟨hz, h1⟩ I1 g1 r1 => ⟨by rw [DqAll.len r1]; exact hz, fun p hp => ?_⟩
  exact q _ _ _ _ h1 (I1.grow (same_new hp _)) (g1.trans (Gr.of (same_new hp _))) (dp_newT I1 hp r1)
theorem d_lst {wa : WA} (h : DA X es wa) : DE X (.List es pos) (wLst wa) := by
  obtain ⟨ta, p, s⟩ := h.ex
  refine ⟨_, pe_lst p, fun c ρ b σ H Φ Q I h q => ?_⟩
  refine s c ρ b σ H _ _ I h fun ds b1 vs H1 ⟨hz, h1⟩ I1 g1 r1 => ⟨by rw [DqAll.len r1]; exact hz, fun p hp => ?_⟩
  exact q _ _ _ _ h1 (I1.grow (same_new hp _)) (g1.trans (Gr.of (same_new hp _))) (dp_newL I1 hp r1)

/-! ### two-place operations -/
/-- an operation by data -/
abbrev Op2 := D → D → (D → Prop) → Prop
def OpD (K : PySem.W.Frag) (r : R2) (o : Op2) : Prop := ∀ (hs : List Addr) (H : Hp) (x y : V) (d e : D) (Φ : D → Prop) (Q : VK), (∀ a ∈ hs, H a ≠ none) → Dq K (hid hs H) x d → Dq K (hid hs H) y e → o d e Φ →
  (∀ f v H', Φ f → Same H H' → Dq K (hid hs H') v f → Q v H') → r x y H Q
def w2 (o : Op2) (wa wb : WE) : WE := fun ρ b Φ => wa ρ b fun d b1 => wb ρ b1 fun e b2 => o d e fun f => Φ f b2
theorem snd2 {K : PySem.W.Frag} {r : R2} {o : Op2} (ho : OpD K r o) {ta tb : TE} {wa wb : WE} (s1 : Snd K ta wa) (s2 : Snd K tb wb) : Snd K (tOp r ta tb) (w2 o wa wb) := by
  intro c ρ b σ H Φ Q I h q
  refine s1 c ρ b σ H _ _ I h fun d b1 v H1 h1 I1 g1 r1 => ?_
  refine s2 c ρ b1 σ H1 _ _ I1 h1 fun e b2 u H2 h2 I2 g2 r2 => ?_
  exact ho (c.hs ρ) H2 v u d e _ Q I2.dom (dp_mono g2 r1) r2 h2 fun f v3 H3 h3 g3 r3 => q _ _ _ _ h3 (I2.grow g3) (g1.trans (g2.trans (Gr.of g3))) r3
theorem d_op {op : Operator} {r : R2} {o : Op2} {b : Expr} {wa wb : WE} (ho : OpR X (binaryOp op) r) (hd : OpD X.K r o) (h1 : DE X a wa) (h2 : DE X b wb) : DE X (.BinOp a op b pos) (w2 o wa wb) := by
  obtain ⟨ta, p1, s1⟩ := h1.ex
  obtain ⟨tb, p2, s2⟩ := h2.ex
  exact ⟨_, pe_op ho p1 p2, snd2 hd s1 s2⟩
theorem d_cmp {op : CmpOp} {r : R2} {o : Op2} {b : Expr} {wa wb : WE} (ho : OpR X (compareOp op) r) (hd : OpD X.K r o) (h1 : DE X a wa) (h2 : DE X b wb) (hm : behindInMarks op b = false) : DE X (.Compare a [op] [b] pos) (w2 o wa wb) := by
  obtain ⟨ta, p1, s1⟩ := h1.ex
  obtain ⟨tb, p2, s2⟩ := h2.ex
  exact ⟨_, pe_cmpR ho p1 p2 hm, snd2 hd s1 s2⟩
/-- a value that is a bool, as a test -/
def wB (w : WE) : WT := fun ρ b Φ => w ρ b fun d b1 => ∃ k, d = .bool k ∧ Φ k b1
theorem t_cmp {op : CmpOp} {r : R2} {o : Op2} {b : Expr} {wa wb : WE} (ho : OpR X (compareOp op) r) (hd : OpD X.K r o) (h1 : DE X a wa) (h2 : DE X b wb) (hm : behindInMarks op b = false) : DT X (.Compare a [op] [b] pos) (wB (w2 o wa wb)) := by
  obtain ⟨ta, p1, s1⟩ := h1.ex
  obtain ⟨tb, p2, s2⟩ := h2.ex
  refine ⟨_, pt_cmpR ho p1 p2 hm, fun c ρ b σ H Φ Q I h q => ?_⟩
  refine snd2 hd s1 s2 c ρ b σ H _ _ I h fun d b1 v H1 ⟨k, e, h1⟩ I1 g1 r1 => ?_
  subst e
  exact ⟨k, r1.bool_inv, q _ _ _ h1 I1 g1⟩
theorem t_val {w : WE} (h : DE X a w) (he : ∀ whole, isTrue a X.env whole = (do let v ← whole; standAt a.pos; holding [v] (truthy v)) := by intro _; rfl) : DT X a (wB w) := by
  obtain ⟨ta, p1, s1⟩ := h.ex
  refine ⟨_, pt_val p1 he, fun c ρ b σ H Φ Q I h q => ?_⟩
  refine s1 c ρ b σ H _ _ I h fun d b1 v H1 ⟨k, e, h1⟩ I1 g1 r1 => ?_
  subst e
  exact ⟨k, r1.bool_inv, q _ _ _ h1 I1 g1⟩
/-! ### and, or, not -/
def wAnd (t u : WT) : WT := fun ρ b Φ => t ρ b fun k b1 => if k = true then u ρ b1 Φ else Φ false b1
def wOr (t u : WT) : WT := fun ρ b Φ => t ρ b fun k b1 => if k = true then Φ true b1 else u ρ b1 Φ
def wNot (t : WT) : WT := fun ρ b Φ => t ρ b fun k b1 => Φ (!k) b1
theorem t_w {wt : WT} (h : DW X a wt) : DT X a wt := let ⟨t, p, s⟩ := h.ex; ⟨t, p.pt, s⟩
theorem u_and1 {wt : WT} (h : DT X a wt) : DW X (.BoolOp .And [a] pos) wt := let ⟨t, p, s⟩ := h.ex; ⟨t, pw_and1 p, s⟩
theorem u_or1 {wt : WT} (h : DT X a wt) : DW X (.BoolOp .Or [a] pos) wt := let ⟨t, p, s⟩ := h.ex; ⟨t, pw_or1 p, s⟩
theorem u_and {wt wu : WT} {b : Expr} {rest : List Expr} (h1 : DT X a wt) (h2 : DW X (.BoolOp .And (b :: rest) pos) wu) : DW X (.BoolOp .And (a :: b :: rest) pos) (wAnd wt wu) := by
  obtain ⟨t1, p1, s1⟩ := h1.ex
  obtain ⟨t2, p2, s2⟩ := h2.ex
  refine ⟨_, pw_and p1 p2, fun c ρ b σ H Φ Q I h q => ?_⟩
  refine s1 c ρ b σ H _ _ I h fun k b1 H1 h1 I1 g1 => ?_
  cases k with
  | true => exact s2 c ρ b1 σ H1 _ _ I1 h1 fun k b2 H2 h2 I2 g2 => q _ _ _ h2 I2 (g1.trans g2)
  | false => exact q _ _ _ h1 I1 g1
theorem u_or {wt wu : WT} {b : Expr} {rest : List Expr} (h1 : DT X a wt) (h2 : DW X (.BoolOp .Or (b :: rest) pos) wu) : DW X (.BoolOp .Or (a :: b :: rest) pos) (wOr wt wu) := by
  obtain ⟨t1, p1, s1⟩ := h1.ex
  obtain ⟨t2, p2, s2⟩ := h2.ex
  refine ⟨_, pw_or p1 p2, fun c ρ b σ H Φ Q I h q => ?_⟩
  refine s1 c ρ b σ H _ _ I h fun k b1 H1 h1 I1 g1 => ?_
  cases k with
  | true => exact q _ _ _ h1 I1 g1
  | false => exact s2 c ρ b1 σ H1 _ _ I1 h1 fun k b2 H2 h2 I2 g2 => q _ _ _ h2 I2 (g1.trans g2)
theorem t_not {wt : WT} (h : DT X a wt) : DT X (.UnaryOp .Not a pos) (wNot wt) := by
  obtain ⟨t1, p1, s1⟩ := h.ex
  refine ⟨_, pt_not p1, fun c ρ b σ H Φ Q I h q => ?_⟩
  exact s1 c ρ b σ H _ _ I h fun k b1 H1 h1 I1 g1 => q _ _ _ h1 I1 g1
/-- .. as values -/
def wAndV (t u : WE) : WE := fun ρ b Φ => t ρ b fun d b1 => ∃ k, d = .bool k ∧ if k = true then u ρ b1 Φ else Φ (.bool false) b1
def wOrV (t u : WE) : WE := fun ρ b Φ => t ρ b fun d b1 => ∃ k, d = .bool k ∧ if k = true then Φ (.bool true) b1 else u ρ b1 Φ
def wNotV (t : WE) : WE := fun ρ b Φ => t ρ b fun d b1 => ∃ k, d = .bool k ∧ Φ (.bool (!k)) b1
theorem d_one {op} {w : WE} (h : DE X a w) : DE X (.BoolOp op [a] pos) w := let ⟨t, p, s⟩ := h.ex; ⟨t, pe_one p, s⟩
theorem d_and {w u : WE} {b : Expr} {rest : List Expr} (h1 : DE X a w) (h2 : DE X (.BoolOp .And (b :: rest) pos) u) : DE X (.BoolOp .And (a :: b :: rest) pos) (wAndV w u) := by
  obtain ⟨t1, p1, s1⟩ := h1.ex
  obtain ⟨t2, p2, s2⟩ := h2.ex
  refine ⟨_, pe_and p1 p2, fun c ρ b σ H Φ Q I h q => ?_⟩
  refine s1 c ρ b σ H _ _ I h fun d b1 v H1 ⟨k, e, h1⟩ I1 g1 r1 => ⟨k, by subst e; exact r1.bool_inv, ?_⟩
  cases k with
  | true => exact s2 c ρ b1 σ H1 _ _ I1 h1 fun d b2 v H2 h2 I2 g2 r2 => q _ _ _ _ h2 I2 (g1.trans g2) r2
  | false => exact q _ _ _ _ h1 I1 g1 (.bl false)
theorem d_or {w u : WE} {b : Expr} {rest : List Expr} (h1 : DE X a w) (h2 : DE X (.BoolOp .Or (b :: rest) pos) u) : DE X (.BoolOp .Or (a :: b :: rest) pos) (wOrV w u) := by
  obtain ⟨t1, p1, s1⟩ := h1.ex
  obtain ⟨t2, p2, s2⟩ := h2.ex
  refine ⟨_, pe_or p1 p2, fun c ρ b σ H Φ Q I h q => ?_⟩
  refine s1 c ρ b σ H _ _ I h fun d b1 v H1 ⟨k, e, h1⟩ I1 g1 r1 => ⟨k, by subst e; exact r1.bool_inv, ?_⟩
  cases k with
  | true => exact q _ _ _ _ h1 I1 g1 (.bl true)
  | false => exact s2 c ρ b1 σ H1 _ _ I1 h1 fun d b2 v H2 h2 I2 g2 r2 => q _ _ _ _ h2 I2 (g1.trans g2) r2
theorem d_not {w : WE} (h : DE X a w) : DE X (.UnaryOp .Not a pos) (wNotV w) := by
  obtain ⟨t1, p1, s1⟩ := h.ex
  refine ⟨_, pe_not p1, fun c ρ b σ H Φ Q I h q => ?_⟩
  exact s1 c ρ b σ H _ _ I h fun d b1 v H1 ⟨k, e, h1⟩ I1 g1 r1 => ⟨k, by subst e; exact r1.bool_inv, q _ _ _ _ h1 I1 g1 (.bl _)⟩
/-- a if t else b -/
def wIfE (t : WT) (u w : WE) : WE := fun ρ b Φ => t ρ b fun k b1 => if k = true then u ρ b1 Φ else w ρ b1 Φ
theorem d_if {t : WT} {u w : WE} {cnd b : Expr} (h0 : DT X cnd t) (h1 : DE X a u) (h2 : DE X b w) : DE X (.IfExp cnd a b pos) (wIfE t u w) := by
  obtain ⟨t0, p0, s0⟩ := h0.ex
  obtain ⟨t1, p1, s1⟩ := h1.ex
  obtain ⟨t2, p2, s2⟩ := h2.ex
  refine ⟨_, pe_ifExp p0 p1 p2, fun c ρ b σ H Φ Q I h q => ?_⟩
  refine s0 c ρ b σ H _ _ I h fun k b1 H1 h1 I1 g1 => ?_
  cases k with
  | true => exact s1 c ρ b1 σ H1 _ _ I1 h1 fun d b2 v H2 h2 I2 g2 r2 => q _ _ _ _ h2 I2 (g1.trans g2) r2
  | false => exact s2 c ρ b1 σ H1 _ _ I1 h1 fun d b2 v H2 h2 I2 g2 r2 => q _ _ _ _ h2 I2 (g1.trans g2) r2
end

/-! ### operations by data -/
section
variable {X : Cx} {K : PySem.W.Frag} {pos : Pos} {a b : Expr} {wa wb : WE}
def oI (C : Int → Int → Prop) (g : Int → Int → D) : Op2 := fun d e Φ => ∃ i j, d = .int i ∧ e = .int j ∧ C i j ∧ Φ (g i j)
def oI0 (g : Int → Int → D) : Op2 := fun d e Φ => ∃ i j, d = .int i ∧ e = .int j ∧ Φ (g i j)
theorem od_I {C : Int → Int → Prop} {g : Int → Int → V} {g' : Int → Int → D} (h : ∀ H i j, Dq K H (g i j) (g' i j)) : OpD K (rI C g) (oI C g') := by
  intro hs H x y d e Φ Q _ r1 r2 ⟨i, j, e1, e2, hc, h1⟩ q
  subst e1 e2
  exact ⟨i, j, r1.int_inv, r2.int_inv, hc, q _ _ _ h1 (Same.refl _) (h _ i j)⟩
theorem od_I0 {g : Int → Int → V} {g' : Int → Int → D} (h : ∀ H i j, Dq K H (g i j) (g' i j)) : OpD K (rI0 g) (oI0 g') := by
  intro hs H x y d e Φ Q _ r1 r2 ⟨i, j, e1, e2, h1⟩ q
  subst e1 e2
  exact ⟨i, j, r1.int_inv, r2.int_inv, q _ _ _ h1 (Same.refl _) (h _ i j)⟩
abbrev oAdd : Op2 := oI0 fun i j => .int (i + j)
abbrev oSub : Op2 := oI0 fun i j => .int (i - j)
abbrev oMul : Op2 := oI CMulW fun i j => .int (i * j)
abbrev oDiv : Op2 := oI CDivN fun i j => .int (i.fdiv j)
abbrev oDivW : Op2 := oI CDivW fun i j => .int (i / j)
abbrev oMod : Op2 := oI (fun _ j => j ≠ 0) fun i j => .int (i.fmod j)
abbrev oPow : Op2 := oI CPow fun i j => .int (i ^ j.toNat)
theorem d_add (h1 : DE X a wa) (h2 : DE X b wb) : DE X (.BinOp a .Add b pos) (w2 oAdd wa wb) := d_op op_add (od_I0 fun _ _ _ => .int _) h1 h2
theorem d_sub (h1 : DE X a wa) (h2 : DE X b wb) : DE X (.BinOp a .Sub b pos) (w2 oSub wa wb) := d_op op_sub (od_I0 fun _ _ _ => .int _) h1 h2
theorem d_mul (h1 : DE X a wa) (h2 : DE X b wb) : DE X (.BinOp a .Mult b pos) (w2 oMul wa wb) := d_op op_mulW (od_I fun _ _ _ => .int _) h1 h2
theorem d_div (h1 : DE X a wa) (h2 : DE X b wb) : DE X (.BinOp a .FloorDiv b pos) (w2 oDiv wa wb) := d_op op_fdivN (od_I fun _ _ _ => .int _) h1 h2
theorem d_divW (h1 : DE X a wa) (h2 : DE X b wb) : DE X (.BinOp a .FloorDiv b pos) (w2 oDivW wa wb) := d_op op_fdivW (od_I fun _ _ _ => .int _) h1 h2
theorem d_mod (h1 : DE X a wa) (h2 : DE X b wb) : DE X (.BinOp a .Mod b pos) (w2 oMod wa wb) := d_op op_modN (od_I fun _ _ _ => .int _) h1 h2
theorem d_pow (h1 : DE X a wa) (h2 : DE X b wb) : DE X (.BinOp a .Pow b pos) (w2 oPow wa wb) := d_op op_pow (od_I fun _ _ _ => .int _) h1 h2
abbrev oLt : Op2 := oI0 fun i j => .bool (decide (i < j))
abbrev oLe : Op2 := oI0 fun i j => .bool (decide (i ≤ j))
abbrev oGt : Op2 := oI0 fun i j => .bool (decide (j < i))
abbrev oGe : Op2 := oI0 fun i j => .bool (decide (j ≤ i))
theorem t_lt (h1 : DE X a wa) (h2 : DE X b wb) : DT X (.Compare a [.Lt] [b] pos) (wB (w2 oLt wa wb)) := t_cmp op_lt (od_I0 fun _ _ _ => .bl _) h1 h2 (nomark _)
theorem t_le (h1 : DE X a wa) (h2 : DE X b wb) : DT X (.Compare a [.LtE] [b] pos) (wB (w2 oLe wa wb)) := t_cmp op_le (od_I0 fun _ _ _ => .bl _) h1 h2 (nomark _)
theorem t_gt (h1 : DE X a wa) (h2 : DE X b wb) : DT X (.Compare a [.Gt] [b] pos) (wB (w2 oGt wa wb)) := t_cmp op_gt (od_I0 fun _ _ _ => .bl _) h1 h2 (nomark _)
theorem t_ge (h1 : DE X a wa) (h2 : DE X b wb) : DT X (.Compare a [.GtE] [b] pos) (wB (w2 oGe wa wb)) := t_cmp op_ge (od_I0 fun _ _ _ => .bl _) h1 h2 (nomark _)
theorem d_lt (h1 : DE X a wa) (h2 : DE X b wb) : DE X (.Compare a [.Lt] [b] pos) (w2 oLt wa wb) := d_cmp op_lt (od_I0 fun _ _ _ => .bl _) h1 h2 (nomark _)
theorem d_le (h1 : DE X a wa) (h2 : DE X b wb) : DE X (.Compare a [.LtE] [b] pos) (w2 oLe wa wb) := d_cmp op_le (od_I0 fun _ _ _ => .bl _) h1 h2 (nomark _)
theorem d_gt (h1 : DE X a wa) (h2 : DE X b wb) : DE X (.Compare a [.Gt] [b] pos) (w2 oGt wa wb) := d_cmp op_gt (od_I0 fun _ _ _ => .bl _) h1 h2 (nomark _)
theorem d_ge (h1 : DE X a wa) (h2 : DE X b wb) : DE X (.Compare a [.GtE] [b] pos) (w2 oGe wa wb) := d_cmp op_ge (od_I0 fun _ _ _ => .bl _) h1 h2 (nomark _)
/-- ==, != of data -/
def oEq (neg : Bool) : Op2 := fun d e Φ => SeqAt.shaped d = true ∧ SeqAt.shaped e = true ∧ Φ (.bool (if neg then !PyData.eqv d e else PyData.eqv d e))
theorem od_eq : OpD K (rEqD K) (oEq false) := fun hs H x y d e Φ Q _ r1 r2 ⟨h1, h2, h⟩ q => ⟨d, e, (dp_mono hid_le r1).dp (noDict_shaped h1), (dp_mono hid_le r2).dp (noDict_shaped h2), h1, h2, q _ _ _ h (Same.refl _) (.bl _)⟩
theorem od_ne : OpD K (rNeD K) (oEq true) := fun hs H x y d e Φ Q _ r1 r2 ⟨h1, h2, h⟩ q => ⟨d, e, (dp_mono hid_le r1).dp (noDict_shaped h1), (dp_mono hid_le r2).dp (noDict_shaped h2), h1, h2, q _ _ _ h (Same.refl _) (.bl _)⟩
theorem t_eq (hu : X.A.units + 64 < cLine) (h1 : DE X a wa) (h2 : DE X b wb) : DT X (.Compare a [.Eq] [b] pos) (wB (w2 (oEq false) wa wb)) := t_cmp (op_eqD hu) od_eq h1 h2 (nomark _)
theorem t_ne (hu : X.A.units + 64 < cLine) (h1 : DE X a wa) (h2 : DE X b wb) : DT X (.Compare a [.NotEq] [b] pos) (wB (w2 (oEq true) wa wb)) := t_cmp (op_neD hu) od_ne h1 h2 (nomark _)
theorem d_eq (hu : X.A.units + 64 < cLine) (h1 : DE X a wa) (h2 : DE X b wb) : DE X (.Compare a [.Eq] [b] pos) (w2 (oEq false) wa wb) := d_cmp (op_eqD hu) od_eq h1 h2 (nomark _)
theorem d_ne (hu : X.A.units + 64 < cLine) (h1 : DE X a wa) (h2 : DE X b wb) : DE X (.Compare a [.NotEq] [b] pos) (w2 (oEq true) wa wb) := d_cmp (op_neD hu) od_ne h1 h2 (nomark _)
/-- x[i] of a list, a tuple, by an int -/
def oIx : Op2 := fun d e Φ => ∃ ds i f, (d = .list ds ∨ d = .tuple ds) ∧ e = .int i ∧ atI ds i = some f ∧ Φ f
theorem atI_dp {H : Hp} {vs : List V} {ds : List D} {i : Int} {f : D} (r : DqAll K H vs ds) (h : atI ds i = some f) : ∃ v, atI vs i = some v ∧ Dq K H v f := by
  unfold atI at h ⊢
  rw [r.len]
  cases e : ixN ds.length i with
  | none => rw [e] at h; cases h
  | some n => rw [e] at h; exact r.get h
theorem od_ixL : OpD K (rIx K) oIx := by
  intro hs H x y d e Φ Q _ r1 r2 ⟨ds, i, f, h0, e2, h2, h⟩ q
  subst e2
  rcases h0 with h0 | h0
  · subst h0
    obtain ⟨p, xs, rfl, s1, s2⟩ := r1.lst_inv
    obtain ⟨v, h3, h4⟩ := atI_dp s2 h2
    exact .inl ⟨p, xs, i, v, rfl, r2.int_inv, SqL.of (hid_le _ _ s1), h3, q _ _ _ h (Same.refl _) h4⟩
  · subst h0
    obtain ⟨p, xs, rfl, s1, s2⟩ := r1.tup_inv
    obtain ⟨v, h3, h4⟩ := atI_dp s2 h2
    exact .inr (.inl ⟨p, xs, i, v, rfl, r2.int_inv, seqT hid_le s1, h3, q _ _ _ h (Same.refl _) h4⟩)
end
end DL

/-! DL3: slots that change; targets, statements by data. -/
namespace DL
open PySem L2

/-! ### addresses of owned lists -/
def adr1 : Sl → List Addr
  | .own p _ => [p]
  | _ => []
theorem adr_app : ∀ (l r : Env), adr (l ++ r) = adr l ++ adr r
  | [], r => rfl
  | .own p ds :: l, r => by show p :: adr (l ++ r) = p :: (adr l ++ adr r); rw [adr_app l r]
  | .no :: l, r => adr_app l r
  | .dat _ :: l, r => adr_app l r
  | .bag :: l, r => adr_app l r
  | .fn _ :: l, r => adr_app l r
theorem adr_cons (s : Sl) (l : Env) : adr (s :: l) = adr1 s ++ adr l := by cases s <;> rfl
theorem split_at {α : Type} : ∀ {l : List α} {i : Nat} {s : α}, l[i]? = some s → ∃ a b, l = a ++ s :: b ∧ a.length = i
  | [], i, s, h => by simp at h
  | x :: l, 0, s, h => by simp at h; subst h; exact ⟨[], l, rfl, rfl⟩
  | x :: l, i + 1, s, h => by
    obtain ⟨a, b, e, h1⟩ := split_at (l := l) (i := i) (s := s) (by simpa using h)
    exact ⟨x :: a, b, by rw [e]; rfl, by simp [h1]⟩
theorem set_at {α : Type} {a b : List α} {s t : α} {i : Nat} (h : a.length = i) : (a ++ s :: b).set i t = a ++ t :: b := by
  subst h
  rw [List.set_append_right _ _ (Nat.le_refl _), Nat.sub_self]
  rfl
theorem adr_set {ρ : Env} {i : Nat} {s : Sl} (h : ρ[i]? = some s) (t : Sl) : ∃ x y, adr ρ = x ++ adr1 s ++ y ∧ adr (ρ.set i t) = x ++ adr1 t ++ y := by
  obtain ⟨a, b, e, h1⟩ := split_at h
  subst e
  refine ⟨adr a, adr b, ?_, ?_⟩
  · rw [adr_app, adr_cons, List.append_assoc]
  · rw [set_at h1, adr_app, adr_cons, List.append_assoc]
theorem lt_get {α : Type} {l : List α} {i : Nat} (h : i < l.length) : ∃ s, l[i]? = some s := ⟨_, List.getElem?_eq_getElem h⟩

section
variable {K : PySem.W.Frag} {c : Fr} {ρ : Env} {b : Bag} {σ : St} {H : Hp}
theorem mem_adr : ∀ {ρ : Env} {i : Nat} {p : Addr} {ds : D}, ρ[i]? = some (.own p ds) → p ∈ adr ρ := fun {ρ i p ds} h => by
  obtain ⟨x, y, e, _⟩ := adr_set h .no
  rw [e]; simp [adr1]
/-- a slot takes data -/
theorem En.setD (I : En K c ρ b σ H) {i : Nat} {v : V} {d : D} (hi : i < ρ.length) (r : Dq K (hid (c.hs ρ) H) v d) :
    En K c (ρ.set i (.dat d)) b (σ.set i (some v)) H ∧ ∀ a ∈ c.hs (ρ.set i (.dat d)), a ∈ c.hs ρ := by
  obtain ⟨s, hs⟩ := lt_get hi
  obtain ⟨x, y, e1, e2⟩ := adr_set hs (.dat d)
  have e2 : adr (ρ.set i (.dat d)) = x ++ y := by rw [e2]; simp [adr1]
  have sub : ∀ a ∈ c.hs (ρ.set i (.dat d)), a ∈ c.hs ρ := fun a ha => by
    unfold Fr.hs at ha ⊢
    rw [e2] at ha; rw [e1]
    simp only [List.mem_append] at ha ⊢
    rcases ha with h | h | h
    · exact .inl h
    · exact .inr (.inl (.inl h))
    · exact .inr (.inr h)
  have sl : (c.hs (ρ.set i (.dat d))).Sublist (c.hs ρ) := by
    unfold Fr.hs
    rw [e2, e1]
    refine (List.Sublist.refl _).append ?_
    rw [List.append_assoc]
    exact (List.Sublist.refl _).append (List.sublist_append_right _ _)
  refine ⟨⟨I.same, by rw [List.length_set, List.length_set]; exact I.len, fun j t ht => ?_, I.nd.sublist sl, fun a ha => I.dom a (sub a ha), fun a ha => I.out a ?_, fun p hp => ?_⟩, sub⟩
  · by_cases hj : i = j
    · subst hj
      rw [List.getElem?_set_self hi] at ht
      cases ht
      refine ⟨some v, by rw [List.getElem?_set_self (by rw [I.len]; exact hi)], v, rfl, dp_mono (hid_sub sub) r⟩
    · rw [List.getElem?_set_ne hj] at ht
      obtain ⟨o, h1, h2⟩ := I.sl j t ht
      refine ⟨o, by rw [List.getElem?_set_ne hj]; exact h1, ?_⟩
      cases t with
      | no => trivial
      | dat _ => obtain ⟨v, e, q⟩ := h2; exact ⟨v, e, dp_mono (hid_sub sub) q⟩
      | own p ds => obtain ⟨e, vs, q1, q2⟩ := h2; exact ⟨e, vs, q1, q2.mono (hid_sub sub)⟩
      | bag => exact h2
      | fn f => exact h2
  · have : a ∈ c.bag.toList ++ (x ++ y) := by rw [← e2]; exact ha
    rw [e1]
    simp only [List.mem_append] at this ⊢
    rcases this with h | h | h
    · exact .inl h
    · exact .inr (.inl (.inl h))
    · exact .inr (.inr h)
  · obtain ⟨q, q1, q2⟩ := I.bag p hp
    exact ⟨q, q1, dp_mono (hid_sub sub) q2⟩
/-- a slot forgets -/
theorem En.setN (I : En K c ρ b σ H) {i : Nat} {o : Option V} (hi : i < ρ.length) (hno : adr1 (ρ[i]'hi) = []) : En K c (ρ.set i .no) b (σ.set i o) H ∧ c.hs (ρ.set i .no) = c.hs ρ := by
  have hs : ρ[i]? = some ρ[i] := List.getElem?_eq_getElem hi
  obtain ⟨x, y, e1, e2⟩ := adr_set hs .no
  have e : c.hs (ρ.set i .no) = c.hs ρ := by unfold Fr.hs; rw [e1, e2, hno]; rfl
  have e3 : adr (ρ.set i .no) = adr ρ := by rw [e1, e2, hno]; rfl
  refine ⟨⟨I.same, by rw [List.length_set, List.length_set]; exact I.len, fun j t ht => ?_, by rw [e]; exact I.nd, by rw [e]; exact I.dom, by rw [e3]; exact I.out, by rw [e]; exact I.bag⟩, e⟩
  rw [e]
  by_cases hj : i = j
  · subst hj
    rw [List.getElem?_set_self hi] at ht
    cases ht
    exact ⟨o, by rw [List.getElem?_set_self (by rw [I.len]; exact hi)], trivial⟩
  · rw [List.getElem?_set_ne hj] at ht
    obtain ⟨o, h1, h2⟩ := I.sl j t ht
    exact ⟨o, by rw [List.getElem?_set_ne hj]; exact h1, h2⟩
/-- a new list of this body's own -/
theorem En.setO (I : En K c ρ b σ H) {i : Nat} {p : Addr} {ho : HO} {ds : D} (hi : i < ρ.length) (hp : H p = none) (r : Held K (hid (c.hs ρ) H) p ho ds) :
    En K c (ρ.set i (.own p ds)) b (σ.set i (some (.ref p))) (upd H p ho) ∧ Same (hid (c.hs ρ) H) (hid (c.hs (ρ.set i (.own p ds))) (upd H p ho)) := by
  obtain ⟨s, hs⟩ := lt_get hi
  obtain ⟨x, y, e1, e2⟩ := adr_set hs (.own p ds)
  have e2 : adr (ρ.set i (.own p ds)) = x ++ [p] ++ y := e2
  have fr := I.fresh hp
  have sub : ∀ a ∈ c.hs (ρ.set i (.own p ds)), a ∈ c.hs ρ ∨ a = p := fun a ha => by
    unfold Fr.hs at ha ⊢
    rw [e2] at ha; rw [e1]
    simp only [List.mem_append, List.mem_singleton] at ha ⊢
    rcases ha with h | (h | h) | h
    · exact .inl (.inl h)
    · exact .inl (.inr (.inl (.inl h)))
    · exact .inr h
    · exact .inl (.inr (.inr h))
  have hm : p ∈ c.hs (ρ.set i (.own p ds)) := by unfold Fr.hs; rw [e2]; simp
  have g : Same (hid (c.hs ρ) H) (hid (c.hs (ρ.set i (.own p ds))) (upd H p ho)) := fun a o h => by
    obtain ⟨h1, h2⟩ := hid_some h
    have hne : a ≠ p := ne_of_none h2 hp
    rw [hid_out fun z => (sub a z).elim h1 hne, upd_ne hne]; exact h2
  have keep : ∀ a ∈ c.hs ρ, a ≠ p := fun a ha z => fr (by rw [← z]; exact ha)
  refine ⟨⟨I.same.trans (same_new hp _), by rw [List.length_set, List.length_set]; exact I.len, fun j t ht => ?_, ?_, fun a ha => ?_, fun a ha => ?_, fun q hq => ?_⟩, g⟩
  · by_cases hj : i = j
    · subst hj
      rw [List.getElem?_set_self hi] at ht
      cases ht
      exact ⟨some (.ref p), by rw [List.getElem?_set_self (by rw [I.len]; exact hi)], rfl, ho, upd_same, r.mono g⟩
    · rw [List.getElem?_set_ne hj] at ht
      obtain ⟨o, h1, h2⟩ := I.sl j t ht
      refine ⟨o, by rw [List.getElem?_set_ne hj]; exact h1, ?_⟩
      cases t with
      | no => trivial
      | dat _ => obtain ⟨v, e, q⟩ := h2; exact ⟨v, e, dp_mono g q⟩
      | own q ds' => obtain ⟨e, us, q1, q2⟩ := h2; exact ⟨e, us, by rw [upd_ne (ne_of_none q1 hp)]; exact q1, q2.mono g⟩
      | bag => exact h2
      | fn f => exact h2
  · have n1 := I.nd
    unfold Fr.hs at n1 fr ⊢
    rw [e1] at n1 fr
    rw [e2]
    simp only [List.append_assoc, List.nodup_append, List.mem_append, List.singleton_append, List.nodup_cons, List.mem_cons] at n1 fr ⊢
    grind
  · rcases sub a ha with h | h
    · intro z; rw [upd_ne (keep a h)] at z; exact I.dom a h z
    · rw [h, upd_same]; simp
  · have : a ∈ c.bag.toList ++ (x ++ [p] ++ y) := by rw [← e2]; exact ha
    simp only [List.mem_append, List.mem_singleton] at this
    have hF : c.F p = none := I.same.free hp
    have ho : ∀ a ∈ c.bag.toList ++ (x ++ adr1 s ++ y), c.F a = none := by rw [← e1]; exact I.out
    rcases this with h | (h | h) | h
    · exact ho a (by simp [h])
    · exact ho a (by simp [h])
    · rw [h]; exact hF
    · exact ho a (by simp [h])
  · obtain ⟨r1, q1, q2⟩ := I.bag q hq
    exact ⟨r1, by rw [upd_ne (ne_of_none q1 hp)]; exact q1, dp_mono g q2⟩
/-- an owned list changes -/
theorem En.updO (I : En K c ρ b σ H) {i : Nat} {p : Addr} {ho : HO} {ds ds' : D} (hi : ρ[i]? = some (.own p ds)) (r : Held K (hid (c.hs ρ) H) p ho ds') :
    En K c (ρ.set i (.own p ds')) b σ (upd H p ho) ∧ c.hs (ρ.set i (.own p ds')) = c.hs ρ ∧ hid (c.hs ρ) (upd H p ho) = hid (c.hs ρ) H := by
  obtain ⟨x, y, e1, e2⟩ := adr_set hi (.own p ds')
  have e3 : adr (ρ.set i (.own p ds')) = adr ρ := by rw [e1, e2]; rfl
  have e : c.hs (ρ.set i (.own p ds')) = c.hs ρ := by unfold Fr.hs; rw [e3]
  have hm : p ∈ c.hs ρ := List.mem_append_right _ (mem_adr hi)
  have hh : hid (c.hs ρ) (upd H p ho) = hid (c.hs ρ) H := hid_upd_in hm
  have hlt : i < ρ.length := (List.getElem?_eq_some_iff.mp hi).1
  have nd := I.nd
  refine ⟨⟨fun a o h => ?_, by rw [List.length_set]; exact I.len, fun j t ht => ?_, by rw [e]; exact I.nd, fun a ha => ?_, by rw [e3]; exact I.out, fun q hq => ?_⟩, e, hh⟩
  · have : a ≠ p := fun z => by
      have := I.out p (List.mem_append_right _ (mem_adr hi))
      rw [← z, h] at this; cases this
    rw [upd_ne this]; exact I.same a o h
  · rw [e]
    by_cases hj : i = j
    · subst hj
      rw [List.getElem?_set_self hlt] at ht
      cases ht
      obtain ⟨o, h1, h2, _⟩ := I.sl i _ hi
      exact ⟨o, h1, h2, ho, upd_same, by rw [hh]; exact r⟩
    · rw [List.getElem?_set_ne hj] at ht
      obtain ⟨o, h1, h2⟩ := I.sl j t ht
      refine ⟨o, h1, ?_⟩
      cases t with
      | no => trivial
      | dat _ => obtain ⟨v, e, q⟩ := h2; exact ⟨v, e, by rw [hh]; exact q⟩
      | own q dq =>
        obtain ⟨e, us, q1, q2⟩ := h2
        refine ⟨e, us, ?_, by rw [hh]; exact q2⟩
        have hne : q ≠ p := fun z => by
          subst z
          have hj' : (ρ.set i .no)[j]? = some (.own q dq) := by rw [List.getElem?_set_ne hj]; exact ht
          have m2 := mem_adr hj'
          obtain ⟨x', y', f1, f2⟩ := adr_set hi .no
          have f2 : adr (ρ.set i .no) = x' ++ y' := by rw [f2]; simp [adr1]
          unfold Fr.hs at nd
          rw [f1] at nd
          rw [f2] at m2
          simp only [adr1, List.append_assoc, List.nodup_append, List.mem_append, List.singleton_append, List.nodup_cons, List.mem_cons] at nd m2
          grind
        rw [upd_ne hne]; exact q1
      | bag => exact h2
      | fn f => exact h2
  · rw [e] at ha
    by_cases z : a = p
    · rw [z, upd_same]; simp
    · rw [upd_ne z]; exact I.dom a ha
  · rw [e]
    obtain ⟨r1, q1, q2⟩ := I.bag q hq
    have hne : q ≠ p := fun z => by
      subst z
      unfold Fr.hs Fr.hb at nd
      have m1 : q ∈ c.bag.toList := by rw [hq]; simp
      have m2 := mem_adr hi
      simp only [List.append_assoc, List.nodup_append, List.mem_append] at nd
      grind
    exact ⟨r1, by rw [upd_ne hne]; exact q1, by rw [hh]; exact q2⟩
/-- an owned list is data from here on -/
theorem En.frz (I : En K c ρ b σ H) {i : Nat} {p : Addr} {ds : D} (hi : ρ[i]? = some (.own p ds)) :
    En K c (ρ.set i (.dat ds)) b σ H ∧ ∀ a ∈ c.hs (ρ.set i (.dat ds)), a ∈ c.hs ρ := by
  obtain ⟨x, y, e1, e2⟩ := adr_set hi (.dat ds)
  have e2 : adr (ρ.set i (.dat ds)) = x ++ y := by rw [e2]; simp [adr1]
  have hlt : i < ρ.length := (List.getElem?_eq_some_iff.mp hi).1
  have sub : ∀ a ∈ c.hs (ρ.set i (.dat ds)), a ∈ c.hs ρ := fun a ha => by
    unfold Fr.hs at ha ⊢
    rw [e2] at ha; rw [e1]
    simp only [List.mem_append] at ha ⊢
    grind
  have hp : p ∉ c.hs (ρ.set i (.dat ds)) := by
    have nd := I.nd
    unfold Fr.hs at nd ⊢
    rw [e1] at nd
    rw [e2]
    simp only [adr1, List.append_assoc, List.nodup_append, List.mem_append, List.singleton_append, List.nodup_cons, List.mem_cons] at nd ⊢
    grind
  have sl : (c.hs (ρ.set i (.dat ds))).Sublist (c.hs ρ) := by
    unfold Fr.hs
    rw [e2, e1]
    refine (List.Sublist.refl _).append ?_
    rw [List.append_assoc]
    exact (List.Sublist.refl _).append (List.sublist_append_right _ _)
  refine ⟨⟨I.same, by rw [List.length_set]; exact I.len, fun j t ht => ?_, I.nd.sublist sl, fun a ha => I.dom a (sub a ha), fun a ha => I.out a ?_, fun q hq => ?_⟩, sub⟩
  · by_cases hj : i = j
    · subst hj
      rw [List.getElem?_set_self hlt] at ht
      cases ht
      obtain ⟨o, h1, h2, vs, h3, h4⟩ := I.sl i _ hi
      exact ⟨o, h1, .ref p, h2, Held.dq (h4.mono (hid_sub sub)) (by rw [hid_out hp]; exact h3)⟩
    · rw [List.getElem?_set_ne hj] at ht
      obtain ⟨o, h1, h2⟩ := I.sl j t ht
      refine ⟨o, h1, ?_⟩
      cases t with
      | no => trivial
      | dat _ => obtain ⟨v, e, q⟩ := h2; exact ⟨v, e, dp_mono (hid_sub sub) q⟩
      | own q dq => obtain ⟨e, us, q1, q2⟩ := h2; exact ⟨e, us, q1, q2.mono (hid_sub sub)⟩
      | bag => exact h2
      | fn f => exact h2
  · have : a ∈ c.bag.toList ++ (x ++ y) := by rw [← e2]; exact ha
    rw [e1]
    simp only [List.mem_append] at this ⊢
    grind
  · obtain ⟨q, q1, q2⟩ := I.bag q hq
    exact ⟨q, q1, dp_mono (hid_sub sub) q2⟩
end
end DL

/-! DL4: targets, statements, loops by data. -/
namespace DL
open PySem L2

inductive Out where
  | nx (ρ : Env) (b : Bag)
  | rt (d : D) (b : Bag)
  | bk (ρ : Env) (b : Bag)
  | ct (ρ : Env) (b : Bag)
abbrev WS := Env → Bag → (Out → Prop) → Prop
structure RtOk (K : PySem.W.Frag) (c : Fr) (H : Hp) (v : V) (d : D) (b : Bag) : Prop where
  same : Same c.F H
  val : Dq K (hid c.hb H) v d
  bag : ∀ p, c.bag = some p → BagAt K c.hb H p b
structure EndsOk (K : PySem.W.Frag) (c : Fr) (B : Hp) (Φ : Out → Prop) (E : Ends) : Prop where
  nx : ∀ ρ b σ H, Φ (.nx ρ b) → En K c ρ b σ H → Same B (hid (c.hs ρ) H) → E.nx σ H
  rt : ∀ d b v H, Φ (.rt d b) → RtOk K c H v d b → E.rt v H
  bk : ∀ ρ b σ H, Φ (.bk ρ b) → En K c ρ b σ H → Same B (hid (c.hs ρ) H) → E.bk σ H
  ct : ∀ ρ b σ H, Φ (.ct ρ b) → En K c ρ b σ H → Same B (hid (c.hs ρ) H) → E.ct σ H
def SndS (K : PySem.W.Frag) (ts : TS) (w : WS) : Prop := ∀ (c : Fr) (ρ : Env) (b : Bag) (σ : St) (H B : Hp) (Φ : Out → Prop) (E : Ends), En K c ρ b σ H → Same B (hid (c.hs ρ) H) → w ρ b Φ → EndsOk K c B Φ E → ts E σ H
structure DS (X : Cx) (st : Stmt) (w : WS) : Prop where
  ex : ∃ ts, PS X st ts ∧ SndS X.K ts w
structure DSs (X : Cx) (st : List Stmt) (w : WS) : Prop where
  ex : ∃ ts, PSs X st ts ∧ SndS X.K ts w
theorem En.rt {K : PySem.W.Frag} {c : Fr} {ρ : Env} {b : Bag} {σ : St} {H : Hp} (I : En K c ρ b σ H) {v : V} {d : D} (r : Dq K (hid (c.hs ρ) H) v d) : RtOk K c H v d b :=
  ⟨I.same, dp_mono (hid_sub fun a ha => List.mem_append_left _ ha) r, fun p hp => let ⟨q, h1, h2⟩ := I.bag p hp; ⟨q, h1, dp_mono (hid_sub fun a ha => List.mem_append_left _ ha) h2⟩⟩

/-! ### targets -/
abbrev WG := D → Env → (Env → Prop) → Prop
def SndG (K : PySem.W.Frag) (tg : TG) (w : WG) : Prop := ∀ (c : Fr) (ρ : Env) (b : Bag) (σ : St) (H : Hp) (v : V) (d : D) (Φ : Env → Prop) (Q : St → Hp → Prop), En K c ρ b σ H → Dq K (hid (c.hs ρ) H) v d → w d ρ Φ →
  (∀ ρ' σ', Φ ρ' → En K c ρ' b σ' H → (∀ a ∈ c.hs ρ', a ∈ c.hs ρ) → Q σ' H) → tg v σ H Q
/-- the slots outside vs stay -/
def OnlyG (tg : TG) (vs : List Nat) : Prop := ∀ v σ H (Q Q' : St → Hp → Prop), tg v σ H Q → (∀ σ' H', Q σ' H' → (∀ is, (∀ i ∈ vs, i ∈ is) → wipe σ' is = wipe σ is) → Q' σ' H') → tg v σ H Q'
def OnlyGs (tg : TGs) (vs : List Nat) : Prop := ∀ v σ H (Q Q' : St → Hp → Prop), tg v σ H Q → (∀ σ' H', Q σ' H' → (∀ is, (∀ i ∈ vs, i ∈ is) → wipe σ' is = wipe σ is) → Q' σ' H') → tg v σ H Q'
structure DG (X : Cx) (t : Expr) (vs : List Nat) (w : WG) : Prop where
  ex : ∃ tg, PG X t tg ∧ SndG X.K tg w ∧ OnlyG tg vs
abbrev WGs := List D → Env → (Env → Prop) → Prop
def SndGs (K : PySem.W.Frag) (tg : TGs) (w : WGs) : Prop := ∀ (c : Fr) (ρ : Env) (b : Bag) (σ : St) (H : Hp) (v : List V) (d : List D) (Φ : Env → Prop) (Q : St → Hp → Prop), En K c ρ b σ H → DqAll K (hid (c.hs ρ) H) v d → w d ρ Φ →
  (∀ ρ' σ', Φ ρ' → En K c ρ' b σ' H → (∀ a ∈ c.hs ρ', a ∈ c.hs ρ) → Q σ' H) → tg v σ H Q
structure DGs (X : Cx) (t : List Expr) (vs : List Nat) (w : WGs) : Prop where
  ex : ∃ tg, PGs X t tg ∧ SndGs X.K tg w ∧ OnlyGs tg vs
theorem wipe_get : ∀ (is : List Nat) (σ : St) (j : Nat), (wipe σ is)[j]? = if j ∈ is ∧ j < σ.length then some none else σ[j]?
  | [], σ, j => by simp [wipe]
  | v :: vs, σ, j => by
    unfold wipe
    rw [List.getElem?_set, wipe_get vs σ j, wipe_length]
    by_cases h : v = j
    · subst h
      by_cases h2 : v < σ.length
      · simp [h2]
      · simp [h2]
    · simp [h, Ne.symm h]
theorem wipe_set {σ : St} {i : Nat} {o : Option V} {is : List Nat} (h : i ∈ is) : wipe (σ.set i o) is = wipe σ is := by
  apply List.ext_getElem?
  intro j
  rw [wipe_get, wipe_get, List.length_set, List.getElem?_set]
  by_cases e : i = j
  · subst e
    by_cases h2 : i < σ.length
    · simp [h, h2]
    · simp [h2]
  · simp [e]
section
variable {X : Cx} {pos : Pos}
def gN (i : Nat) : WG := fun d ρ Φ => i < ρ.length ∧ Φ (ρ.set i (.dat d))
def gNl : WGs := fun ds ρ Φ => ds = [] ∧ Φ ρ
def gCs (w : WG) (u : WGs) : WGs := fun ds ρ Φ => ∃ d r, ds = d :: r ∧ w d ρ fun ρ' => u r ρ' Φ
def gT (n : Nat) (u : WGs) : WG := fun d ρ Φ => ∃ ds, d = .tuple ds ∧ ds.length = n ∧ u ds ρ Φ
theorem g_name (i : Nat) {x : Str} (hN : X.N.Nodup) (hi : X.N[i]? = some x) (hx : Loc X.env.scope x) (hf : X.fn x = true ∨ X.env.scope.names.lookup x = some .local) : DG X (.Name x pos) [i] (gN i) := by
  refine ⟨_, pg_name hN hi hx hf, fun c ρ b σ H v d Φ Q I r ⟨h1, h2⟩ q => ?_, fun v σ H Q Q' h k => k _ _ h fun is hi => wipe_set (hi i (by simp))⟩
  obtain ⟨I', s⟩ := I.setD h1 r
  exact q _ _ h2 I' s
theorem g_nil : DGs X [] [] gNl := ⟨_, pgs_nil, fun c ρ b σ H v d Φ Q I r ⟨e, h⟩ q => by
  subst e; cases r; exact ⟨rfl, q _ _ h I fun _ h => h⟩, fun v σ H Q Q' ⟨e, h⟩ k => ⟨e, k _ _ h fun _ _ => rfl⟩⟩
theorem g_cons {e : Expr} {es : List Expr} {vs us : List Nat} {w : WG} {u : WGs} (h1 : DG X e vs w) (h2 : DGs X es us u) (hs : (assignEach (e :: es) X.env).map (·.2) = assign e X.env :: (assignEach es X.env).map (·.2) := by rfl) : DGs X (e :: es) (vs ++ us) (gCs w u) := by
  obtain ⟨t1, p1, s1, o1⟩ := h1.ex
  obtain ⟨t2, p2, s2, o2⟩ := h2.ex
  refine ⟨_, pgs_cons p1 p2 hs, fun c ρ b σ H v d Φ Q I r ⟨d1, dr, e, h⟩ q => ?_, fun v σ H Q Q' ⟨x, r, e, h⟩ k => ⟨x, r, e, o1 _ _ _ _ _ h fun σ1 H1 h2 w1 => o2 _ _ _ _ _ h2 fun σ2 H2 h3 w2 => k _ _ h3 fun is hi => (w2 is fun i m => hi i (by simp [m])).trans (w1 is fun i m => hi i (by simp [m]))⟩⟩
  subst e
  cases r with
  | cons r1 rr =>
    refine ⟨_, _, rfl, s1 c ρ b σ H _ _ _ _ I r1 h fun ρ' σ' h' I' sub => ?_⟩
    exact s2 c ρ' b σ' H _ _ _ _ I' (dpAll_mono (hid_sub sub) rr) h' fun ρ2 σ2 h2 I2 sub2 => q _ _ h2 I2 fun a ha => sub a (sub2 a ha)
theorem g_tup {es : List Expr} {k : Nat} {vs : List Nat} {u : WGs} {n : Nat} (hc : X.calm = true) (h : DGs X es vs u) (hn : (assignEach es X.env).length = n := by rfl) (hst : (assignEach es X.env).findIdx? (·.1) = none := by rfl) : DG X (.Tuple es k pos) vs (gT n u) := by
  obtain ⟨t, p, s, o⟩ := h.ex
  refine ⟨_, pg_tup hc p hn hst, fun c ρ b σ H v d Φ Q I r ⟨ds, e, hl, h⟩ q => ?_, fun v σ H Q Q' ⟨a, xs, e, h1, h2, h3⟩ k => ⟨a, xs, e, h1, h2, o _ _ _ _ _ h3 k⟩⟩
  subst e
  obtain ⟨a, xs, e, r1, r2⟩ := r.tup_inv
  exact ⟨a, xs, e, seqT hid_le r1, by rw [r2.len]; exact hl, s c ρ b σ H _ _ _ _ I r2 h q⟩

/-! ### statements -/
def sAsg (we : WE) (g : WG) : WS := fun ρ b Φ => we ρ b fun d b1 => g d ρ fun ρ' => Φ (.nx ρ' b1)
def sSet (i : Nat) (we : WE) : WS := sAsg we (gN i)
theorem snd_asg {K : PySem.W.Frag} {te : TE} {tg : TG} {we : WE} {g : WG} (s1 : Snd K te we) (s2 : SndG K tg g) : SndS K (tAsg te tg) (sAsg we g) := by
  intro c ρ b σ H B Φ E I hB h q
  refine s1 c ρ b σ H _ _ I h fun d b1 v H1 h1 I1 g1 r1 => ?_
  exact s2 c ρ b1 σ H1 v d _ _ I1 r1 h1 fun ρ' σ' h' I' sub => q.nx _ _ _ _ h' I' (Same.trans hB (Same.trans g1 (hid_sub sub)))
theorem s_set (i : Nat) {x : Str} {e : Expr} {we : WE} {pos' : Pos} (hN : X.N.Nodup) (hi : X.N[i]? = some x) (hx : Loc X.env.scope x) (hf : X.fn x = true ∨ X.env.scope.names.lookup x = some .local) (he : DE X e we) (hs : swapsWith e (some (.Name x pos')) pos.line X.env = pure false := by rfl) :
    DS X (.Assign [.Name x pos'] e pos) (sSet i we) := by
  obtain ⟨te, p, s⟩ := he.ex
  obtain ⟨tg, p2, s2, _⟩ := (g_name (pos := pos') i hN hi hx hf).ex
  refine ⟨_, ps_set (i := i) hN hi hx p hs hf, ?_⟩
  refine snd_asg s ?_
  intro c ρ b σ H v d Φ Q I r ⟨h1, h2⟩ q
  obtain ⟨I', s⟩ := I.setD h1 r
  exact q _ _ h2 I' s
theorem s_asg {tg e : Expr} {vs : List Nat} {we : WE} {g : WG} (he : DE X e we) (hg : DG X tg vs g) (hs : swapsWithSole [tg] e pos.line X.env = pure false := by rfl) (hw : swappedStores [tg] e X.env = pure none := by rfl)
    (h1 : (assignEach [tg] X.env).map (·.2) = [assign tg X.env] := by rfl) : DS X (.Assign [tg] e pos) (sAsg we g) := by
  obtain ⟨te, p, s⟩ := he.ex
  obtain ⟨tg, p2, s2, _⟩ := hg.ex
  exact ⟨_, ps_asg p p2 hs hw h1, snd_asg s s2⟩
/-- x = [], a list of the body's own -/
def sOwn (i : Nat) : WS := fun ρ b Φ => i < ρ.length ∧ ∀ p, Φ (.nx (ρ.set i (.own p (.list []))) b)
theorem s_own (i : Nat) {x : Str} {pos' lp : Pos} (hN : X.N.Nodup) (hi : X.N[i]? = some x) (hx : Loc X.env.scope x) (hf : X.fn x = true ∨ X.env.scope.names.lookup x = some .local) (hs : swapsWith (.List [] lp) (some (.Name x pos')) pos.line X.env = pure false := by rfl) :
    DS X (.Assign [.Name x pos'] (.List [] lp) pos) (sOwn i) := by
  refine ⟨_, ps_set (i := i) hN hi hx (pe_lst pa_nil) hs hf, fun c ρ b σ H B Φ E I hB ⟨h1, h2⟩ q => ?_⟩
  refine ⟨by decide, fun p hp => ?_⟩
  obtain ⟨I', g⟩ := I.setO (ho := .lst []) (ds := .list []) h1 hp (.lst .nil)
  exact q.nx _ _ _ _ (h2 p) I' (hB.trans g)
/-- x, y = e, []: the list is the body's own -/
def sParO (i j : Nat) (we : WE) : WS := fun ρ b Φ => we ρ b fun d b1 => i < ρ.length ∧ j < ρ.length ∧ ∀ p, Φ (.nx ((ρ.set i (.dat d)).set j (.own p (.list []))) b1)
theorem s_parO (i j : Nat) {x y : Str} {e : Expr} {we : WE} {k k' : Nat} {p1 p2 p3 p4 lp : Pos} (hN : X.N.Nodup) (hc : X.calm = true) (hi : X.N[i]? = some x) (hx : Loc X.env.scope x) (hf : X.fn x = true ∨ X.env.scope.names.lookup x = some .local)
    (hj : X.N[j]? = some y) (hy : Loc X.env.scope y) (hf2 : X.fn y = true ∨ X.env.scope.names.lookup y = some .local) (he : DE X e we)
    (hs : swapsWithSole [.Tuple [.Name x p1, .Name y p2] k p3] (.Tuple [e, .List [] lp] k' p4) pos.line X.env = pure false := by rfl) (hw : swappedStores [.Tuple [.Name x p1, .Name y p2] k p3] (.Tuple [e, .List [] lp] k' p4) X.env = pure none := by rfl)
    (h1 : (assignEach [.Tuple [.Name x p1, .Name y p2] k p3] X.env).map (·.2) = [assign (.Tuple [.Name x p1, .Name y p2] k p3) X.env] := by rfl)
    (h2 : starEach (e :: [.List [] lp]) X.env = (false, eval e X.env) :: starEach [.List [] lp] X.env := by rfl) (h3 : starEach [.List [] lp] X.env = (false, eval (.List [] lp) X.env) :: starEach [] X.env := by rfl) :
    DS X (.Assign [.Tuple [.Name x p1, .Name y p2] k p3] (.Tuple [e, .List [] lp] k' p4) pos) (sParO i j we) := by
  obtain ⟨te, p, s⟩ := he.ex
  refine ⟨_, ps_asg (pe_tup (pa_cons p (pa_cons (pe_lst pa_nil) pa_nil h3) h2)) (pg_tup hc (pgs_cons (pg_name (i := i) hN hi hx hf) (pgs_cons (pg_name (i := j) hN hj hy hf2) pgs_nil))) hs hw h1, fun c ρ b σ H B Φ E I hB h q => ?_⟩
  refine s c ρ b σ H _ _ I h fun d b1 v H1 ⟨hi1, hj1, h1⟩ I1 g1 r1 => ⟨by show 0 ≤ sizeLine; decide, fun p hp => ⟨by show 2 ≤ sizeLine; decide, fun t ht => ?_⟩⟩
  refine ⟨t, _, rfl, .inl (.inl upd_same), rfl, _, _, rfl, _, _, rfl, rfl, ?_⟩
  -- first the tuple's own cell is let be: the heap grows by it; then the list is taken as the body's own
  obtain ⟨Ia, sa⟩ := I1.setD hi1 r1
  obtain ⟨Ib, gb⟩ := Ia.setO (p := p) (ho := .lst []) (ds := .list []) (i := j) (by rw [List.length_set]; exact hj1) hp (.lst .nil)
  have Ic := Ib.grow (same_new ht (.tup [v, .ref p]))
  refine q.nx _ _ _ _ (h1 p) Ic ?_
  exact Same.trans hB (Same.trans g1 (Same.trans (hid_sub sa) (Same.trans gb (hid_same (same_new ht _)))))
/-- what an owned list holds is data from here on -/
def sFrz (i : Nat) (w : WS) : WS := fun ρ b Φ => ∃ p ds, ρ[i]? = some (.own p ds) ∧ w (ρ.set i (.dat ds)) b Φ
theorem s_frz (i : Nat) {st : Stmt} {w : WS} (h : DS X st w) : DS X st (sFrz i w) := by
  obtain ⟨ts, p, s⟩ := h.ex
  refine ⟨_, p, fun c ρ b σ H B Φ E I hB ⟨p, ds, e, h⟩ q => ?_⟩
  obtain ⟨I', sub⟩ := I.frz e
  exact s c _ b σ H B Φ E I' (hB.trans (hid_sub sub)) h q
def sRet (we : WE) : WS := fun ρ b Φ => we ρ b fun d b1 => Φ (.rt d b1)
theorem s_ret {e : Expr} {we : WE} (he : DE X e we) : DS X (.Return (some e) pos) (sRet we) := by
  obtain ⟨te, p, s⟩ := he.ex
  refine ⟨_, ps_ret p, fun c ρ b σ H B Φ E I hB h q => ?_⟩
  exact s c ρ b σ H _ _ I h fun d b1 v H1 h1 I1 g1 r1 => q.rt _ _ _ _ h1 (I1.rt r1)
def sDrop (we : WE) : WS := fun ρ b Φ => we ρ b fun _ b1 => Φ (.nx ρ b1)
theorem s_expr {e : Expr} {we : WE} (he : DE X e we) (hs : swapsWith e none pos.line X.env = pure false := by rfl) : DS X (.Expr e pos) (sDrop we) := by
  obtain ⟨te, p, s⟩ := he.ex
  refine ⟨_, ps_expr p hs, fun c ρ b σ H B Φ E I hB h q => ?_⟩
  exact s c ρ b σ H _ _ I h fun d b1 v H1 h1 I1 g1 r1 => q.nx _ _ _ _ h1 I1 (hB.trans g1)
def sIf (t : WT) (u w : WS) : WS := fun ρ b Φ => t ρ b fun k b1 => if k = true then u ρ b1 Φ else w ρ b1 Φ
theorem s_if {cnd : Expr} {a b : List Stmt} {t : WT} {u w : WS} (h0 : DT X cnd t) (h1 : DSs X a u) (h2 : DSs X b w) : DS X (.If cnd a b pos) (sIf t u w) := by
  obtain ⟨t0, p0, s0⟩ := h0.ex
  obtain ⟨t1, p1, s1⟩ := h1.ex
  obtain ⟨t2, p2, s2⟩ := h2.ex
  refine ⟨_, ps_if p0 p1 p2, fun c ρ b σ H B Φ E I hB h q => ?_⟩
  refine s0 c ρ b σ H _ _ I h fun k b1 H1 h1 I1 g1 => ?_
  cases k with
  | true => exact s1 c ρ b1 σ H1 B Φ E I1 (hB.trans g1) h1 q
  | false => exact s2 c ρ b1 σ H1 B Φ E I1 (hB.trans g1) h1 q
def sNever : WS := fun _ _ _ => False
theorem s_never {st : Stmt} : DS X st sNever := ⟨_, ps_never, fun _ _ _ _ _ _ _ _ _ _ h _ => h.elim⟩
theorem ss_never {st : List Stmt} : DSs X st sNever := ⟨_, pss_never, fun _ _ _ _ _ _ _ _ _ _ h _ => h.elim⟩
def sBreak : WS := fun ρ b Φ => Φ (.bk ρ b)
theorem s_break : DS X (.Break pos) sBreak := ⟨_, ps_break, fun c ρ b σ H B Φ E I hB h q => q.bk _ _ _ _ h I hB⟩
def sPass : WS := fun ρ b Φ => Φ (.nx ρ b)
theorem s_pass : DS X (.Pass pos) sPass := ⟨_, ps_pass, fun c ρ b σ H B Φ E I hB h q => q.nx _ _ _ _ h I hB⟩
/-! ### blocks -/
def bSeq (u : WS) (Φ : Out → Prop) : Out → Prop
  | .nx ρ b => u ρ b Φ
  | o => Φ o
def sSeq (w u : WS) : WS := fun ρ b Φ => w ρ b (bSeq u Φ)
def sSkip : WS := fun ρ b Φ => Φ (.nx ρ b)
theorem ss_nil : DSs X [] sSkip := ⟨_, pss_nil, fun c ρ b σ H B Φ E I hB h q => q.nx _ _ _ _ h I hB⟩
theorem ss_one {st : Stmt} {w : WS} (h : DS X st w) : DSs X [st] w := let ⟨t, p, s⟩ := h.ex; ⟨t, pss_one p, s⟩
theorem ss_cons {st : Stmt} {rest : List Stmt} {w u : WS} (h1 : DS X st w) (h2 : DSs X rest u) : DSs X (st :: rest) (sSeq w u) := by
  obtain ⟨t1, p1, s1⟩ := h1.ex
  obtain ⟨t2, p2, s2⟩ := h2.ex
  refine ⟨_, pss_cons p1 p2, fun c ρ b σ H B Φ E I hB h q => ?_⟩
  exact s1 c ρ b σ H B _ _ I hB h ⟨fun ρ' b' σ' H' h' I' g => s2 c ρ' b' σ' H' B Φ E I' g h' q, q.rt, q.bk, q.ct⟩
end
end DL

/-! DLG: defs that run where no guard stands (repr of lists asks it): their promise, their bodies, their calls. -/
namespace DL
open PySem PySem.Spec PyProof.Rows L2

/-- what a def promises where no guard stands -/
structure FnG (P : Program) (w : World) (K : PySem.W.Frag) (mg : Str → Option Value) (base : Heap) (k : Nat) (f : Addr) (fd : FuncData) (ps : List Str) (sp : Sp) : Prop where
  len : ∀ vs H Q E, sp vs H Q E → vs.length = ps.length
  go : ∀ (A : Around) (outer : List PySem.Env) (s : Shared) (H : Hp) (as : Args) (us : List Value) (vs : List V) (Q : VK), A.guards = some [] → Room k A → Env0 P w K mg base A outer s H → BindsTo s fd as (ps.zip us) → Vals vs us → sp vs H Q E0 →
    codeAny (model P w) A (.call (.ref f) as) (fun r s' => ∃ u, r = .ok (.ret u) ∧ CE outer P w H s Q u s') s
theorem FnG.mono {P : Program} {w : World} {K : PySem.W.Frag} {mg : Str → Option Value} {base : Heap} {j k : Nat} {f : Addr} {fd : FuncData} {ps : List Str} {sp : Sp} (F : FnG P w K mg base j f fd ps sp) (h : j ≤ k) : FnG P w K mg base k f fd ps sp :=
  ⟨F.len, fun A outer s H as us vs Q hg hr => F.go A outer s H as us vs Q hg (hr.mono h)⟩
section
variable {P : Program} {w : World} {K : PySem.W.Frag} {mg : Str → Option Value} {base : Heap}
/-- a def by its body -/
theorem FnG.of {x qual : Str} {st : Stmt} {f : Addr} {fd : FuncData} {N ps : List Str} {k : Nat} {sp : Sp} (F : Fun K x qual st f fd) (S : FnScope N ps (defScope st)) (hlen : ∀ vs H Q E, sp vs H Q E → vs.length = ps.length)
    (hb : ∀ (cdv : Value) (A : Around) (outer : List PySem.Env) (s : Shared) (H : Hp) (vs : List V) (Q : VK), A.guards = some [] → Room k (A.deeper (envOfC qual (defScope st) s.heap.objs.size f cdv)) → sp vs H Q E0 →
      ∃ t, PSs (cxOf CX0 P w K mg base N qual (defScope st) f cdv A outer s H E0).nox (defBody st) t ∧ t { nx := fun _ H' => Q .non H', rt := Q } (start N vs) H) : FnG P w K mg base (k + 1) f fd ps sp := by
  obtain ⟨oc, od, kV, doc, pm, an, cdv, ct, osl, efd, look, hcode⟩ := F.ex
  subst efd
  constructor
  · exact hlen
  intro A outer s H as us vs Q hg hr e0 bind rv hsp
  have hK : K.In s.heap := e0.mod.kin.keeps fun b o e => (e0.bs b o e).1
  have known : ∀ y ∈ ps.zip us, (defScope st).names.lookup y.1 = some .local ∨ ((defScope st).names.lookup y.1 = some .cell ∧ ((cellsFrom (s.heap.objs.size + 1) (defScope st).names []).lookup y.1).isSome = true) := by
    intro y hy
    exact (S.par y.1 (List.of_mem_zip hy).1).imp (fun z => z) fun z => ⟨z, PySem.W.cellsFrom_some _ _ _ (.inl z)⟩
  refine codeAny_call_function hr.depth (hK _ _ look) rfl S.co S.gen rfl (PySem.W.codeRec_of hK hcode) (bind _ _ _ _ ?_)
  refine wpAny_newFunctionEnv_cells S.kind known fun env he s1 x1 => ?_
  subst he
  have noLim : s.heap.NoLimit := e0.mod.nolimit.keeps fun b o e => (e0.bs b o e).1
  refine ⟨noLim.keeps x1.toInCall.keep, codeAny_func ?_⟩
  obtain ⟨t, pt, tq⟩ := hb cdv A outer s H vs Q hg (hr.deeper _) hsp
  have J0 : Inv (cxOf CX0 P w K mg base N qual (defScope st) f cdv A outer s H E0) [] (start N vs) H s1 := inv_start (qual := qual) (cd := cdv) S hr.hd e0 (hlen _ _ _ _ hsp) rv x1
  have run := pt.run [] s1 (start N vs) H _ (J0.wish _) tq
  refine wpAny_mono run (fun fl s' z => ?_) fun _ _ z => False.elim z
  have z := SP.unwish z
  match fl, z with
  | .ret u, ⟨v, σ', H', J, r1, q1⟩ => exact ⟨u, rfl, v, H', J.os, J.bare, J.base, J.hok, r1, q1⟩
  | .next, ⟨σ', H', J, q1⟩ => exact ⟨.none, rfl, .non, H', J.os, J.bare, J.base, J.hok, rfl, q1⟩
  | .brk, ⟨_, _, _, z⟩ => exact z.elim
  | .cont, ⟨_, _, _, z⟩ => exact z.elim
end
section
variable {X : Cx} {k : Nat} {f : Addr} {fd : FuncData} {ps : List Str} {sp : Sp} {x : Str} {p pos : Pos} {e : Expr} {es : List Expr} {t : TA}
/-- f(..), f a def of the module -/
theorem pe_callG (F : FnG X.prog X.w X.K X.mg X.base k f fd ps sp) (hgd : X.A.guards = some []) (hr : Room k X.A) (hg : Gl X x) (hm : X.mg x = some (.ref f)) (hk : PySem.W.keepIn X.K (.ref f) = true) (hb : Binds X.K fd ps []) (ha : PA X (e :: es) t)
    (hdb : (x == ("__debug__" : Str)) = false := by decide) (he : starEach (e :: es) X.env = (false, eval e X.env) :: starEach es X.env := by rfl) (hpl : (backTo pos (starEach es X.env)).any (·.1) = false := by rfl) :
    PE X (.Call (.Name x p) (e :: es) [] pos) (fun σ H Q => t σ H fun vs H1 => sp vs H1 Q E0) := by
  constructor
  intro pins s σ H Q I h
  refine wpAny_Call_Name_kw (ld_glob I hg hm ?_ hdb)
  refine PySem.W.callWith_K (h₀ := X.base) I.ok.mod.kin hk (thn (ha.run pos pins s σ H _ I h) fun us s1 ⟨vs, H1, I1, r1, q1⟩ => ⟨I1.kIn, ?_⟩) he hpl
  have hl : us.length = ps.length := r1.length.symm.trans (F.len _ _ _ _ q1)
  have bind := hb s1 us I1.kIn (by rw [List.append_nil]; exact hl)
  rw [List.append_nil] at bind
  refine wpAny_call (codeAny_mono (F.go X.A X.stack s1 H1 ⟨us, []⟩ us vs Q hgd hr I1.env0 bind r1 q1) fun r s' ⟨u, er, ce⟩ => ?_)
  subst er
  exact I1.after ce
end
end DL

/-! DL5: defs and their calls by data. -/
namespace DL
open PySem L2

abbrev SpF := List D → (D → Prop) → Prop
abbrev SpB := Bag → List D → (D → Bag → Prop) → Prop
def spP (K : PySem.W.Frag) (S : SpF) : Sp := fun vs H Q _ => ∃ (O : List Addr) (ds : List D) (Φ : D → Prop), O.Nodup ∧ (∀ a ∈ O, H a ≠ none) ∧ DqAll K (hid O H) vs ds ∧ S ds Φ ∧
  ∀ d v H', Φ d → Same H H' → Dq K (hid O H') v d → Q v H'
def spB (K : PySem.W.Frag) (S : SpB) : Sp := fun vs H Q _ => ∃ (O : List Addr) (p : Addr) (b : Bag) (vs' : List V) (ds : List D) (Φ : D → Bag → Prop), vs = .ref p :: vs' ∧ (p :: O).Nodup ∧ (∀ a ∈ p :: O, H a ≠ none) ∧
  BagAt K (p :: O) H p b ∧ DqAll K (hid (p :: O) H) vs' ds ∧ S b ds Φ ∧
  ∀ d b' v H', Φ d b' → Same (hid [p] H) (hid [p] H') → BagAt K (p :: O) H' p b' → Dq K (hid (p :: O) H') v d → Q v H'
/-- a def of the text that keeps a promise -/
structure Cl (P : Program) (w : World) (K : PySem.W.Frag) (mg : Str → Option Value) (base : Heap) (x : Str) (k : Nat) (sp : Sp) : Prop where
  ex : ∃ f fd ps, FnG P w K mg base k f fd ps sp ∧ Binds K fd ps [] ∧ mg x = some (.ref f) ∧ PySem.W.keepIn K (.ref f) = true
theorem Cl.mono {P : Program} {w : World} {K : PySem.W.Frag} {mg : Str → Option Value} {base : Heap} {x : Str} {j k : Nat} {sp : Sp} (h : Cl P w K mg base x j sp) (hk : j ≤ k) : Cl P w K mg base x k sp :=
  let ⟨f, fd, ps, h1, h2, h3, h4⟩ := h.ex; ⟨f, fd, ps, h1.mono hk, h2, h3, h4⟩
/-- where a def stands -/
structure At (K : PySem.W.Frag) (mg : Str → Option Value) (x : Str) (st : Stmt) (ps : List Str) : Prop where
  ex : ∃ f fd, Fun K x x st f fd ∧ Binds K fd ps [] ∧ mg x = some (.ref f)

theorem hid_congr {O O' : List Addr} (h : ∀ a, a ∈ O ↔ a ∈ O') (H : Hp) : hid O H = hid O' H := by
  funext a
  by_cases ha : a ∈ O
  · rw [hid_in ha, hid_in ((h a).mp ha)]
  · rw [hid_out ha, hid_out fun z => ha ((h a).mpr z)]
section
variable {X : Cx} {pos p pb : Pos} {x bx : Str} {k : Nat} {e : Expr} {es : List Expr}
def wCall (S : SpF) (wa : WA) : WE := fun ρ b Φ => wa ρ b fun ds b1 => S ds fun d => Φ d b1
theorem d_call {S : SpF} {wa : WA} (hc : Cl X.prog X.w X.K X.mg X.base x k (spP X.K S)) (hgd : X.A.guards = some []) (hr : Room k X.A) (hg : Gl X x) (ha : DA X (e :: es) wa) (hdb : (x == ("__debug__" : Str)) = false := by decide)
    (he : starEach (e :: es) X.env = (false, eval e X.env) :: starEach es X.env := by rfl) (hpl : (backTo pos (starEach es X.env)).any (·.1) = false := by rfl) : DE X (.Call (.Name x p) (e :: es) [] pos) (wCall S wa) := by
  obtain ⟨f, fd, ps, F, hb, hm, hk⟩ := hc.ex
  obtain ⟨ta, pa, s⟩ := ha.ex
  refine ⟨_, pe_callG F hgd hr hg hm hk hb pa hdb he hpl, fun c ρ b σ H Φ Q I h q => ?_⟩
  refine s c ρ b σ H _ _ I h fun ds b1 vs H1 h1 I1 g1 r1 => ?_
  exact ⟨c.hs ρ, ds, _, I1.nd, I1.dom, r1, h1, fun d v H' h2 g2 r2 => q _ _ _ _ h2 (I1.grow g2) (g1.trans (Gr.of g2)) r2⟩
def wCallB (i : Nat) (S : SpB) (wa : WA) : WE := fun ρ b Φ => ρ[i]? = some .bag ∧ wa ρ b fun ds b1 => S b1 ds Φ
/-- the call changed the bag alone -/
theorem En.bagged {K : PySem.W.Frag} {c : Fr} {ρ : Env} {b b' : Bag} {σ : St} {H H' : Hp} {p : Addr} (I : En K c ρ b σ H) (hp : c.bag = some p) (g : Same (hid [p] H) (hid [p] H')) (hb : BagAt K (c.hs ρ) H' p b') :
    En K c ρ b' σ H' ∧ Gr (c.hs ρ) H H' := by
  have hm : p ∈ c.hs ρ := List.mem_append_left _ (List.mem_append_right _ (by rw [hp]; simp))
  have st : ∀ a o, a ≠ p → H a = some o → H' a = some o := fun a o hne h => (hid_some (g a o (by rw [hid_out (by simpa using hne)]; exact h))).2
  have gr : Gr (c.hs ρ) H H' := fun a o h => by
    obtain ⟨h1, h2⟩ := hid_some h
    rw [hid_out h1]
    exact st a o (fun z => h1 (z ▸ hm)) h2
  have hF : c.F p = none := I.out p (List.mem_append_left _ (by rw [hp]; simp))
  have nd := I.nd
  refine ⟨⟨fun a o h => st a o (fun z => by rw [z, hF] at h; cases h) (I.same a o h), I.len, fun i s h => ?_, I.nd, fun a ha z => ?_, I.out, fun q hq => ?_⟩, gr⟩
  · obtain ⟨o, h1, h2⟩ := I.sl i s h
    refine ⟨o, h1, ?_⟩
    cases s with
    | no => trivial
    | dat _ => obtain ⟨v, e, r⟩ := h2; exact ⟨v, e, dp_mono gr r⟩
    | own q ds =>
      obtain ⟨e, vs, r1, r2⟩ := h2
      refine ⟨e, vs, st q _ (fun z => ?_) r1, r2.mono gr⟩
      have m2 := mem_adr h
      have m1 : p ∈ c.bag.toList := by rw [hp]; simp
      unfold Fr.hs Fr.hb at nd
      simp only [List.append_assoc, List.nodup_append, List.mem_append] at nd
      subst z
      grind
    | bag => exact h2
    | fn f => exact h2
  · by_cases hne : a = p
    · subst hne
      obtain ⟨q, q1, _⟩ := hb
      rw [q1] at z; cases z
    · cases e : H a with
      | none => exact I.dom a ha e
      | some o => rw [st a o hne e] at z; cases z
  · rw [hp] at hq; cases hq; exact hb
theorem d_callB (i : Nat) {S : SpB} {wa : WA} (hc : Cl X.prog X.w X.K X.mg X.base x k (spB X.K S)) (hgd : X.A.guards = some []) (hr : Room k X.A) (hg : Gl X x) (hN : X.N[i]? = some bx) (hv : Vis X.env.scope bx) (ha : DA X es wa) (hdb : (x == ("__debug__" : Str)) = false := by decide)
    (hd : (bx == ("__debug__" : Str)) = false := by decide) (hcd : (bx == ("__classdict__" : Str)) = false := by decide)
    (he : starEach (.Name bx pb :: es) X.env = (false, eval (.Name bx pb) X.env) :: starEach es X.env := by rfl) (hpl : (backTo pos (starEach es X.env)).any (·.1) = false := by rfl) : DE X (.Call (.Name x p) (.Name bx pb :: es) [] pos) (wCallB i S wa) := by
  obtain ⟨f, fd, ps, F, hb, hm, hk⟩ := hc.ex
  obtain ⟨ta, pa, s⟩ := ha.ex
  refine ⟨_, pe_callG F hgd hr hg hm hk hb (pa_cons (pe_var hN hv hd hcd) pa he) hdb he hpl, fun c ρ b σ H Φ Q I ⟨hbag, h⟩ q => ?_⟩
  obtain ⟨o, e1, p, e2, e3⟩ := I.sl i _ hbag
  refine ⟨.ref p, by rw [e1, e3], ?_⟩
  refine s c ρ b σ H _ _ I h fun ds b1 vs H1 h1 I1 g1 r1 => ?_
  have mem : ∀ a, a ∈ c.hs ρ ↔ a ∈ p :: (c.O ++ adr ρ) := fun a => by
    unfold Fr.hs Fr.hb
    rw [e2]
    simp only [Option.toList, List.append_assoc, List.mem_append, List.mem_cons, List.not_mem_nil, or_false, List.singleton_append]
    constructor
    · rintro (h | h | h) <;> simp [h]
    · rintro (h | h | h) <;> simp [h]
  have hh := hid_congr mem
  have bc : ∀ {H b}, BagAt X.K (c.hs ρ) H p b ↔ BagAt X.K (p :: (c.O ++ adr ρ)) H p b := fun {H b} => by unfold BagAt; rw [hh]
  refine ⟨c.O ++ adr ρ, p, b1, vs, ds, _, rfl, ?_, fun a ha => I1.dom a ((mem a).mpr ha), bc.mp (I1.bag p e2), by rw [← hh]; exact r1, h1, fun d b' v H' h2 g2 hb2 r2 => ?_⟩
  · have nd := I1.nd
    unfold Fr.hs Fr.hb at nd
    rw [e2] at nd
    simp only [Option.toList, List.append_assoc, List.nodup_append, List.mem_append, List.singleton_append, List.nodup_cons, List.mem_cons] at nd ⊢
    grind
  · obtain ⟨I2, g3⟩ := I1.bagged e2 g2 (bc.mpr hb2)
    exact q _ _ _ _ h2 I2 (Gr.trans g1 g3) (by rw [hh]; exact r2)
end

/-! ### a def by its body -/
def ρ0 (N : List Str) (l : Env) : Env := l ++ List.replicate (N.length - l.length) .no
theorem adr_no : ∀ n : Nat, adr (List.replicate n .no) = []
  | 0 => rfl
  | n + 1 => adr_no n
theorem adr_dat : ∀ ds : List D, adr (ds.map .dat) = []
  | [] => rfl
  | _ :: r => adr_dat r
theorem adr_ρ0 {N : List Str} {l : Env} : adr (ρ0 N l) = adr l := by unfold ρ0; rw [adr_app, adr_no, List.append_nil]
/-- what a body is to come to, by what is wanted of the value -/
def fin (Φ : D → Bag → Prop) : Out → Prop
  | .rt d b => Φ d b
  | .nx _ b => Φ .none b
  | _ => False
theorem start_sl {K : PySem.W.Frag} {c : Fr} {hs : List Addr} {H : Hp} {N : List Str} : ∀ {vs : List V} {l : Env}, vs.length = l.length → l.length ≤ N.length → (∀ (i : Nat) (v : V) (s : Sl), vs[i]? = some v → l[i]? = some s → SlOk K c hs H (some v) s) →
    (L2.start N vs).length = (ρ0 N l).length ∧ ∀ (i : Nat) (s : Sl), (ρ0 N l)[i]? = some s → ∃ o, (L2.start N vs)[i]? = some o ∧ SlOk K c hs H o s := by
  intro vs l h1 h2 h
  unfold L2.start ρ0
  refine ⟨by simp [h1], fun i s hs' => ?_⟩
  by_cases hi : i < l.length
  · rw [List.getElem?_append_left hi] at hs'
    have hv : vs[i]? = some (vs[i]'(by omega)) := List.getElem?_eq_getElem (by omega)
    refine ⟨some (vs[i]'(by omega)), ?_, h i _ s hv hs'⟩
    rw [List.getElem?_append_left (by simp; omega), List.getElem?_map, hv]
    rfl
  · rw [List.getElem?_append_right (by omega)] at hs'
    obtain ⟨h3, h4⟩ := List.getElem?_eq_some_iff.mp hs'
    have h4 : s = .no := by simpa using h4.symm
    subst h4
    refine ⟨none, ?_, trivial⟩
    have h5 : i - l.length < N.length - l.length := by simpa using h3
    rw [List.getElem?_append_right (by simp; omega), List.getElem?_replicate]
    simp
    omega
section
variable {P : Program} {w : World} {K : PySem.W.Frag} {mg : Str → Option Value} {base : Heap}
theorem all_sl {c : Fr} {hs : List Addr} {H : Hp} : ∀ {vs : List V} {ds : List D}, DqAll K (hid hs H) vs ds → ∀ (i : Nat) (v : V) (s : Sl), vs[i]? = some v → (ds.map Sl.dat)[i]? = some s → SlOk K c hs H (some v) s := by
  intro vs ds r i v s h1 h2
  obtain ⟨d, h3, h4⟩ := r.getV h1
  rw [List.getElem?_map, h3] at h2
  cases h2
  exact ⟨v, rfl, h4⟩
theorem cl_pure {x : Str} {st : Stmt} {N ps : List Str} {k : Nat} {S : SpF} (A : At K mg x st ps) (sc : FnScope N ps (defScope st)) (hn : ps.length ≤ N.length) (hl : ∀ ds Φ, S ds Φ → ds.length = ps.length)
    (hbody : ∀ (f : Addr) (cdv : Value) (A : Around) (outer : List PySem.Env) (s : Shared) (H : Hp), A.guards = some [] → Room k (A.deeper (PyProof.Rows.envOfC x (defScope st) s.heap.objs.size f cdv)) →
      ∃ wb, DSs (cxOf CX0 P w K mg base N x (defScope st) f cdv A outer s H E0).nox (defBody st) wb ∧ ∀ b ds Φ, S ds Φ → wb (ρ0 N (ds.map .dat)) b (fin fun d _ => Φ d)) : Cl P w K mg base x (k + 1) (spP K S) := by
  obtain ⟨f, fd, F, hb, hm⟩ := A.ex
  refine ⟨f, fd, ps, FnG.of F sc (fun vs H Q E h => ?_) (fun cdv A outer s H vs Q hgd hr h => ?_), hb, hm, F.kp⟩
  · obtain ⟨O, ds, Φ, _, _, r, h, _⟩ := h
    rw [r.len]; exact hl _ _ h
  · obtain ⟨O, ds, Φ, h1, h2, r, h, q⟩ := h
    obtain ⟨wb, ⟨ts, p, snd⟩, hw⟩ := hbody f cdv A outer s H hgd hr
    have hb0 := hw (0, 0, 0, []) ds Φ h
    refine ⟨ts, p, ?_⟩
    have hs0 : (Fr.mk H O none).hs (ρ0 N (ds.map .dat)) = O := by unfold Fr.hs Fr.hb; rw [adr_ρ0, adr_dat]; simp
    have hlen : ds.length = ps.length := hl _ _ h
    obtain ⟨l1, l2⟩ := start_sl (K := K) (c := ⟨H, O, none⟩) (hs := O) (H := H) (N := N) (vs := vs) (l := ds.map .dat) (by rw [List.length_map]; exact r.len) (by rw [List.length_map]; omega) (all_sl r)
    refine snd ⟨H, O, none⟩ (ρ0 N (ds.map .dat)) (0, 0, 0, []) (L2.start N vs) H (fun _ => none) _ _ ⟨Same.refl _, l1, by rw [hs0]; exact l2, by rw [hs0]; exact h1, by rw [hs0]; exact h2, ?_, fun p hp => by cases hp⟩ (fun _ _ h => by cases h) hb0 ?_
    · rw [adr_ρ0, adr_dat]; intro a ha; simp at ha
    · refine ⟨fun ρ b σ H' hφ I _ => ?_, fun d b v H' hφ R => ?_, fun _ _ _ _ hφ => hφ.elim, fun _ _ _ _ hφ => hφ.elim⟩
      · exact q _ _ _ hφ I.same .non
      · refine q _ _ _ hφ R.same ?_
        have e : (Fr.mk H O none).hb = O := by unfold Fr.hb; simp
        rw [← e]; exact R.val
theorem cl_bag {x : Str} {st : Stmt} {N ps : List Str} {k : Nat} {S : SpB} (A : At K mg x st ps) (sc : FnScope N ps (defScope st)) (hn : ps.length ≤ N.length) (hl : ∀ b ds Φ, S b ds Φ → ds.length + 1 = ps.length)
    (hbody : ∀ (f : Addr) (cdv : Value) (A : Around) (outer : List PySem.Env) (s : Shared) (H : Hp), A.guards = some [] → Room k (A.deeper (PyProof.Rows.envOfC x (defScope st) s.heap.objs.size f cdv)) →
      ∃ wb, DSs (cxOf CX0 P w K mg base N x (defScope st) f cdv A outer s H E0).nox (defBody st) wb ∧ ∀ b ds Φ, S b ds Φ → wb (ρ0 N (.bag :: ds.map .dat)) b (fin Φ)) : Cl P w K mg base x (k + 1) (spB K S) := by
  obtain ⟨f, fd, F, hb, hm⟩ := A.ex
  refine ⟨f, fd, ps, FnG.of F sc (fun vs H Q E h => ?_) (fun cdv A outer s H vs Q hgd hr h => ?_), hb, hm, F.kp⟩
  · obtain ⟨O, p, b, vs', ds, Φ, e, _, _, _, r, h, _⟩ := h
    subst e
    rw [List.length_cons, r.len]; exact hl _ _ _ h
  · obtain ⟨O, p, b, vs', ds, Φ, e, h1, h2, hbag, r, h, q⟩ := h
    subst e
    obtain ⟨wb, ⟨ts, pp, snd⟩, hw⟩ := hbody f cdv A outer s H hgd hr
    have hb0 := hw b ds Φ h
    refine ⟨ts, pp, ?_⟩
    have ha0 : adr (ρ0 N (.bag :: ds.map .dat)) = [] := by rw [adr_ρ0]; exact adr_dat ds
    have hs0 : (Fr.mk (hid [p] H) O (some p)).hs (ρ0 N (.bag :: ds.map .dat)) = O ++ [p] := by unfold Fr.hs Fr.hb; rw [ha0]; simp
    have mem : ∀ a, a ∈ O ++ [p] ↔ a ∈ p :: O := fun a => by simp [or_comm]
    have hh := hid_congr mem
    have hlen : ds.length + 1 = ps.length := hl _ _ _ h
    have hvl := r.len
    obtain ⟨l1, l2⟩ := start_sl (K := K) (c := ⟨hid [p] H, O, some p⟩) (hs := O ++ [p]) (H := H) (N := N) (vs := .ref p :: vs') (l := .bag :: ds.map .dat) (by simp [hvl]) (by simp; omega) (fun i v s g1 g2 => by
      cases i with
      | zero => simp at g1 g2; subst g1 g2; exact ⟨p, rfl, rfl⟩
      | succ i => exact all_sl (by rw [hh]; exact r) i v s (by simpa using g1) (by simpa using g2))
    refine snd ⟨hid [p] H, O, some p⟩ (ρ0 N (.bag :: ds.map .dat)) b (start N (.ref p :: vs')) H (fun _ => none) _ _ ⟨hid_le, l1, by rw [hs0]; exact l2, ?_, by rw [hs0]; exact fun a ha => h2 a ((mem a).mp ha), ?_, fun q hq => ?_⟩ (fun _ _ h => by cases h) hb0 ?_
    · rw [hs0]
      simp only [List.nodup_append, List.nodup_cons, List.mem_singleton] at h1 ⊢
      grind
    · rw [ha0]; intro a ha; simp at ha; subst ha; exact hid_in (by simp)
    · cases hq; rw [hs0]; unfold BagAt; rw [hh]; exact hbag
    · have fr : ∀ {H'}, Same (hid [p] H) H' → Same (hid [p] H) (hid [p] H') := fun {H'} g a o h => by rw [hid_out (hid_some h).1]; exact g a o h
      have e : (Fr.mk (hid [p] H) O (some p)).hb = O ++ [p] := rfl
      refine ⟨fun ρ b σ H' hφ I _ => ?_, fun d b v H' hφ R => ?_, fun _ _ _ _ hφ => hφ.elim, fun _ _ _ _ hφ => hφ.elim⟩
      · have R := I.rt (v := .non) (d := .none) .non
        have hb2 := R.bag p rfl
        unfold BagAt at hb2; rw [e, hh] at hb2
        exact q _ _ _ _ hφ (fr I.same) hb2 .non
      · have hb2 := R.bag p rfl
        unfold BagAt at hb2; rw [e, hh] at hb2
        have hv := R.val
        rw [e, hh] at hv
        exact q _ _ _ _ hφ (fr R.same) hb2 hv
end
end DL

/-! DL6: canonical readings; what is walked; for, while, comprehensions by data. -/
namespace DL
open PySem L2

/-! ### canonical readings -/
def teW (K : PySem.W.Frag) (w : WE) : TE := fun σ H Q => ∃ c ρ b Φ, En K c ρ b σ H ∧ w ρ b Φ ∧ ∀ d b' v H', Φ d b' → En K c ρ b' σ H' → Gr (c.hs ρ) H H' → Dq K (hid (c.hs ρ) H') v d → Q v H'
def ttW (K : PySem.W.Frag) (w : WT) : TT := fun σ H Q => ∃ c ρ b Φ, En K c ρ b σ H ∧ w ρ b Φ ∧ ∀ k b' H', Φ k b' → En K c ρ b' σ H' → Gr (c.hs ρ) H H' → Q k H'
def tgW (K : PySem.W.Frag) (vs : List Nat) (w : WG) : TG := fun v σ H Q => ∃ c ρ b d Φ, En K c ρ b σ H ∧ Dq K (hid (c.hs ρ) H) v d ∧ w d ρ Φ ∧
  ∀ ρ' σ', Φ ρ' → En K c ρ' b σ' H → (∀ a ∈ c.hs ρ', a ∈ c.hs ρ) → (∀ is, (∀ i ∈ vs, i ∈ is) → wipe σ' is = wipe σ is) → Q σ' H
theorem snd_can {K : PySem.W.Frag} {w : WE} : Snd K (teW K w) w := fun c ρ b σ H Φ Q I h q => ⟨c, ρ, b, Φ, I, h, q⟩
theorem sndT_can {K : PySem.W.Frag} {w : WT} : SndT K (ttW K w) w := fun c ρ b σ H Φ Q I h q => ⟨c, ρ, b, Φ, I, h, q⟩
section
variable {X : Cx} {e t : Expr}
theorem DE.can {w : WE} (h : DE X e w) : PE X e (teW X.K w) := by
  obtain ⟨te, p, s⟩ := h.ex
  exact ⟨fun pins s0 σ H Q I ⟨c, ρ, b, Φ, I1, h1, q⟩ => p.run pins s0 σ H Q I (s c ρ b σ H Φ Q I1 h1 q)⟩
theorem DT.can {w : WT} (h : DT X e w) : PT X e (ttW X.K w) := by
  obtain ⟨te, p, s⟩ := h.ex
  exact ⟨fun pins s0 σ H Q I ⟨c, ρ, b, Φ, I1, h1, q⟩ => p.run pins s0 σ H Q I (s c ρ b σ H Φ Q I1 h1 q)⟩
theorem DG.can {vs : List Nat} {w : WG} (h : DG X t vs w) : PG X t (tgW X.K vs w) := by
  obtain ⟨tg, p, s, o⟩ := h.ex
  refine ⟨fun pins s0 σ H v u Q I r ⟨c, ρ, b, d, Φ, I1, r1, h1, q⟩ => p.run pins s0 σ H v u Q I r ?_⟩
  refine o _ _ _ (fun σ' H' => H' = H ∧ ∃ ρ', Φ ρ' ∧ En X.K c ρ' b σ' H ∧ ∀ a ∈ c.hs ρ', a ∈ c.hs ρ) _ (s c ρ b σ H v d Φ _ I1 r1 h1 fun ρ' σ' h I' sub => ⟨rfl, ρ', h, I', sub⟩) fun σ' H' ⟨e, ρ', h, I', sub⟩ w => ?_
  subst e
  exact q _ _ h I' sub w
end

/-! ### what is walked -/
structure WalkOk (K : PySem.W.Frag) (J : It) (B : Hp) (ds : List D) : Prop where
  go : ∀ i H, Same B H → i < ds.length → J.go i H
  yld : ∀ i H x H', Same B H → i < ds.length → J.yld i H x H' → ∃ d, ds[i]? = some d ∧ Same H H' ∧ ∀ hs, (∀ a ∈ hs, H a ≠ none) → Same B (hid hs H) → Dq K (hid hs H') x d
  stop : ∀ i H, Same B H → ds.length ≤ i → J.stop i H
def SndI (K : PySem.W.Frag) (ti : TI) (wi : WA) : Prop := ∀ (c : Fr) (ρ : Env) (b : Bag) (σ : St) (H : Hp) (Φ : List D → Bag → Prop) (R : It → Hp → Prop), En K c ρ b σ H → wi ρ b Φ →
  (∀ ds b' J H', Φ ds b' → En K c ρ b' σ H' → Gr (c.hs ρ) H H' → WalkOk K J (hid (c.hs ρ) H') ds → R J H') → ti σ H R
structure DI (X : Cx) (tg iter : Expr) (wi : WA) : Prop where
  ex : ∃ ti, PI X tg iter ti ∧ SndI X.K ti wi
def tiW (K : PySem.W.Frag) (wi : WA) : TI := fun σ H R => ∃ c ρ b Φ, En K c ρ b σ H ∧ wi ρ b Φ ∧ ∀ ds b' J H', Φ ds b' → En K c ρ b' σ H' → Gr (c.hs ρ) H H' → WalkOk K J (hid (c.hs ρ) H') ds → R J H'
theorem DI.can {X : Cx} {tg iter : Expr} {wi : WA} (h : DI X tg iter wi) : PI X tg iter (tiW X.K wi) := by
  obtain ⟨ti, p, s⟩ := h.ex
  exact ⟨fun pins s0 σ H R I ⟨c, ρ, b, Φ, I1, h1, q⟩ => p.run pins s0 σ H R I (s c ρ b σ H Φ R I1 h1 q)⟩
theorem sameHid {B : Hp} {hs : List Addr} {H : Hp} (h : Same B (hid hs H)) : Same B H := fun a o e => hid_le a o (h a o e)

theorem walk_itl {K : PySem.W.Frag} {B : Hp} {a : Addr} {xs : List V} {ds : List D} (s1 : SqL K B a xs) (r : DqAll K B xs ds) : WalkOk K (Itl K a) B ds where
  go := fun i H s hi => ⟨xs, xs[i]'(by rw [r.len]; exact hi), s.seq s1, by simp⟩
  yld := fun i H x H' s _ ⟨e, hx⟩ => by
    subst e
    obtain ⟨d, h1, h2⟩ := r.getV (hx xs (s.seq s1))
    exact ⟨d, h1, Same.refl _, fun hs _ sb => dp_mono sb h2⟩
  stop := fun i H s hi => ⟨xs, s.seq s1, by rw [r.len]; exact hi⟩
theorem walk_itt {K : PySem.W.Frag} {B : Hp} {a : Addr} {xs : List V} {ds : List D} (s1 : SqT K B a xs) (r : DqAll K B xs ds) : WalkOk K (Itt K a) B ds where
  go := fun i H s hi => ⟨xs, xs[i]'(by rw [r.len]; exact hi), seqT s s1, by simp⟩
  yld := fun i H x H' s _ ⟨e, hx⟩ => by
    subst e
    obtain ⟨d, h1, h2⟩ := r.getV (hx xs (seqT s s1))
    exact ⟨d, h1, Same.refl _, fun hs _ sb => dp_mono sb h2⟩
  stop := fun i H s hi => ⟨xs, seqT s s1, by rw [r.len]; exact hi⟩
theorem walk_itr {K : PySem.W.Frag} {B : Hp} {lo : Int} {n : Nat} : WalkOk K (Itr lo n) B ((List.range n).map fun i => .int (lo + (i : Nat))) where
  go := fun i H s hi => by show i < n; simpa using hi
  yld := fun i H x H' s hi ⟨e, hx⟩ => by
    subst e hx
    have hi : i < n := by simpa using hi
    exact ⟨.int (lo + (i : Nat)), by simp [hi], Same.refl _, fun _ _ _ => .int _⟩
  stop := fun i H s hi => by show n ≤ i; simpa using hi
def strD (x : Str) : List D := x.cps.toList.map fun c => .str ⟨#[c]⟩
theorem walk_its {K : PySem.W.Frag} {B : Hp} {x : Str} : WalkOk K (Its x) B (strD x) where
  go := fun i H s hi => by show i < x.cps.size; simpa [strD] using hi
  yld := fun i H v H' s hi ⟨e, c, hc, hv⟩ => by
    subst e hv
    exact ⟨.str ⟨#[c]⟩, by unfold strD; rw [List.getElem?_map, Array.getElem?_toList, hc]; rfl, Same.refl _, fun _ _ _ => .str _⟩
  stop := fun i H s hi => by show x.cps.size ≤ i; simpa [strD] using hi
theorem yld_pair {K : PySem.W.Frag} {B H : Hp} {T : Addr} {x y : V} {d e : D} (hT : H T = none) (r1 : Dq K B x d) (r2 : Dq K B y e) :
    Same H (upd H T (.tup [x, y])) ∧ ∀ hs, (∀ a ∈ hs, H a ≠ none) → Same B (hid hs H) → Dq K (hid hs (upd H T (.tup [x, y]))) (.ref T) (.tuple [d, e]) := by
  refine ⟨same_new hT _, fun hs hd sb => ?_⟩
  have hn : T ∉ hs := fun z => hd T z hT
  have s2 : Same B (hid hs (upd H T (.tup [x, y]))) := Same.trans sb (hid_same (same_new hT _))
  exact .tup (.inl (.inl (new_at hn))) (.cons (dp_mono s2 r1) (.cons (dp_mono s2 r2) .nil))
def enumD (ds : List D) : List D := (List.range ds.length).zipWith (fun i d => .tuple [.int (i : Nat), d]) ds
theorem enumD_get {ds : List D} {i : Nat} {d : D} (h : ds[i]? = some d) : (enumD ds)[i]? = some (.tuple [.int (i : Nat), d]) := by
  obtain ⟨h1, h2⟩ := List.getElem?_eq_some_iff.mp h
  unfold enumD
  rw [List.getElem?_zipWith, List.getElem?_range h1, h]
theorem enumD_len {ds : List D} : (enumD ds).length = ds.length := by simp [enumD]
theorem walk_ite {K : PySem.W.Frag} {B : Hp} {a : Addr} {xs : List V} {ds : List D} (s1 : SqL K B a xs) (r : DqAll K B xs ds) : WalkOk K (Ite K a) B (enumD ds) where
  go := fun i H s hi => ⟨xs, xs[i]'(by rw [r.len, ← enumD_len]; exact hi), s.seq s1, by simp⟩
  yld := fun i H x H' s _ ⟨T, y, e1, hT, e2, hx⟩ => by
    subst e1 e2
    obtain ⟨d, h1, h2⟩ := r.getV (hx xs (s.seq s1))
    exact ⟨_, enumD_get h1, yld_pair hT (.int _) h2⟩
  stop := fun i H s hi => ⟨xs, s.seq s1, by rw [r.len, ← enumD_len]; exact hi⟩
def zipD (ds es : List D) : List D := ds.zipWith (fun d e => .tuple [d, e]) es
theorem zipD_get {ds es : List D} {i : Nat} {d e : D} (h1 : ds[i]? = some d) (h2 : es[i]? = some e) : (zipD ds es)[i]? = some (.tuple [d, e]) := by
  unfold zipD
  rw [List.getElem?_zipWith, h1, h2]
theorem walk_itz {K : PySem.W.Frag} {B : Hp} {a b : Addr} {xs ys : List V} {ds es : List D} (s1 : SqL K B a xs) (r : DqAll K B xs ds) (s2 : SqL K B b ys) (r2 : DqAll K B ys es) : WalkOk K (Itz K a b) B (zipD ds es) where
  go := fun i H s hi => by
    have hi : i < ds.length ∧ i < es.length := by simpa [zipD, Nat.lt_min] using hi
    exact ⟨xs, ys, xs[i]'(by rw [r.len]; exact hi.1), ys[i]'(by rw [r2.len]; exact hi.2), s.seq s1, s.seq s2, by simp, by simp⟩
  yld := fun i H x H' s _ ⟨T, y, z, e1, hT, e2, hx, hy⟩ => by
    subst e1 e2
    obtain ⟨d, h1, h2⟩ := r.getV (hx xs (s.seq s1))
    obtain ⟨e, h3, h4⟩ := r2.getV (hy ys (s.seq s2))
    exact ⟨_, zipD_get h1 h3, yld_pair hT h2 h4⟩
  stop := fun i H s hi => by
    have hi : ds.length ≤ i ∨ es.length ≤ i := by
      have : min ds.length es.length ≤ i := by simpa [zipD] using hi
      omega
    exact ⟨xs, ys, s.seq s1, s.seq s2, by rw [r.len, r2.len]; exact hi⟩
theorem walk_itzT {K : PySem.W.Frag} {B : Hp} {a b : Addr} {xs ys : List V} {ds es : List D} (s1 : SqT K B a xs) (r : DqAll K B xs ds) (s2 : SqT K B b ys) (r2 : DqAll K B ys es) : WalkOk K (RZ.ItzT K a b) B (zipD ds es) where
  go := fun i H s hi => by
    have hi : i < ds.length ∧ i < es.length := by simpa [zipD, Nat.lt_min] using hi
    exact ⟨xs, ys, xs[i]'(by rw [r.len]; exact hi.1), ys[i]'(by rw [r2.len]; exact hi.2), seqT s s1, seqT s s2, by simp, by simp⟩
  yld := fun i H x H' s _ ⟨T, y, z, e1, hT, e2, hx, hy⟩ => by
    subst e1 e2
    obtain ⟨d, h1, h2⟩ := r.getV (hx xs (seqT s s1))
    obtain ⟨e, h3, h4⟩ := r2.getV (hy ys (seqT s s2))
    exact ⟨_, zipD_get h1 h3, yld_pair hT h2 h4⟩
  stop := fun i H s hi => by
    have hi : ds.length ≤ i ∨ es.length ≤ i := by
      have : min ds.length es.length ≤ i := by simpa [zipD] using hi
      omega
    exact ⟨xs, ys, seqT s s1, seqT s s2, by rw [r.len, r2.len]; exact hi⟩

/-! ### iterables -/
/-- the items of a list | a tuple | a text -/
def itD : D → (List D → Prop) → Prop
  | .list ds, Φ => Φ ds
  | .tuple ds, Φ => Φ ds
  | _, _ => False
def iAny (K : PySem.W.Frag) (tl : TE) : TI := fun σ H R => tl σ H fun x H1 => ∃ a xs, x = .ref a ∧ ((SqL K H1 a xs ∧ R (Itl K a) H1) ∨ (SqT K H1 a xs ∧ R (Itt K a) H1))
theorem pi_any {X : Cx} {tg l : Expr} {tl : TE} (hl : PE X l tl) : PI X tg l (iAny X.K tl) := by
  refine ⟨fun pins s σ H R I h => thn (hl.run pins s σ H _ I h) fun v s1 ⟨x, H1, I1, r1, a, xs, e, q⟩ => ?_⟩
  subst e
  cases r1
  have lt : FpOk X pins H1 s1.heap.objs.size := I1.fpOk (Nat.le_refl _) (I1.hok.fresh (Nat.le_refl _))
  have one : ∀ b ∈ [s1.heap.objs.size], FpOk X pins H1 b := fun b hb => by
    obtain rfl : b = s1.heap.objs.size := by simpa using hb
    exact lt
  rcases q with ⟨hq, q⟩ | ⟨hq, q⟩
  · obtain ⟨_, _, p, _⟩ := I1.list hq
    exact wpAny_pyIter_list p.isList ⟨_, _, _, _, H1, rfl, I1.kept (t' := s1.toks) fun b o e => Heap.get?_push_of_some _ e, turn_list a _, ⟨_, Heap.get?_push_size _ rfl, rfl, rfl⟩, one, q⟩
  · obtain ⟨_, _, p, _⟩ := I1.tuple hq
    exact wpAny_pyIter_tuple (show s1.heap.IsTuple a _ from p) ⟨_, _, _, _, H1, rfl, I1.kept (t' := s1.toks) fun b o e => Heap.get?_push_of_some _ e, turn_tuple a _, ⟨_, Heap.get?_push_size _ rfl, rfl, rfl⟩, one, q⟩
def wIt (w : WE) : WA := fun ρ b Φ => w ρ b fun d b1 => itD d fun ds => Φ ds b1
section
variable {X : Cx} {tg e e2 : Expr} {pos : Pos}
theorem i_it {w : WE} (h : DE X e w) : DI X tg e (wIt w) := by
  obtain ⟨te, p, s⟩ := h.ex
  refine ⟨_, pi_any p, fun c ρ b σ H Φ R I h q => ?_⟩
  refine s c ρ b σ H _ _ I h fun d b1 v H1 h1 I1 g1 r1 => ?_
  match d, h1, r1 with
  | .list ds, h1, r1 =>
    obtain ⟨a, xs, e, s1, s2⟩ := r1.lst_inv
    exact ⟨a, xs, e, .inl ⟨SqL.of (hid_le _ _ s1), q _ _ _ _ h1 I1 g1 (walk_itl (SqL.of s1) s2)⟩⟩
  | .tuple ds, h1, r1 =>
    obtain ⟨a, xs, e, s1, s2⟩ := r1.tup_inv
    exact ⟨a, xs, e, .inr ⟨seqT hid_le s1, q _ _ _ _ h1 I1 g1 (walk_itt s1 s2)⟩⟩
def wItS (w : WE) : WA := fun ρ b Φ => w ρ b fun d b1 => ∃ x, d = .str x ∧ Φ (strD x) b1
theorem i_str {w : WE} (h : DE X e w) : DI X tg e (wItS w) := by
  obtain ⟨te, p, s⟩ := h.ex
  refine ⟨_, pi_str p, fun c ρ b σ H Φ R I h q => ?_⟩
  refine s c ρ b σ H _ _ I h fun d b1 v H1 ⟨x, e, h1⟩ I1 g1 r1 => ?_
  subst e
  exact ⟨x, r1.str_inv, q _ _ _ _ h1 I1 g1 walk_its⟩
/-- a list of the body's own, as it stands -/
def wItO (i : Nat) : WA := fun ρ b Φ => ∃ p ds, ρ[i]? = some (.own p (.list ds)) ∧ Φ ds b
def rgD (i j : Int) : List D := (List.range (j - i).toNat).map fun k => .int (i + (k : Nat))
def wRg1 (w : WA) : WA := fun ρ b Φ => w ρ b fun ds b1 => ∃ j : Int, ds = [.int j] ∧ -(2 ^ 62) ≤ j ∧ j < 2 ^ 62 ∧ Φ (rgD 0 j) b1
def wRg2 (w : WA) : WA := fun ρ b Φ => w ρ b fun ds b1 => ∃ i j : Int, ds = [.int i, .int j] ∧ (-(2 ^ 62) ≤ i ∧ i < 2 ^ 62 ∧ -(2 ^ 62) ≤ j ∧ j < 2 ^ 62) ∧ Φ (rgD i j) b1
theorem i_rg1 {a : Expr} {wa : WA} {p : Pos} (hg : Gl X "range") (hm : X.mg "range" = none) (ha : DA X [a] wa) (hs : starEach [a] X.env = [(false, eval a X.env)] := by rfl) : DI X tg (.Call (.Name "range" p) [a] [] pos) (wRg1 wa) := by
  obtain ⟨ta, p, s⟩ := ha.ex
  refine ⟨_, pi_range1 hg hm p hs, fun c ρ b σ H Φ R I h q => ?_⟩
  refine s c ρ b σ H _ _ I h fun d b1 v H1 ⟨j, e, l1, l2, h1⟩ I1 g1 r1 => ?_
  subst e
  refine ⟨j, (show DqAll X.K _ v ([j].map .int) from r1).ints, l1, l2, q _ _ _ _ h1 I1 g1 ?_⟩
  unfold rgD; rw [Int.sub_zero]; exact walk_itr
theorem i_rg2 {a a' : Expr} {wa : WA} {p : Pos} (hg : Gl X "range") (hm : X.mg "range" = none) (ha : DA X [a, a'] wa) (hs : starEach [a, a'] X.env = [(false, eval a X.env), (false, eval a' X.env)] := by rfl) (hs2 : starEach [a'] X.env = [(false, eval a' X.env)] := by rfl) : DI X tg (.Call (.Name "range" p) [a, a'] [] pos) (wRg2 wa) := by
  obtain ⟨ta, p, s⟩ := ha.ex
  refine ⟨_, pi_range2 hg hm p hs hs2, fun c ρ b σ H Φ R I h q => ?_⟩
  refine s c ρ b σ H _ _ I h fun d b1 v H1 ⟨i, j, e, l, h1⟩ I1 g1 r1 => ?_
  subst e
  exact ⟨i, j, (show DqAll X.K _ v ([i, j].map .int) from r1).ints, l, q _ _ _ _ h1 I1 g1 walk_itr⟩
/-- zip of two lists | two tuples -/
def zipDD : List D → (List D → Prop) → Prop
  | [.list ds, .list es], Φ => Φ (zipD ds es)
  | [.tuple ds, .tuple es], Φ => Φ (zipD ds es)
  | _, _ => False
def wZip (w : WA) : WA := fun ρ b Φ => w ρ b fun ds b1 => zipDD ds fun es => Φ es b1
theorem i_zip {elts : List Expr} {kk : Nat} {p tpos : Pos} {wa : WA} (hg : Gl X "zip") (hm : X.mg "zip" = none) (ha : DA X [e, e2] wa)
    (hs : starEach [e, e2] X.env = (false, eval e X.env) :: starEach [e2] X.env := by rfl) (hpl : (backTo pos (starEach [e2] X.env)).any (·.1) = false := by rfl) : DI X (.Tuple elts kk tpos) (.Call (.Name "zip" p) [e, e2] [] pos) (wZip wa) := by
  obtain ⟨ta, p, s⟩ := ha.ex
  refine ⟨_, RZ.pi_zipA hg hm p hs hpl, fun c ρ b σ H Φ R I h q => ?_⟩
  refine s c ρ b σ H _ _ I h fun d b1 v H1 h1 I1 g1 r1 => ?_
  match d, h1, v, r1 with
  | [.list ds, .list es], h1, _, .cons ra (.cons rb .nil) =>
    obtain ⟨a, xs, e, s1, s2⟩ := ra.lst_inv
    obtain ⟨a', ys, e', s3, s4⟩ := rb.lst_inv
    subst e e'
    exact ⟨a, a', xs, ys, rfl, .inl ⟨SqL.of (hid_le _ _ s1), SqL.of (hid_le _ _ s3), q _ _ _ _ h1 I1 g1 (walk_itz (SqL.of s1) s2 (SqL.of s3) s4)⟩⟩
  | [.tuple ds, .tuple es], h1, _, .cons ra (.cons rb .nil) =>
    obtain ⟨a, xs, e, s1, s2⟩ := ra.tup_inv
    obtain ⟨a', ys, e', s3, s4⟩ := rb.tup_inv
    subst e e'
    exact ⟨a, a', xs, ys, rfl, .inr ⟨seqT hid_le s1, seqT hid_le s3, q _ _ _ _ h1 I1 g1 (walk_itzT s1 s2 s3 s4)⟩⟩
end
end DL

/-! DL7: for, while, comprehensions by data. -/
namespace DL
open PySem L2

/-! ### for -/
def lpK (goOn : Env → Bag → Prop) (Φ : Out → Prop) : Out → Prop
  | .nx ρ b => goOn ρ b
  | .ct ρ b => goOn ρ b
  | .bk ρ b => Φ (.nx ρ b)
  | .rt d b => Φ (.rt d b)
def runFor (g : WG) (w : WS) : List D → Env → Bag → (Out → Prop) → Prop
  | [], ρ, b, Φ => Φ (.nx ρ b)
  | d :: r, ρ, b, Φ => g d ρ fun ρ' => w ρ' b (lpK (fun ρ2 b2 => runFor g w r ρ2 b2 Φ) Φ)
def sFor (wi : WA) (g : WG) (w : WS) : WS := fun ρ b Φ => wi ρ b fun ds b1 => runFor g w ds ρ b1 Φ
section
variable {X : Cx} {pos : Pos}
theorem s_for {tg iter : Expr} {body : List Stmt} {vs : List Nat} {wi : WA} {g : WG} {w : WS} (hp : PassesOwn (model X.prog X.w) X.A X.env X.xe) (hc : X.calm = true) (hi : DI X tg iter wi) (hg : DG X tg vs g) (hb : DSs X body w)
    (hs : ∀ x, foldedSetIterable iter X.env x = pure x := by intro _; rfl) : DS X (.For tg iter body [] pos) (sFor wi g w) := by
  obtain ⟨ti, p1, s1⟩ := hi.ex
  obtain ⟨tg', p2, s2, _⟩ := hg.ex
  obtain ⟨ts, p3, s3⟩ := hb.ex
  refine ⟨_, ps_for hp hc p1 p2 p3 hs, fun c ρ b σ H B Φ E I hB h q => ?_⟩
  refine s1 c ρ b σ H _ _ I h fun ds b1 J H1 h1 I1 g1 wk => ?_
  have hB1 : Same B (hid (c.hs ρ) H1) := hB.trans g1
  refine ⟨fun i m σ' H' => m + i = ds.length ∧ ∃ ρ' b', En X.K c ρ' b' σ' H' ∧ Same (hid (c.hs ρ) H1) (hid (c.hs ρ') H') ∧ runFor g w (ds.drop i) ρ' b' Φ, ⟨ds.length, by simp, ρ, b1, I1, Same.refl _, by simpa using h1⟩, ?_⟩
  rintro i m σ2 H2 ⟨hm, ρ2, b2, I2, sb, h2⟩
  have sw : Same (hid (c.hs ρ) H1) H2 := sameHid sb
  by_cases hi : i < ds.length
  · have hdr : ds.drop i = ds[i] :: ds.drop (i + 1) := List.drop_eq_getElem_cons hi
    rw [hdr] at h2
    refine .inr ⟨wk.go i H2 sw hi, fun σ3 H3 => ∃ m', m' + (i + 1) = ds.length ∧ ∃ ρ' b', En X.K c ρ' b' σ3 H3 ∧ Same (hid (c.hs ρ) H1) (hid (c.hs ρ') H3) ∧ runFor g w (ds.drop (i + 1)) ρ' b' Φ, ?_, ?_⟩
    · rintro σ3 H3 ⟨m', hm', r⟩
      exact ⟨m', by omega, hm', r⟩
    · intro x H3 y
      obtain ⟨d, hd, g3, rd⟩ := wk.yld i H2 x H3 sw hi y
      have hd' : ds[i] = d := by rw [List.getElem?_eq_getElem hi] at hd; exact Option.some.inj hd
      rw [hd'] at h2
      have I3 := I2.grow g3
      have sb3 : Same (hid (c.hs ρ) H1) (hid (c.hs ρ2) H3) := sb.trans (hid_same g3)
      refine s2 c ρ2 b2 σ2 H3 x d _ _ I3 (rd _ I2.dom sb) h2 fun ρ4 σ4 h4 I4 sub => ?_
      refine s3 c ρ4 b2 σ4 H3 (hid (c.hs ρ) H1) _ _ I4 (sb3.trans (hid_sub sub)) h4 ⟨fun ρ5 b5 σ5 H5 h5 I5 s5 => ?_, fun d b v H h r => q.rt _ _ _ _ h r, fun ρ5 b5 σ5 H5 h5 I5 s5 => q.nx _ _ _ _ h5 I5 (hB1.trans s5), fun ρ5 b5 σ5 H5 h5 I5 s5 => ?_⟩
      · exact ⟨m - 1, by omega, ρ5, b5, I5, s5, h5⟩
      · exact ⟨m - 1, by omega, ρ5, b5, I5, s5, h5⟩
  · refine .inl ⟨wk.stop i H2 sw (by omega), ?_⟩
    rw [List.drop_eq_nil_of_le (by omega)] at h2
    exact q.nx _ _ _ _ h2 I2 (hB1.trans sb)

/-! ### while -/
def sWhile (t : WT) (w : WS) : WS := fun ρ b Φ => ∃ W : Nat → Env → Bag → Prop, (∃ m, W m ρ b) ∧ ∀ m ρ b, W m ρ b →
  t ρ b fun k b1 => if k = true then w ρ b1 (lpK (fun ρ2 b2 => ∃ m', m' < m ∧ W m' ρ2 b2) Φ) else Φ (.nx ρ b1)
theorem s_while {cnd : Expr} {body : List Stmt} {t : WT} {w : WS} (hp : PassesOwn (model X.prog X.w) X.A X.env X.xe) (hc : DT X cnd t) (hb : DSs X body w) : DS X (.While cnd body [] pos) (sWhile t w) := by
  obtain ⟨tc, p1, s1⟩ := hc.ex
  obtain ⟨ts, p2, s2⟩ := hb.ex
  refine ⟨_, ps_while hp p1 p2, fun c ρ b σ H B Φ E I hB ⟨W, ⟨m0, w0⟩, turn⟩ q => ?_⟩
  refine ⟨fun m σ' H' => ∃ ρ' b', En X.K c ρ' b' σ' H' ∧ Same B (hid (c.hs ρ') H') ∧ W m ρ' b', ⟨m0, ρ, b, I, hB, w0⟩, ?_⟩
  rintro m σ2 H2 ⟨ρ2, b2, I2, sb, w2⟩
  refine s1 c ρ2 b2 σ2 H2 _ _ I2 (turn m ρ2 b2 w2) fun k b3 H3 h3 I3 g3 => ?_
  cases k with
  | false => exact q.nx _ _ _ _ h3 I3 (sb.trans g3)
  | true =>
    have h3' : w ρ2 b3 (lpK (fun ρ2 b2 => ∃ m', m' < m ∧ W m' ρ2 b2) Φ) := h3
    refine ⟨fun σ' H' => ∃ m', m' < m ∧ ∃ ρ' b', En X.K c ρ' b' σ' H' ∧ Same B (hid (c.hs ρ') H') ∧ W m' ρ' b', fun _ _ h => h, ?_⟩
    refine s2 c ρ2 b3 σ2 H3 B _ _ I3 (sb.trans g3) h3' ⟨fun ρ5 b5 σ5 H5 ⟨m', h5, h6⟩ I5 s5 => ⟨m', h5, ρ5, b5, I5, s5, h6⟩, fun d b v H h r => q.rt _ _ _ _ h r, fun ρ5 b5 σ5 H5 h5 I5 s5 => q.nx _ _ _ _ h5 I5 s5, fun ρ5 b5 σ5 H5 ⟨m', h5, h6⟩ I5 s5 => ⟨m', h5, ρ5, b5, I5, s5, h6⟩⟩

/-! ### comprehensions -/
def wipeE (ρ : Env) : List Nat → Env
  | [] => ρ
  | v :: vs => (wipeE ρ vs).set v .no
def nOwn (ρ : Env) : List Nat → Bool
  | [] => true
  | i :: r => (match ρ[i]? with | some (.own _ _) => false | _ => true) && nOwn ρ r
theorem wipeE_out {ρ : Env} {i : Nat} : ∀ {vs : List Nat}, (wipeE ρ vs)[i]? = ρ[i]? ∨ (wipeE ρ vs)[i]? = some .no
  | [] => .inl rfl
  | v :: vs => by
    unfold wipeE
    rw [List.getElem?_set]
    by_cases h : v = i
    · subst h
      by_cases h2 : v < (wipeE ρ vs).length
      · right; simp [h2]
      · rcases wipeE_out (ρ := ρ) (i := v) (vs := vs) with h3 | h3
        · left; rw [← h3]; simp [h2]
        · exact absurd (List.getElem?_eq_some_iff.mp h3).1 h2
    · simp only [h, if_false]; exact wipeE_out
end
theorem En.wipe {K : PySem.W.Frag} {c : Fr} {ρ : Env} {b : Bag} {σ : St} {H : Hp} : ∀ {vs : List Nat}, En K c ρ b σ H → nOwn ρ vs = true → En K c (wipeE ρ vs) b (L2.wipe σ vs) H ∧ c.hs (wipeE ρ vs) = c.hs ρ
  | [], I, _ => ⟨I, rfl⟩
  | v :: vs, I, h => by
    simp only [nOwn, Bool.and_eq_true] at h
    obtain ⟨I1, e1⟩ := En.wipe (vs := vs) I h.2
    by_cases hv : v < (wipeE ρ vs).length
    · obtain ⟨I2, e2⟩ := I1.setN (o := none) hv (by
        rcases wipeE_out (ρ := ρ) (i := v) (vs := vs) with h3 | h3
        · have h4 := h.1
          rw [← h3, List.getElem?_eq_getElem hv] at h4
          generalize (wipeE ρ vs)[v] = s at h4 ⊢
          cases s <;> simp_all [adr1]
        · obtain ⟨_, h4⟩ := List.getElem?_eq_some_iff.mp h3
          rw [h4]; rfl)
      exact ⟨I2, e2.trans e1⟩
    · have h1 : (wipeE ρ vs).set v .no = wipeE ρ vs := List.set_eq_of_length_le (by omega)
      have h2 : (L2.wipe σ vs).set v none = L2.wipe σ vs := List.set_eq_of_length_le (by rw [I1.len]; omega)
      unfold wipeE L2.wipe
      rw [h1, h2]
      exact ⟨I1, e1⟩
/-- own lists out of sight -/
def deown (ρ : Env) : Env := ρ.map fun s => match s with | .own _ _ => .no | s => s
theorem adr_deown : ∀ ρ : Env, adr (deown ρ) = []
  | [] => rfl
  | .no :: r => adr_deown r
  | .dat _ :: r => adr_deown r
  | .own _ _ :: r => adr_deown r
  | .bag :: r => adr_deown r
  | .fn _ :: r => adr_deown r
theorem nOwn_deown {ρ : Env} : ∀ {vs : List Nat}, nOwn (deown ρ) vs = true
  | [] => rfl
  | v :: vs => by
    unfold nOwn
    rw [nOwn_deown, Bool.and_true]
    unfold deown
    rw [List.getElem?_map]
    cases ρ[v]? with
    | none => rfl
    | some s => cases s <;> rfl
/-- the frame of a block: all but the bag stays -/
def Fr.inn (c : Fr) (ρ : Env) (H : Hp) : Fr := ⟨fun a => if c.bag = some a then none else H a, c.O ++ adr ρ, c.bag⟩
theorem inn_hs {c : Fr} {ρ ρ' : Env} {H : Hp} (h : adr ρ' = []) : ∀ a, a ∈ (c.inn ρ H).hs ρ' ↔ a ∈ c.hs ρ := fun a => by
  unfold Fr.hs Fr.hb Fr.inn
  rw [h]
  simp only [List.append_nil, List.mem_append]
  constructor
  · rintro ((h | h) | h) <;> simp [h]
  · rintro ((h | h) | h) <;> simp [h]
section
variable {K : PySem.W.Frag} {c : Fr} {ρ : Env} {b b' : Bag} {σ : St} {H H' : Hp}
theorem En.inner (I : En K c ρ b σ H) (vs : List Nat) : En K (c.inn ρ H) (wipeE (deown ρ) vs) b (L2.wipe σ vs) H ∧ adr (wipeE (deown ρ) vs) = [] := by
  have hh : ∀ a, a ∈ (c.inn ρ H).hs (deown ρ) ↔ a ∈ c.hs ρ := inn_hs (adr_deown ρ)
  have e := hid_congr hh H
  have I1 : En K (c.inn ρ H) (deown ρ) b σ H := by
    refine ⟨fun a o h => ?_, by unfold deown; rw [List.length_map]; exact I.len, fun i s h => ?_, ?_, fun a ha => I.dom a ((hh a).mp ha), fun a ha => ?_, fun p hp => ?_⟩
    · unfold Fr.inn at h
      dsimp only at h
      split at h
      · cases h
      · exact h
    · unfold deown at h
      rw [List.getElem?_map] at h
      cases e1 : ρ[i]? with
      | none => rw [e1] at h; cases h
      | some s0 =>
        rw [e1] at h
        obtain ⟨o, h1, h2⟩ := I.sl i s0 e1
        refine ⟨o, h1, ?_⟩
        have h := Option.some.inj h
        cases s0 with
        | no => subst h; trivial
        | dat d => subst h; obtain ⟨v, e2, r⟩ := h2; exact ⟨v, e2, by rw [e]; exact r⟩
        | own _ _ => subst h; trivial
        | bag => subst h; exact h2
        | fn f => subst h; exact h2
    · have nd := I.nd
      unfold Fr.hs Fr.hb at nd ⊢
      rw [adr_deown]
      unfold Fr.inn
      simp only [List.append_nil, List.append_assoc, List.nodup_append, List.mem_append] at nd ⊢
      grind
    · rw [adr_deown, List.append_nil] at ha
      have : c.bag = some a := by
        unfold Fr.inn at ha
        simpa using ha
      show (if c.bag = some a then none else H a) = none
      rw [if_pos this]
    · have := I.bag p hp
      unfold BagAt at this ⊢
      rw [e]; exact this
  obtain ⟨I2, e2⟩ := I1.wipe (vs := vs) nOwn_deown
  refine ⟨I2, ?_⟩
  unfold Fr.hs at e2
  rw [adr_deown] at e2
  exact List.append_cancel_left e2
/-- all but the bag stayed -/
theorem En.keep (I : En K c ρ b σ H) (k : ∀ a o, c.bag ≠ some a → H a = some o → H' a = some o) (hb : ∀ p, c.bag = some p → BagAt K (c.hs ρ) H' p b') : En K c ρ b' σ H' ∧ Gr (c.hs ρ) H H' := by
  cases e : c.bag with
  | none =>
    have s : Same H H' := fun a o h => k a o (by rw [e]; exact fun z => by cases z) h
    have I1 := I.grow s
    refine ⟨⟨I1.same, I1.len, I1.sl, I1.nd, I1.dom, I1.out, fun p hp => by rw [e] at hp; cases hp⟩, Gr.of s⟩
  | some p => exact I.bagged e (fun a o h => by
      obtain ⟨h1, h2⟩ := hid_some h
      rw [hid_out h1]
      exact k a o (fun z => h1 (by rw [e] at z; cases z; simp)) h2) (hb p e)
/-- a hidden object changes -/
theorem En.updH (I : En K c ρ b σ H) {D : Addr} {o : HO} (hD : D ∈ c.O) (hF : c.F D = none) : En K c ρ b σ (upd H D o) := by
  have hm : D ∈ c.hs ρ := List.mem_append_left _ (List.mem_append_left _ hD)
  have eh := hid_upd_in (H := H) (o := o) hm
  have ne : ∀ a, a ∈ c.bag.toList ++ adr ρ → a ≠ D := fun a ha z => by
    subst z
    have nd := I.nd
    unfold Fr.hs Fr.hb at nd
    simp only [List.append_assoc, List.nodup_append, List.mem_append] at nd ha
    grind
  refine ⟨fun a u h => ?_, I.len, fun i s h => ?_, I.nd, fun a ha => ?_, I.out, fun p hp => ?_⟩
  · rw [upd_ne (fun z => by rw [z, hF] at h; cases h)]; exact I.same a u h
  · obtain ⟨x, h1, h2⟩ := I.sl i s h
    refine ⟨x, h1, ?_⟩
    cases s with
    | no => trivial
    | dat d => obtain ⟨v, e, r⟩ := h2; exact ⟨v, e, by rw [eh]; exact r⟩
    | own q ds =>
      obtain ⟨e, vs, r1, r2⟩ := h2
      exact ⟨e, vs, by rw [upd_ne (ne q (List.mem_append_right _ (mem_adr h)))]; exact r1, by rw [eh]; exact r2⟩
    | bag => exact h2
    | fn f => exact h2
  · by_cases z : a = D
    · rw [z, upd_same]; exact fun q => by cases q
    · rw [upd_ne z]; exact I.dom a ha
  · obtain ⟨q, h1, h2⟩ := I.bag p hp
    exact ⟨q, by rw [upd_ne (ne p (by rw [hp]; simp))]; exact h1, by rw [eh]; exact h2⟩
/-- one more hidden object, new -/
theorem En.hide (I : En K c ρ b σ H) {D : Addr} {o : HO} (hD : H D = none) : En K { c with O := D :: c.O } ρ b σ (upd H D o) ∧ Same (hid (c.hs ρ) H) (hid (D :: c.hs ρ) (upd H D o)) := by
  have hn := I.fresh hD
  have s1 : Same (hid (c.hs ρ) H) (hid (D :: c.hs ρ) (upd H D o)) := fun a u h => by
    obtain ⟨h1, h2⟩ := hid_some h
    have hne : a ≠ D := ne_of_none h2 hD
    rw [hid_out (by simp [hne, h1]), upd_ne hne]; exact h2
  have s0 := same_new hD o
  refine ⟨⟨I.same.trans s0, I.len, fun i s h => ?_, List.nodup_cons.mpr ⟨hn, I.nd⟩, fun a ha => ?_, I.out, fun p hp => ?_⟩, s1⟩
  · obtain ⟨x, h1, h2⟩ := I.sl i s h
    refine ⟨x, h1, ?_⟩
    cases s with
    | no => trivial
    | dat d => obtain ⟨v, e, r⟩ := h2; exact ⟨v, e, dp_mono s1 r⟩
    | own q ds => obtain ⟨e, vs, r1, r2⟩ := h2; exact ⟨e, vs, s0 _ _ r1, r2.mono s1⟩
    | bag => exact h2
    | fn f => exact h2
  · rcases List.mem_cons.mp ha with z | z
    · rw [z, upd_same]; exact fun q => by cases q
    · exact fun q => I.dom a z (s0.free q)
  · obtain ⟨q, h1, h2⟩ := I.bag p hp
    exact ⟨q, s0 _ _ h1, dp_mono s1 h2⟩
/-- .. and seen again -/
theorem En.unhide {D : Addr} (I : En K { c with O := D :: c.O } ρ b σ H) : En K c ρ b σ H := by
  have s1 : Same (hid (D :: c.hs ρ) H) (hid (c.hs ρ) H) := hid_sub fun a ha => List.mem_cons_of_mem _ ha
  refine ⟨I.same, I.len, fun i s h => ?_, (List.nodup_cons.mp I.nd).2, fun a ha => I.dom a (List.mem_cons_of_mem _ ha), I.out, fun p hp => ?_⟩
  · obtain ⟨x, h1, h2⟩ := I.sl i s h
    refine ⟨x, h1, ?_⟩
    cases s with
    | no => trivial
    | dat d => obtain ⟨v, e, r⟩ := h2; exact ⟨v, e, dp_mono s1 r⟩
    | own q ds => obtain ⟨e, vs, r1, r2⟩ := h2; exact ⟨e, vs, r1, r2.mono s1⟩
    | bag => exact h2
    | fn f => exact h2
  · obtain ⟨q, h1, h2⟩ := I.bag p hp
    exact ⟨q, h1, dp_mono s1 h2⟩
end
/-- the tests behind a clause -/
structure DTs (X : Cx) (ifs : List Expr) (wt : WT) : Prop where
  ex : ∃ tt, PTs X ifs tt ∧ SndT X.K tt wt
def wYes : WT := fun _ b Φ => Φ true b
section
variable {X : Cx} {pos : Pos}
theorem ts_nil : DTs X [] wYes := ⟨_, pts_nil, fun c ρ b σ H Φ Q I h q => q _ _ _ h I (Gr.refl _ _)⟩
theorem ts_one {e : Expr} {w : WT} (h : DT X e w) : DTs X [e] w := let ⟨t, p, s⟩ := h.ex; ⟨t, pts_one p, s⟩
theorem DTs.can {ifs : List Expr} {w : WT} (h : DTs X ifs w) : PTs X ifs (ttW X.K w) := by
  obtain ⟨te, p, s⟩ := h.ex
  exact ⟨fun pins s0 σ H Q I ⟨c, ρ, b, Φ, I1, h1, q⟩ => p.run pins s0 σ H Q I (s c ρ b σ H Φ Q I1 h1 q)⟩
/-- one clause run: what is gathered -/
def runLc (g : WG) (t : WT) (w : WE) (ρ : Env) : List D → List D → Bag → (List D → Bag → Prop) → Prop
  | [], acc, b, Φ => Φ acc b
  | d :: r, acc, b, Φ => g d ρ fun ρ' => t ρ' b fun k b1 => if k = true then w ρ' b1 fun e b2 => acc.length < sizeLine ∧ runLc g t w ρ r (acc ++ [e]) b2 Φ else runLc g t w ρ r acc b1 Φ
def wLc (wi : WA) (g : WG) (t : WT) (w : WE) (vs : List Nat) : WE := fun ρ b Φ => wi ρ b fun ds b1 => runLc g t w (wipeE (deown ρ) vs) ds [] b1 fun acc b2 => Φ (.list acc) b2
theorem wipe_idem (σ : St) (vs : List Nat) : L2.wipe (L2.wipe σ vs) vs = L2.wipe σ vs := by
  apply List.ext_getElem?
  intro j
  rw [wipe_get, wipe_get, L2.wipe_length]
  by_cases h : j ∈ vs ∧ j < σ.length <;> simp [h]
/-- where a comprehension stands amid its turns -/
structure LcSt (K : PySem.W.Frag) (c : Fr) (ρ : Env) (b : Bag) (σ : St) (B H : Hp) (D : Addr) (accD : List PySem.PyData) : Prop where
  en : En K { c with O := D :: c.O } ρ b σ H
  same : Same B (hid (D :: c.hs ρ) H)
  F : c.F D = none
  acc : ∃ accV, H D = some (.lst accV) ∧ DqAll K (hid (D :: c.hs ρ) H) accV accD
theorem LcSt.step {K : PySem.W.Frag} {c : Fr} {ρ ρ4 : Env} {b b' : Bag} {σ σ4 : St} {B H H' : Hp} {D : Addr} {accD : List PySem.PyData} (S : LcSt K c ρ b σ B H D accD) (I4 : En K (Fr.inn { c with O := D :: c.O } ρ H) ρ4 b' σ4 H') : LcSt K c ρ b' σ B H' D accD := by
  have k : ∀ a o, c.bag ≠ some a → H a = some o → H' a = some o := fun a o h1 h2 => I4.same a o (by
    show (if c.bag = some a then none else H a) = some o
    rw [if_neg h1]; exact h2)
  obtain ⟨I5, g5⟩ := S.en.keep (H' := H') (b' := b') k (fun p hp => by
    obtain ⟨q, h1, h2⟩ := I4.bag p hp
    refine ⟨q, h1, dp_mono (hid_sub fun a ha => ?_) h2⟩
    have := (inn_hs (c := { c with O := D :: c.O }) (ρ := ρ) (H := H) (ρ' := []) rfl a).mpr ha
    exact List.mem_append_left _ (by simpa [Fr.hs, adr] using this))
  obtain ⟨accV, h1, h2⟩ := S.acc
  refine ⟨I5, S.same.trans g5, S.F, accV, k D _ (fun z => ?_) h1, dpAll_mono g5 h2⟩
  have nd := S.en.nd
  unfold Fr.hs Fr.hb at nd
  simp [z] at nd
theorem LcSt.push {K : PySem.W.Frag} {c : Fr} {ρ : Env} {b : Bag} {σ : St} {B H : Hp} {D : Addr} {accD : List PySem.PyData} (S : LcSt K c ρ b σ B H D accD) {v : V} {d : PySem.PyData} {accV : List V} (h1 : H D = some (.lst accV)) (h2 : DqAll K (hid (D :: c.hs ρ) H) accV accD) (r : Dq K (hid (D :: c.hs ρ) H) v d) :
    LcSt K c ρ b σ B (upd H D (.lst (accV ++ [v]))) D (accD ++ [d]) := by
  have e := hid_upd_in (O := D :: c.hs ρ) (H := H) (o := .lst (accV ++ [v])) (p := D) (by simp)
  exact ⟨S.en.updH (by simp) S.F, by rw [e]; exact S.same, S.F, _, upd_same, by rw [e]; exact h2.app (.cons r .nil)⟩
theorem LcSt.grow {K : PySem.W.Frag} {c : Fr} {ρ : Env} {b : Bag} {σ : St} {B H H' : Hp} {D : Addr} {accD : List PySem.PyData} (S : LcSt K c ρ b σ B H D accD) (s : Same H H') : LcSt K c ρ b σ B H' D accD :=
  let ⟨accV, h1, h2⟩ := S.acc
  ⟨S.en.grow s, S.same.trans (hid_same s), S.F, accV, s _ _ h1, dpAll_mono (hid_same s) h2⟩
theorem lc_snd {K : PySem.W.Frag} {wi : WA} {g : WG} {t : WT} {w : WE} {vs gs : List Nat} (hgs : ∀ i ∈ gs, i ∈ vs) : Snd K (tLc (tiW K wi) (tgW K gs g) (ttW K t) (teW K w) vs) (wLc wi g t w vs) := by
  intro c ρ b σ H Φ Q I h q
  refine ⟨c, ρ, b, _, I, h, fun ds b1 J H1 h1 I1 g1 wk => fun D hD => ?_⟩
  obtain ⟨I0, sB⟩ := I1.hide (o := .lst []) hD
  have hFD : c.F D = none := by
    cases e : c.F D with
    | none => rfl
    | some o => rw [I1.same _ _ e] at hD; cases hD
  generalize hB : hid (c.hs ρ) H1 = B at sB wk
  have S0 : LcSt K c ρ b1 σ B (upd H1 D (.lst [])) D [] := ⟨I0, sB, hFD, [], upd_same, .nil⟩
  refine ⟨fun i m H' => m + i = ds.length ∧ ∃ b' accD, LcSt K c ρ b' σ B H' D accD ∧ runLc g t w (wipeE (deown ρ) vs) (ds.drop i) accD b' (fun acc b2 => Φ (.list acc) b2), ⟨ds.length, by simp, b1, [], S0, by simpa using h1⟩, ?_⟩
  rintro i m H2 ⟨hm, b2, accD, S2, h2⟩
  have sw : Same B H2 := sameHid S2.same
  by_cases hi : i < ds.length
  · have hdr : ds.drop i = ds[i] :: ds.drop (i + 1) := List.drop_eq_getElem_cons hi
    rw [hdr] at h2
    refine .inr ⟨wk.go i H2 sw hi, fun H3 => ∃ m', m' + (i + 1) = ds.length ∧ ∃ b' accD, LcSt K c ρ b' σ B H3 D accD ∧ runLc g t w (wipeE (deown ρ) vs) (ds.drop (i + 1)) accD b' (fun acc b2 => Φ (.list acc) b2), ?_, ?_⟩
    · rintro H3 ⟨m', hm', r⟩
      exact ⟨m', by omega, hm', r⟩
    · intro x H3 y
      obtain ⟨d, hd, g3, rd⟩ := wk.yld i H2 x H3 sw hi y
      have hd' : ds[i] = d := by rw [List.getElem?_eq_getElem hi] at hd; exact Option.some.inj hd
      rw [hd'] at h2
      have S3 := S2.grow g3
      obtain ⟨I4, ha4⟩ := S3.en.inner vs
      have hh := inn_hs (c := { c with O := D :: c.O }) (ρ := ρ) (H := H3) ha4
      have rd' : Dq K (hid ((Fr.inn { c with O := D :: c.O } ρ H3).hs (wipeE (deown ρ) vs)) H3) x d := by
        rw [hid_congr hh]; exact rd (D :: c.hs ρ) S2.en.dom S2.same
      refine ⟨_, _, b2, d, _, I4, rd', h2, fun ρ5 σ5 h5 I5 sub5 wip => ⟨(wip vs hgs).trans (wipe_idem σ vs), ?_⟩⟩
      refine ⟨_, ρ5, b2, _, I5, h5, fun k b6 H6 h6 I6 g6 => ?_⟩
      cases k with
      | false =>
        have h6' : runLc g t w (wipeE (deown ρ) vs) (ds.drop (i + 1)) accD b6 (fun acc b2 => Φ (.list acc) b2) := h6
        exact ⟨m - 1, by omega, b6, accD, S3.step I6, h6'⟩
      | true =>
        have h6' : w ρ5 b6 fun e b2 => accD.length < sizeLine ∧ runLc g t w (wipeE (deown ρ) vs) (ds.drop (i + 1)) (accD ++ [e]) b2 (fun acc b2 => Φ (.list acc) b2) := h6
        refine ⟨_, ρ5, b6, _, I6, h6', fun e b7 v H7 h7 I7 g7 r7 => ?_⟩
        have S7 := S3.step I7
        obtain ⟨accV, ha, hr⟩ := S7.acc
        have r8 : Dq K (hid (D :: c.hs ρ) H7) v e := by
          refine dp_mono (hid_sub fun a ha => ?_) r7
          have := (inn_hs (c := { c with O := D :: c.O }) (ρ := ρ) (H := H3) (ρ' := []) rfl a).mpr ha
          exact List.mem_append_left _ (by simpa [Fr.hs, adr] using this)
        exact ⟨accV, ha, by rw [hr.len]; exact h7.1, m - 1, by omega, b7, accD ++ [e], S7.push ha hr r8, h7.2⟩
  · refine .inl ⟨wk.stop i H2 sw (by omega), ?_⟩
    rw [List.drop_eq_nil_of_le (by omega)] at h2
    obtain ⟨accV, ha, hr⟩ := S2.acc
    have I9 := S2.en.unhide
    have sD : Same (hid (D :: c.hs ρ) H2) (hid (c.hs ρ) H2) := hid_sub fun a ha => List.mem_cons_of_mem _ ha
    have hDn : D ∉ c.hs ρ := (List.nodup_cons.mp S2.en.nd).1
    refine q _ _ _ _ h2 I9 (g1.trans ?_) (.lst (by rw [hid_out hDn]; exact ha) (dpAll_mono sD hr))
    show Same (hid (c.hs ρ) H1) (hid (c.hs ρ) H2)
    rw [hB]
    exact S2.same.trans sD
/-- the context of a block -/
abbrev Blk (X : Cx) (scope : Scope) (P : Cx → Prop) : Prop := ∀ (s : Shared) (H : Hp) (C : Addr) (cl : List (Str × Addr)) (fp : List Addr), P (X.blk s H scope (compEnvC scope cl C X.env) fp)
theorem d_lc {elt tg iter : Expr} {ifs : List Expr} {scope : Scope} (own : List (Str × Nat)) {gs : List Nat} {wi : WA} {g : WG} {t : WT} {w : WE} (hc : X.calm = true) (hN : X.N.Nodup) (hi : DI X tg iter wi) (ok : blkC X.N X.env.scope scope own = true)
    (hg : Blk X scope fun Y => DG Y tg gs g) (ht : Blk X scope fun Y => DTs Y ifs t) (he : Blk X scope fun Y => DE Y elt w) (hgs : (gs.all fun i => (own.map (·.2)).contains i) = true := by rfl) (hs : ∀ x, foldedSetIterable iter X.env x = pure x := by intro _; rfl) :
    DE X (.ListComp elt [⟨tg, iter, ifs, 0⟩] scope pos) (wLc wi g t w (own.map (·.2))) := by
  refine ⟨_, pe_lc (wi := tiW X.K wi) (g := tgW X.K gs g) (tt := ttW X.K t) (te := teW X.K w) hc hN hi.can (blkOk_by ok) (fun s H C cl fp => (hg s H C cl fp).can) (fun s H C cl fp => (ht s H C cl fp).can) (fun s H C cl fp => (he s H C cl fp).can) hs, lc_snd fun i hi => ?_⟩
  simp only [List.all_eq_true, List.contains_iff_mem] at hgs
  exact hgs i hi
theorem s_setLc (i : Nat) {y : Str} {py spos : Pos} {elt tg iter : Expr} {ifs : List Expr} {scope : Scope} (own : List (Str × Nat)) {gs : List Nat} {wi : WA} {g : WG} {t : WT} {w : WE} (hc : X.calm = true) (hN : X.N.Nodup) (hy : X.N[i]? = some y) (hyl : X.env.scope.names.lookup y = some .local)
    (hsw : swapsWith (.ListComp elt [⟨tg, iter, ifs, 0⟩] scope pos) (some (.Name y py)) spos.line X.env = pure true) (hi : DI X tg iter wi) (ok : blkC X.N X.env.scope scope own = true)
    (hg : Blk X scope fun Y => DG Y tg gs g) (ht : Blk X scope fun Y => DTs Y ifs t) (he : Blk X scope fun Y => DE Y elt w) (hgs : (gs.all fun i => (own.map (·.2)).contains i) = true := by rfl) (hs : ∀ x, foldedSetIterable iter X.env x = pure x := by intro _; rfl) :
    DS X (.Assign [.Name y py] (.ListComp elt [⟨tg, iter, ifs, 0⟩] scope pos) spos) (sSet i (wLc wi g t w (own.map (·.2)))) := by
  refine ⟨_, ps_setLc (i := i) (wi := tiW X.K wi) (g := tgW X.K gs g) (tt := ttW X.K t) (te := teW X.K w) hc hN hy hyl hsw hi.can (blkOk_by ok) (fun s H C cl fp => (hg s H C cl fp).can) (fun s H C cl fp => (ht s H C cl fp).can) (fun s H C cl fp => (he s H C cl fp).can) hs, ?_⟩
  refine snd_asg (lc_snd fun i hi => ?_) ?_
  · simp only [List.all_eq_true, List.contains_iff_mem] at hgs
    exact hgs i hi
  · intro c ρ b σ H v d Φ Q I r ⟨h1, h2⟩ q
    obtain ⟨I', s⟩ := I.setD h1 r
    exact q _ _ h2 I' s
end
end DL

/-! DL8: built-in functions, operations, subscripts, slices by data; own lists lent. -/
namespace DL
open PySem L2

/-! ### functions of data -/
abbrev OpF := List D → (D → Prop) → Prop
def FnD (K : PySem.W.Frag) (r : List V → Hp → VK → Prop) (o : OpF) : Prop := ∀ (hs : List Addr) (H : Hp) (vs : List V) (ds : List D) (Φ : D → Prop) (Q : VK), (∀ a ∈ hs, H a ≠ none) → DqAll K (hid hs H) vs ds → o ds Φ →
  (∀ f v H', Φ f → Same H H' → Dq K (hid hs H') v f → Q v H') → r vs H Q
def wFn (o : OpF) (wa : WA) : WE := fun ρ b Φ => wa ρ b fun ds b1 => o ds fun d => Φ d b1
theorem snd_fn {K : PySem.W.Frag} {r : List V → Hp → VK → Prop} {o : OpF} (h : FnD K r o) {ta : TA} {wa : WA} (s : SndA K ta wa) : Snd K (tCB r ta) (wFn o wa) := by
  intro c ρ b σ H Φ Q I h0 q
  refine s c ρ b σ H _ _ I h0 fun ds b1 vs H1 h1 I1 g1 r1 => ?_
  exact h (c.hs ρ) H1 vs ds _ Q I1.dom r1 h1 fun f v H2 h2 g2 r2 => q _ _ _ _ h2 (I1.grow g2) (g1.trans (Gr.of g2)) r2
section
variable {X : Cx} {K : PySem.W.Frag} {pos p : Pos} {x : Str} {e : Expr} {es : List Expr} {wa : WA} {r : List V → Hp → VK → Prop} {o : OpF} {id T : String}
theorem d_fn (hc : CallR X (.builtin id) r) (ho : FnD X.K r o) (hv : bootBuiltins x = some (.builtin id)) (hg : Gl X x) (hm : X.mg x = none) (ha : DA X (e :: es) wa) (hn : x ≠ "__name__" := by decide) (hdb : (x == ("__debug__" : Str)) = false := by decide)
    (he : starEach (e :: es) X.env = (false, eval e X.env) :: starEach es X.env := by rfl) (hpl : (backTo pos (starEach es X.env)).any (·.1) = false := by rfl) : DE X (.Call (.Name x p) (e :: es) [] pos) (wFn o wa) := by
  obtain ⟨ta, p1, s1⟩ := ha.ex
  exact ⟨_, pe_callB hc hg hm hv p1 hn hdb he hpl, snd_fn ho s1⟩
theorem d_ty (hc : CallR X (.type T) r) (ho : FnD X.K r o) (hv : bootBuiltins x = some (.type T)) (hg : Gl X x) (hm : X.mg x = none) (ha : DA X (e :: es) wa) (hn : x ≠ "__name__" := by decide) (hdb : (x == ("__debug__" : Str)) = false := by decide)
    (he : starEach (e :: es) X.env = (false, eval e X.env) :: starEach es X.env := by rfl) (hpl : (backTo pos (starEach es X.env)).any (·.1) = false := by rfl) : DE X (.Call (.Name x p) (e :: es) [] pos) (wFn o wa) := by
  obtain ⟨ta, p1, s1⟩ := ha.ex
  exact ⟨_, pe_callTy hc hg hm hv p1 hn hdb he hpl, snd_fn ho s1⟩
theorem d_bfn (hc : CallR X (.builtin id) r) (ho : FnD X.K r o) (hg : Gl X x) (hm : X.mg x = some (.builtin id)) (ha : DA X (e :: es) wa) (hdb : (x == ("__debug__" : Str)) = false := by decide)
    (he : starEach (e :: es) X.env = (false, eval e X.env) :: starEach es X.env := by rfl) (hpl : (backTo pos (starEach es X.env)).any (·.1) = false := by rfl) : DE X (.Call (.Name x p) (e :: es) [] pos) (wFn o wa) := by
  obtain ⟨ta, p1, s1⟩ := ha.ex
  exact ⟨_, pe_callBfun hc hg hm p1 hdb he hpl, snd_fn ho s1⟩
/-! #### the instances -/
def oLen : OpF
  | [.list ds], Φ => Φ (.int ds.length)
  | [.tuple ds], Φ => Φ (.int ds.length)
  | [.str z], Φ => z.length ≤ sizeLine ∧ Φ (.int z.length)
  | _, _ => False
theorem fd_len : FnD K (fun xs H Q => ∃ x n, xs = [x] ∧ LenV K x H n ∧ Q (.int n) H) oLen := by
  intro hs H vs ds Φ Q _ r h q
  match ds, h, vs, r with
  | [.list ds], h, _, .cons r1 .nil =>
    obtain ⟨a, xs, e, s1, s2⟩ := r1.lst_inv
    subst e
    exact ⟨_, _, rfl, .inl ⟨xs, SqL.of (hid_le _ _ s1), rfl⟩, by rw [s2.len]; exact q _ _ _ h (Same.refl _) (.int _)⟩
  | [.tuple ds], h, _, .cons r1 .nil =>
    obtain ⟨a, xs, e, s1, s2⟩ := r1.tup_inv
    subst e
    exact ⟨_, _, rfl, .inr ⟨xs, seqT hid_le s1, rfl⟩, by rw [s2.len]; exact q _ _ _ h (Same.refl _) (.int _)⟩
  | [.str z], h, _, .cons r1 .nil =>
    rw [r1.str_inv]
    exact ⟨_, _, rfl, ⟨h.1, rfl⟩, q _ _ _ h.2 (Same.refl _) (.int _)⟩
def oAbs : OpF
  | [.int i], Φ => Φ (.int (if i < 0 then -i else i))
  | _, _ => False
theorem fd_abs : FnD K (fun xs H Q => ∃ i, xs = [.int i] ∧ Q (.int (if i < 0 then -i else i)) H) oAbs := by
  intro hs H vs ds Φ Q _ r h q
  match ds, h, vs, r with
  | [.int i], h, _, .cons r1 .nil => rw [r1.int_inv]; exact ⟨i, rfl, q _ _ _ h (Same.refl _) (.int _)⟩
def oMax2 : OpF
  | [.int i, .int j], Φ => Φ (.int (if j > i then j else i))
  | _, _ => False
def oMin2 : OpF
  | [.int i, .int j], Φ => Φ (.int (if j < i then j else i))
  | _, _ => False
theorem fd_max2 : FnD K (fun xs H Q => ∃ i j, xs = [.int i, .int j] ∧ Q (.int (if j > i then j else i)) H) oMax2 := by
  intro hs H vs ds Φ Q _ r h q
  match ds, h, vs, r with
  | [.int i, .int j], h, _, .cons r1 (.cons r2 .nil) => rw [r1.int_inv, r2.int_inv]; exact ⟨i, j, rfl, q _ _ _ h (Same.refl _) (.int _)⟩
theorem fd_min2 : FnD K (fun xs H Q => ∃ i j, xs = [.int i, .int j] ∧ Q (.int (if j < i then j else i)) H) oMin2 := by
  intro hs H vs ds Φ Q _ r h q
  match ds, h, vs, r with
  | [.int i, .int j], h, _, .cons r1 (.cons r2 .nil) => rw [r1.int_inv, r2.int_inv]; exact ⟨i, j, rfl, q _ _ _ h (Same.refl _) (.int _)⟩
/-- max, min of a list of ints -/
def oMaxL : OpF := fun ds Φ => ∃ ns : List Int, ds = [.list (ns.map .int)] ∧ 0 < ns.length ∧ ∀ m, m ∈ ns → (∀ y, y ∈ ns → y ≤ m) → Φ (.int m)
def oMinL : OpF := fun ds Φ => ∃ ns : List Int, ds = [.list (ns.map .int)] ∧ 0 < ns.length ∧ ∀ m, m ∈ ns → (∀ y, y ∈ ns → m ≤ y) → Φ (.int m)
theorem fd_maxL : FnD K (rMax K) oMaxL := by
  intro hs H vs ds Φ Q _ r ⟨ns, e, hl, h⟩ q
  subst e
  match vs, r with
  | _, .cons r1 .nil =>
    obtain ⟨a, xs, e, s1, s2⟩ := r1.lst_inv
    subst e
    rw [s2.ints] at s1
    exact ⟨a, ns, rfl, SqL.of (hid_le _ _ s1), hl, fun m h1 h2 => q _ _ _ (h m h1 h2) (Same.refl _) (.int _)⟩
theorem fd_minL : FnD K (rMin K) oMinL := by
  intro hs H vs ds Φ Q _ r ⟨ns, e, hl, h⟩ q
  subst e
  match vs, r with
  | _, .cons r1 .nil =>
    obtain ⟨a, xs, e, s1, s2⟩ := r1.lst_inv
    subst e
    rw [s2.ints] at s1
    exact ⟨a, ns, rfl, SqL.of (hid_le _ _ s1), hl, fun m h1 h2 => q _ _ _ (h m h1 h2) (Same.refl _) (.int _)⟩
def oInt : OpF
  | [.int i], Φ => Φ (.int i)
  | [.bool k], Φ => Φ (.int (if k then 1 else 0))
  | _, _ => False
theorem fd_int : FnD K (fun xs H Q => (∃ i, xs = [.int i] ∧ Q (.int i) H) ∨ ∃ k, xs = [.bl k] ∧ Q (.int (if k then 1 else 0)) H) oInt := by
  intro hs H vs ds Φ Q _ r h q
  match ds, h, vs, r with
  | [.int i], h, _, .cons r1 .nil => rw [r1.int_inv]; exact .inl ⟨i, rfl, q _ _ _ h (Same.refl _) (.int _)⟩
  | [.bool k], h, _, .cons r1 .nil => rw [r1.bool_inv]; exact .inr ⟨k, rfl, q _ _ _ h (Same.refl _) (.int _)⟩
def oStrI : OpF
  | [.int i], Φ => i.natAbs.log2 < 1920 ∧ Φ (.str (toString i))
  | _, _ => False
theorem fd_strI : FnD K (fun xs H Q => ∃ i, xs = [.int i] ∧ i.natAbs.log2 < 1920 ∧ Q (.str (toString i)) H) oStrI := by
  intro hs H vs ds Φ Q _ r h q
  match ds, h, vs, r with
  | [.int i], h, _, .cons r1 .nil => rw [r1.int_inv]; exact ⟨i, rfl, h.1, q _ _ _ h.2 (Same.refl _) (.str _)⟩
def oGcd : OpF
  | [.int i, .int j], Φ => Φ (.int ((Nat.gcd i.natAbs j.natAbs : Nat) : Int))
  | _, _ => False
theorem fd_gcd : FnD K rGcd oGcd := by
  intro hs H vs ds Φ Q _ r h q
  match ds, h, vs, r with
  | [.int i, .int j], h, _, .cons r1 (.cons r2 .nil) => rw [r1.int_inv, r2.int_inv]; exact ⟨i, j, rfl, q _ _ _ h (Same.refl _) (.int _)⟩
def oAll : OpF := fun ds Φ => ∃ bs : List Bool, ds = [.list (bs.map .bool)] ∧ Φ (.bool (bs.all _root_.id))
def oAny : OpF := fun ds Φ => ∃ bs : List Bool, ds = [.list (bs.map .bool)] ∧ Φ (.bool (bs.any _root_.id))
theorem fd_all : FnD K (rAll K) oAll := by
  intro hs H vs ds Φ Q _ r ⟨ns, e, h⟩ q
  subst e
  match vs, r with
  | _, .cons r1 .nil =>
    obtain ⟨a, xs, e, s1, s2⟩ := r1.lst_inv
    subst e
    rw [s2.bools] at s1
    exact ⟨a, ns, rfl, SqL.of (hid_le _ _ s1), q _ _ _ h (Same.refl _) (.bl _)⟩
theorem fd_any : FnD K (rAny K) oAny := by
  intro hs H vs ds Φ Q _ r ⟨ns, e, h⟩ q
  subst e
  match vs, r with
  | _, .cons r1 .nil =>
    obtain ⟨a, xs, e, s1, s2⟩ := r1.lst_inv
    subst e
    rw [s2.bools] at s1
    exact ⟨a, ns, rfl, SqL.of (hid_le _ _ s1), q _ _ _ h (Same.refl _) (.bl _)⟩
/-- list(x), tuple(x) of a list | a tuple -/
def oList : OpF
  | [.list ds], Φ => Φ (.list ds)
  | [.tuple ds], Φ => Φ (.list ds)
  | _, _ => False
def oTuple : OpF
  | [.list ds], Φ => Φ (.tuple ds)
  | [.tuple ds], Φ => Φ (.tuple ds)
  | _, _ => False
theorem dq_newL {hs : List Addr} {H : Hp} {vs : List V} {ds : List D} {p : Addr} (hd : ∀ a ∈ hs, H a ≠ none) (hp : H p = none) (r : DqAll K (hid hs H) vs ds) : Dq K (hid hs (upd H p (.lst vs))) (.ref p) (.list ds) :=
  .lst (new_at fun z => hd p z hp) (dpAll_mono (hid_same (same_new hp _)) r)
theorem dq_newT {hs : List Addr} {H : Hp} {vs : List V} {ds : List D} {p : Addr} (hd : ∀ a ∈ hs, H a ≠ none) (hp : H p = none) (r : DqAll K (hid hs H) vs ds) : Dq K (hid hs (upd H p (.tup vs))) (.ref p) (.tuple ds) :=
  .tup (.inl (.inl (new_at fun z => hd p z hp))) (dpAll_mono (hid_same (same_new hp _)) r)
theorem fd_list : FnD K (fun xs H Q => ∃ p ys, xs = [.ref p] ∧ (SqL K H p ys ∨ SqT K H p ys) ∧ ∀ l, H l = none → Q (.ref l) (upd H l (.lst ys))) oList := by
  intro hs H vs ds Φ Q hd r h q
  match ds, h, vs, r with
  | [.list ds], h, _, .cons r1 .nil =>
    obtain ⟨a, xs, e, s1, s2⟩ := r1.lst_inv
    subst e
    exact ⟨a, xs, rfl, .inl (SqL.of (hid_le _ _ s1)), fun l hl => q _ _ _ h (same_new hl _) (dq_newL hd hl s2)⟩
  | [.tuple ds], h, _, .cons r1 .nil =>
    obtain ⟨a, xs, e, s1, s2⟩ := r1.tup_inv
    subst e
    exact ⟨a, xs, rfl, .inr (seqT hid_le s1), fun l hl => q _ _ _ h (same_new hl _) (dq_newL hd hl s2)⟩
theorem fd_tuple : FnD K (fun xs H Q => ∃ p ys, xs = [.ref p] ∧ ((SqL K H p ys ∧ ∀ l, H l = none → Q (.ref l) (upd H l (.tup ys))) ∨ (SqT K H p ys ∧ Q (.ref p) H))) oTuple := by
  intro hs H vs ds Φ Q hd r h q
  match ds, h, vs, r with
  | [.list ds], h, _, .cons r1 .nil =>
    obtain ⟨a, xs, e, s1, s2⟩ := r1.lst_inv
    subst e
    exact ⟨a, xs, rfl, .inl ⟨SqL.of (hid_le _ _ s1), fun l hl => q _ _ _ h (same_new hl _) (dq_newT hd hl s2)⟩⟩
  | [.tuple ds], h, _, .cons r1 .nil =>
    obtain ⟨a, xs, e, s1, s2⟩ := r1.tup_inv
    subst e
    exact ⟨a, xs, rfl, .inr ⟨seqT hid_le s1, q _ _ _ h (Same.refl _) (.tup s1 s2)⟩⟩

/-! ### + of ints, lists, tuples, texts -/
def oAddA : Op2
  | .int i, .int j, Φ => Φ (.int (i + j))
  | .list a, .list b, Φ => a.length + b.length ≤ sizeLine ∧ Φ (.list (a ++ b))
  | .tuple a, .tuple b, Φ => a ≠ [] ∧ a.length + b.length ≤ sizeLine ∧ Φ (.tuple (a ++ b))
  | .str a, .str b, Φ => a.length + b.length ≤ sizeLine ∧ Φ (.str (a ++ b))
  | _, _, _ => False
theorem op_addA : OpR X (binaryOp .Add) (fun x y H Q => (rI0 (fun i j => .int (i + j)) x y H Q ∨ rCat x y H Q) ∨ (rCatT X.K x y H Q ∨ (∃ i j, x = .str i ∧ y = .str j ∧ i.length + j.length ≤ sizeLine ∧ Q (.str (i ++ j)) H))) :=
  (op_add.or op_cat).or (op_catT.or op_add_str)
theorem od_addA : OpD K (fun x y H Q => (rI0 (fun i j => .int (i + j)) x y H Q ∨ rCat x y H Q) ∨ (rCatT K x y H Q ∨ (∃ i j, x = .str i ∧ y = .str j ∧ i.length + j.length ≤ sizeLine ∧ Q (.str (i ++ j)) H))) oAddA := by
  intro hs H x y d e Φ Q hd r1 r2 h q
  match d, e, h with
  | .int i, .int j, h => exact .inl (.inl ⟨i, j, r1.int_inv, r2.int_inv, q _ _ _ h (Same.refl _) (.int _)⟩)
  | .list a, .list b, h =>
    obtain ⟨p, xs, e1, s1, s2⟩ := r1.lst_inv
    obtain ⟨p', ys, e2, s3, s4⟩ := r2.lst_inv
    exact .inl (.inr ⟨p, p', xs, ys, e1, e2, hid_le _ _ s1, hid_le _ _ s3, by rw [s2.len, s4.len]; exact h.1, fun l hl => q _ _ _ h.2 (same_new hl _) (dq_newL hd hl (s2.app s4))⟩)
  | .tuple a, .tuple b, h =>
    obtain ⟨p, xs, e1, s1, s2⟩ := r1.tup_inv
    obtain ⟨p', ys, e2, s3, s4⟩ := r2.tup_inv
    refine .inr (.inl ⟨p, p', xs, ys, e1, e2, seqT hid_le s1, seqT hid_le s3, fun z => h.1 ?_, by rw [s2.len, s4.len]; exact h.2.1, fun z => ?_, fun _ l hl => q _ _ _ h.2.2 (same_new hl _) (dq_newT hd hl (s2.app s4))⟩)
    · subst z; cases s2; rfl
    · subst z
      cases s4
      refine q _ _ _ h.2.2 (Same.refl _) ?_
      rw [List.append_nil]; exact .tup s1 s2
  | .str a, .str b, h => exact .inr (.inr ⟨a, b, r1.str_inv, r2.str_inv, h.1, q _ _ _ h.2 (Same.refl _) (.str _)⟩)
theorem d_addA {a b : Expr} {wa wb : WE} (h1 : DE X a wa) (h2 : DE X b wb) : DE X (.BinOp a .Add b pos) (w2 oAddA wa wb) := d_op op_addA od_addA h1 h2

/-! ### x[i], x[i:j] -/
def oIxA : Op2
  | .list ds, .int i, Φ => ∃ f, atI ds i = some f ∧ Φ f
  | .tuple ds, .int i, Φ => ∃ f, atI ds i = some f ∧ Φ f
  | .str z, .int i, Φ => ∃ c, z.length ≤ sizeLine ∧ atI z.cps.toList i = some c ∧ Φ (.str ⟨#[c]⟩)
  | _, _, _ => False
theorem od_ixA : OpD K (rIx K) oIxA := by
  intro hs H x y d e Φ Q _ r1 r2 h q
  match d, e, h with
  | .list ds, .int i, ⟨f, h2, h⟩ =>
    obtain ⟨p, xs, rfl, s1, s2⟩ := r1.lst_inv
    obtain ⟨v, h3, h4⟩ := atI_dp s2 h2
    exact .inl ⟨p, xs, i, v, rfl, r2.int_inv, SqL.of (hid_le _ _ s1), h3, q _ _ _ h (Same.refl _) h4⟩
  | .tuple ds, .int i, ⟨f, h2, h⟩ =>
    obtain ⟨p, xs, rfl, s1, s2⟩ := r1.tup_inv
    obtain ⟨v, h3, h4⟩ := atI_dp s2 h2
    exact .inr (.inl ⟨p, xs, i, v, rfl, r2.int_inv, seqT hid_le s1, h3, q _ _ _ h (Same.refl _) h4⟩)
  | .str z, .int i, ⟨c, h1, h2, h⟩ => exact .inr (.inr ⟨z, i, c, r1.str_inv, r2.int_inv, h1, h2, q _ _ _ h (Same.refl _) (.str _)⟩)
theorem d_ix {a b : Expr} {wa wb : WE} (h1 : DE X a wa) (h2 : DE X b wb) (hs : PlainIx b) : DE X (.Subscript a b pos) (w2 oIxA wa wb) := by
  obtain ⟨ta, p1, s1⟩ := h1.ex
  obtain ⟨tb, p2, s2⟩ := h2.ex
  exact ⟨_, pe_ix ix_seq p1 p2 hs, snd2 od_ixA s1 s2⟩
abbrev WO := Env → Bag → (Option Int → Bag → Prop) → Prop
structure DO (X : Cx) (e : Option Expr) (w : WO) : Prop where
  ex : ∃ t, PO X e t ∧ ∀ (c : Fr) (ρ : Env) (b : Bag) (σ : St) (H : Hp) (Φ : Option Int → Bag → Prop) (Q : Option Int → Hp → Prop), En X.K c ρ b σ H → w ρ b Φ →
    (∀ k b' H', Φ k b' → En X.K c ρ b' σ H' → Gr (c.hs ρ) H H' → Q k H') → t σ H Q
def wPn : WO := fun _ b Φ => Φ none b
def wPs (w : WE) : WO := fun ρ b Φ => w ρ b fun d b1 => ∃ i, d = .int i ∧ Φ (some i) b1
theorem o_none : DO X none wPn := ⟨_, po_none, fun c ρ b σ H Φ Q I h q => q _ _ _ h I (Gr.refl _ _)⟩
theorem o_some {w : WE} (h : DE X e w) : DO X (some e) (wPs w) := by
  obtain ⟨t, p, s⟩ := h.ex
  refine ⟨_, po_some p, fun c ρ b σ H Φ Q I h q => ?_⟩
  refine s c ρ b σ H _ _ I h fun d b1 v H1 ⟨i, e, h1⟩ I1 g1 r1 => ?_
  subst e
  exact ⟨i, r1.int_inv, q _ _ _ h1 I1 g1⟩
def cutD {α : Type} (xs : List α) (lo hi : Option Int) : List α := (xs.drop (HT.sIx xs.length 0 lo)).take (HT.sIx xs.length xs.length hi - HT.sIx xs.length 0 lo)
def oSl (lo hi : Option Int) : D → (D → Prop) → Prop
  | .list ds, Φ => Φ (.list (cutD ds lo hi))
  | .tuple ds, Φ => ¬ (HT.sIx ds.length 0 lo = 0 ∧ HT.sIx ds.length ds.length hi = ds.length) ∧ Φ (.tuple (cutD ds lo hi))
  | .str z, Φ => z.length ≤ sizeLine ∧ Φ (.str (cutS z lo hi))
  | _, _ => False
def wSl (w : WE) (lo hi : WO) : WE := fun ρ b Φ => w ρ b fun d b1 => lo ρ b1 fun l b2 => hi ρ b2 fun u b3 => oSl l u d fun f => Φ f b3
theorem DqAll.cut {H : Hp} {vs : List V} {ds : List D} {lo hi : Option Int} (r : DqAll K H vs ds) : DqAll K H (cutV vs lo hi) (cutD ds lo hi) := by
  unfold cutV cutD
  rw [r.len]
  exact (r.drop _).take _
theorem sl_any : SlR X (fun x lo hi H Q => rSlL X.K x lo hi H Q ∨ (rSlT X.K x lo hi H Q ∨ rSlS x lo hi H Q)) := sl_list.or (sl_tup.or sl_str)
theorem d_slice {a : Expr} {lo hi : Option Expr} {w : WE} {wl wh : WO} {p2 : Pos} (h : DE X a w) (hl : DO X lo wl) (hh : DO X hi wh) : DE X (.Subscript a (.Slice lo hi none p2) pos) (wSl w wl wh) := by
  obtain ⟨ta, p1, s1⟩ := h.ex
  obtain ⟨tl, p2, s2⟩ := hl.ex
  obtain ⟨th, p3, s3⟩ := hh.ex
  refine ⟨_, pe_slice sl_any p1 p2 p3, fun c ρ b σ H Φ Q I h q => ?_⟩
  refine s1 c ρ b σ H _ _ I h fun d b1 v H1 h1 I1 g1 r1 => ?_
  refine s2 c ρ b1 σ H1 _ _ I1 h1 fun l b2 H2 h2 I2 g2 => ?_
  refine s3 c ρ b2 σ H2 _ _ I2 h2 fun u b3 H3 h3 I3 g3 => ?_
  have r3 := dp_mono g3 (dp_mono g2 r1)
  have gg := g1.trans (g2.trans g3)
  match d, h3, r3 with
  | .list ds, h3, r3 =>
    obtain ⟨p, xs, e1, s1, s2⟩ := r3.lst_inv
    exact .inl ⟨p, xs, e1, SqL.of (hid_le _ _ s1), fun l hl => q _ _ _ _ h3 (I3.grow (same_new hl _)) (gg.trans (Gr.of (same_new hl _))) (dq_newL I3.dom hl s2.cut)⟩
  | .tuple ds, h3, r3 =>
    obtain ⟨p, xs, e1, s1, s2⟩ := r3.tup_inv
    exact .inr (.inl ⟨p, xs, e1, seqT hid_le s1, by rw [s2.len]; exact h3.1, fun l hl => q _ _ _ _ h3.2 (I3.grow (same_new hl _)) (gg.trans (Gr.of (same_new hl _))) (dq_newT I3.dom hl s2.cut)⟩)
  | .str z, h3, r3 => exact .inr (.inr ⟨z, r3.str_inv, h3.1, q _ _ _ _ h3.2 I3 gg (.str _)⟩)

/-! ### in, not in; is None -/
def oIn (neg : Bool) : Op2 := fun d e Φ => ∃ ds, e = .list ds ∧ SeqAt.shaped d = true ∧ SeqAt.shaped (.list ds) = true ∧ Φ (.bool (if neg then !(ds.any fun z => PyData.eqv z d) else ds.any fun z => PyData.eqv z d))
theorem od_in : OpD K (rInD K) (oIn false) := fun hs H x y d e Φ Q _ r1 r2 ⟨ds, e2, h1, h2, h⟩ q => by
  subst e2
  exact ⟨d, ds, (dp_mono hid_le r1).dp (noDict_shaped h1), (dp_mono hid_le r2).dp (noDict_shaped h2), h1, h2, q _ _ _ h (Same.refl _) (.bl _)⟩
theorem od_notIn : OpD K (rNotInD K) (oIn true) := fun hs H x y d e Φ Q _ r1 r2 ⟨ds, e2, h1, h2, h⟩ q => by
  subst e2
  exact ⟨d, ds, (dp_mono hid_le r1).dp (noDict_shaped h1), (dp_mono hid_le r2).dp (noDict_shaped h2), h1, h2, q _ _ _ h (Same.refl _) (.bl _)⟩
section
variable {a b : Expr} {wa wb : WE}
theorem d_in (hu : X.A.units + 65 < cLine) (h1 : DE X a wa) (h2 : DE X b wb) (hm : behindInMarks .In b = false := by rfl) : DE X (.Compare a [.In] [b] pos) (w2 (oIn false) wa wb) := d_cmp (op_inD hu) od_in h1 h2 hm
theorem t_in (hu : X.A.units + 65 < cLine) (h1 : DE X a wa) (h2 : DE X b wb) (hm : behindInMarks .In b = false := by rfl) : DT X (.Compare a [.In] [b] pos) (wB (w2 (oIn false) wa wb)) := t_cmp (op_inD hu) od_in h1 h2 hm
theorem d_notIn (hu : X.A.units + 65 < cLine) (h1 : DE X a wa) (h2 : DE X b wb) (hm : behindInMarks .NotIn b = false := by rfl) : DE X (.Compare a [.NotIn] [b] pos) (w2 (oIn true) wa wb) := d_cmp (op_notInD hu) od_notIn h1 h2 hm
theorem t_notIn (hu : X.A.units + 65 < cLine) (h1 : DE X a wa) (h2 : DE X b wb) (hm : behindInMarks .NotIn b = false := by rfl) : DT X (.Compare a [.NotIn] [b] pos) (wB (w2 (oIn true) wa wb)) := t_cmp (op_notInD hu) od_notIn h1 h2 hm
end
end
end DL

/-! DL9: own lists changed and lent; x += e; isinstance; texts; stars; repr. -/
namespace DL
open PySem L2

section
variable {X : Cx} {K : PySem.W.Frag} {pos p : Pos} {e a b : Expr} {es : List Expr}

/-! ### own lists change -/
/-- f of the receiver's items and the arguments -/
abbrev OpM := List D → List D → (List D → D → Prop) → Prop
def MtD (K : PySem.W.Frag) (r : V → List V → Hp → VK → Prop) (o : OpM) : Prop := ∀ (hs : List Addr) (H : Hp) (l : Addr) (xs vs : List V) (ds es : List D) (Φ : List D → D → Prop) (Q : VK), (∀ a ∈ hs, H a ≠ none) → H l = some (.lst xs) → DqAll K (hid hs H) xs ds → DqAll K (hid hs H) vs es → o ds es Φ →
  (∀ ys ds' v d, Φ ds' d → DqAll K (hid hs H) ys ds' → Dq K (hid hs H) v d → Q v (upd H l (.lst ys))) → r (.ref l) vs H Q
def sMt (i : Nat) (o : OpM) (wa : WA) : WS := fun ρ b Φ => ∃ p ds, ρ[i]? = some (.own p (.list ds)) ∧ wa ρ b fun es b1 => o ds es fun ds' _ => Φ (.nx (ρ.set i (.own p (.list ds'))) b1)
theorem s_mt (i : Nat) {x name : Str} {id : String} {r : V → List V → Hp → VK → Prop} {o : OpM} {wa : WA} {apos cpos xp : Pos} (hm : MtR X id r) (ho : MtD X.K r o) (slot : Slot "list" name id) (hty : typeOf (.builtin id) = pure (.type "method_descriptor")) (hN : X.N[i]? = some x) (hv : Vis X.env.scope x) (ha : DA X (e :: es) wa)
    (hd : (x == ("__debug__" : Str)) = false := by decide) (hcd : (x == ("__classdict__" : Str)) = false := by decide)
    (hbase : attributeBase (.Name x xp) name X.env (eval (.Name x xp) X.env) = eval (.Name x xp) X.env := by rfl)
    (hfew : ((backTo cpos (starEach (e :: es) X.env)).all (fun x => !x.1) && (backToKw cpos (keywordEach [] X.env)).all (fun x => x.1.isSome)
      && decide ((e :: es).length + ([] : List Keyword).length + (if ([] : List Keyword).isEmpty then 0 else 1) < 30)) = true := by rfl)
    (hline : (apos.endLine == cpos.line) = true := by rfl) (hs : starEach (e :: es) X.env = (false, eval e X.env) :: starEach es X.env := by rfl) (hplain : (backTo cpos (starEach es X.env)).any (·.1) = false := by rfl)
    (hsw : swapsWith (.Call (.Attribute (.Name x xp) name apos) (e :: es) [] cpos) none pos.line X.env = pure false := by rfl) : DS X (.Expr (.Call (.Attribute (.Name x xp) name apos) (e :: es) [] cpos) pos) (sMt i o wa) := by
  obtain ⟨ta, p1, s1⟩ := ha.ex
  refine ⟨_, ps_expr (pe_bm PySem.F.plainAttrs_list slot hty hm (pe_var hN hv hd hcd) p1 hbase hfew hline hs hplain) hsw, fun c ρ b σ H B Φ E I hB ⟨l, ds, hi, h⟩ q => ?_⟩
  obtain ⟨o, h1, h2, ho1, h3, r3⟩ := I.sl i _ hi
  obtain ⟨vs, rfl, r3'⟩ := r3.list_inv
  refine ⟨.ref l, by rw [h1, h2], .inl ⟨rfl, vs, SqL.of h3⟩, ?_⟩
  refine s1 c ρ b σ H _ _ I h fun es b1 ws H1 h1 I1 g1 r1 => ?_
  obtain ⟨_, _, _, ho2, h5, r5⟩ := I1.sl i _ hi
  obtain ⟨xs, rfl, r5'⟩ := r5.list_inv
  refine ho (c.hs ρ) H1 l xs ws ds es _ _ I1.dom h5 r5' r1 h1 fun ys ds' v d h6 r6 _ => ?_
  obtain ⟨I2, e2, e3⟩ := I1.updO hi (.lst r6)
  exact q.nx _ _ _ _ h6 I2 (by rw [e2, e3]; exact hB.trans g1)
/-- .. in the last place of an expression: x.pop() as a statement -/
theorem s_mt0 (i : Nat) {x name : Str} {id : String} {r : V → List V → Hp → VK → Prop} {o : OpM} {apos cpos xp : Pos} (hm : MtR X id r) (ho : MtD X.K r o) (slot : Slot "list" name id) (hty : typeOf (.builtin id) = pure (.type "method_descriptor")) (hN : X.N[i]? = some x) (hv : Vis X.env.scope x)
    (hd : (x == ("__debug__" : Str)) = false := by decide) (hcd : (x == ("__classdict__" : Str)) = false := by decide)
    (hbase : attributeBase (.Name x xp) name X.env (eval (.Name x xp) X.env) = eval (.Name x xp) X.env := by rfl) (hline : (apos.endLine == cpos.line) = true := by rfl)
    (hsw : swapsWith (.Call (.Attribute (.Name x xp) name apos) [] [] cpos) none pos.line X.env = pure false := by rfl) : DS X (.Expr (.Call (.Attribute (.Name x xp) name apos) [] [] cpos) pos) (sMt i o wNil) := by
  refine ⟨_, ps_expr (pe_bm0 PySem.F.plainAttrs_list slot hty hm (pe_var hN hv hd hcd) hbase hline) hsw, fun c ρ b σ H B Φ E I hB ⟨l, ds, hi, h⟩ q => ?_⟩
  obtain ⟨o, h1, h2, ho1, h3, r3⟩ := I.sl i _ hi
  obtain ⟨vs, rfl, r3'⟩ := r3.list_inv
  refine ⟨.ref l, by rw [h1, h2], .inl ⟨rfl, vs, SqL.of h3⟩, ?_⟩
  refine ho (c.hs ρ) H l vs [] ds [] _ _ I.dom h3 r3' .nil h fun ys ds' v d h6 r6 _ => ?_
  obtain ⟨I2, e2, e3⟩ := I.updO hi (.lst r6)
  exact q.nx _ _ _ _ h6 I2 (by rw [e2, e3]; exact hB)
def mApp : OpM := fun ds es Φ => ∃ e, es = [e] ∧ ds.length < sizeLine ∧ Φ (ds ++ [e]) .none
theorem md_app : MtD K rAppend mApp := by
  intro hs H l xs vs ds es Φ Q hd h1 r1 r2 ⟨e, e1, hz, h⟩ q
  subst e1
  match vs, r2 with
  | [v], .cons r .nil => exact ⟨l, xs, v, rfl, rfl, h1, by rw [r1.len]; exact hz, q _ _ _ _ h (r1.app (.cons r .nil)) .non⟩
def mExt : OpM := fun ds es Φ => ∃ zs, es = [.list zs] ∧ ds.length + zs.length ≤ sizeLine ∧ Φ (ds ++ zs) .none
theorem md_ext : MtD K rExtend mExt := by
  intro hs H l xs vs ds es Φ Q hd h1 r1 r2 ⟨e, e1, hz, h⟩ q
  subst e1
  match vs, r2 with
  | [v], .cons r .nil =>
    obtain ⟨p, ys, rfl, s1, s2⟩ := r.lst_inv
    exact ⟨l, p, xs, ys, rfl, rfl, h1, hid_le _ _ s1, by rw [r1.len, s2.len]; exact hz, q _ _ _ _ h (r1.app s2) .non⟩
def mPop : OpM := fun ds es Φ => ∃ e, es = [] ∧ ds[ds.length - 1]? = some e ∧ Φ ds.dropLast e
theorem DqAll.dropLast {H : Hp} {vs : List V} {ds : List D} (r : DqAll K H vs ds) : DqAll K H vs.dropLast ds.dropLast := by
  rw [List.dropLast_eq_take, List.dropLast_eq_take, r.len]; exact r.take _
theorem md_pop : MtD K rPop mPop := by
  intro hs H l xs vs ds es Φ Q hd h1 r1 r2 ⟨e, e1, hz, h⟩ q
  subst e1
  cases r2
  obtain ⟨y, hy, ry⟩ := r1.get hz
  exact ⟨l, xs, y, rfl, rfl, h1, by rw [r1.len]; exact hy, q _ _ _ _ h (DqAll.dropLast r1) ry⟩
def rInsert : V → List V → Hp → VK → Prop := fun x vs H Q => ∃ (l : Addr) (xs : List V) (i : Int) (y : V), x = .ref l ∧ vs = [.int i, y] ∧ H l = some (.lst xs) ∧ xs.length < sizeLine ∧ 0 ≤ i ∧ i < 2 ^ 63 ∧
    Q .non (upd H l (.lst (xs.take i.toNat ++ [y] ++ xs.drop i.toNat)))
def mIns : OpM := fun ds es Φ => ∃ i e, es = [.int i, e] ∧ ds.length < sizeLine ∧ 0 ≤ i ∧ i < 2 ^ 63 ∧ Φ (ds.take i.toNat ++ [e] ++ ds.drop i.toNat) .none
theorem md_ins : MtD K rInsert mIns := by
  intro hs H l xs vs ds es Φ Q hd h1 r1 r2 ⟨i, e, e1, hz, l1, l2, h⟩ q
  subst e1
  match vs, r2 with
  | [v, u], .cons r (.cons r' .nil) => rw [r.int_inv]; exact ⟨l, xs, i, u, rfl, rfl, h1, by rw [r1.len]; exact hz, l1, l2, q _ _ _ _ h (((r1.take _).app (.cons r' .nil)).app (r1.drop _)) .non⟩
theorem s_append (i : Nat) {x : Str} {wa : WA} {apos cpos xp : Pos} (hN : X.N[i]? = some x) (hv : Vis X.env.scope x) (ha : DA X [e] wa)
    (hd : (x == ("__debug__" : Str)) = false := by decide) (hcd : (x == ("__classdict__" : Str)) = false := by decide)
    (hbase : attributeBase (.Name x xp) "append" X.env (eval (.Name x xp) X.env) = eval (.Name x xp) X.env := by rfl)
    (hline : (apos.endLine == cpos.line) = true := by rfl) (hs : starEach [e] X.env = (false, eval e X.env) :: starEach [] X.env := by rfl)
    (hfew : ((backTo cpos (starEach [e] X.env)).all (fun x => !x.1) && (backToKw cpos (keywordEach [] X.env)).all (fun x => x.1.isSome)
      && decide (([e] : List Expr).length + ([] : List Keyword).length + (if ([] : List Keyword).isEmpty then 0 else 1) < 30)) = true := by rfl)
    (hsw : swapsWith (.Call (.Attribute (.Name x xp) "append" apos) [e] [] cpos) none pos.line X.env = pure false := by rfl) : DS X (.Expr (.Call (.Attribute (.Name x xp) "append" apos) [e] [] cpos) pos) (sMt i mApp wa) :=
  s_mt i mt_append md_app PySem.F.slot_list_append PySem.F.type_list_append hN hv ha hd hcd hbase hfew hline hs (by rfl) hsw
theorem s_extend (i : Nat) {x : Str} {wa : WA} {apos cpos xp : Pos} (hN : X.N[i]? = some x) (hv : Vis X.env.scope x) (ha : DA X [e] wa)
    (hd : (x == ("__debug__" : Str)) = false := by decide) (hcd : (x == ("__classdict__" : Str)) = false := by decide)
    (hbase : attributeBase (.Name x xp) "extend" X.env (eval (.Name x xp) X.env) = eval (.Name x xp) X.env := by rfl)
    (hline : (apos.endLine == cpos.line) = true := by rfl) (hs : starEach [e] X.env = (false, eval e X.env) :: starEach [] X.env := by rfl)
    (hfew : ((backTo cpos (starEach [e] X.env)).all (fun x => !x.1) && (backToKw cpos (keywordEach [] X.env)).all (fun x => x.1.isSome)
      && decide (([e] : List Expr).length + ([] : List Keyword).length + (if ([] : List Keyword).isEmpty then 0 else 1) < 30)) = true := by rfl)
    (hsw : swapsWith (.Call (.Attribute (.Name x xp) "extend" apos) [e] [] cpos) none pos.line X.env = pure false := by rfl) : DS X (.Expr (.Call (.Attribute (.Name x xp) "extend" apos) [e] [] cpos) pos) (sMt i mExt wa) :=
  s_mt i mt_extend md_ext PySem.F.slot_list_extend PySem.F.type_list_extend hN hv ha hd hcd hbase hfew hline hs (by rfl) hsw
theorem s_insert (i : Nat) {x : Str} {wa : WA} {apos cpos xp : Pos} (hN : X.N[i]? = some x) (hv : Vis X.env.scope x) (ha : DA X [e, a] wa)
    (hd : (x == ("__debug__" : Str)) = false := by decide) (hcd : (x == ("__classdict__" : Str)) = false := by decide)
    (hbase : attributeBase (.Name x xp) "insert" X.env (eval (.Name x xp) X.env) = eval (.Name x xp) X.env := by rfl)
    (hline : (apos.endLine == cpos.line) = true := by rfl) (hs : starEach [e, a] X.env = (false, eval e X.env) :: starEach [a] X.env := by rfl)
    (hfew : ((backTo cpos (starEach [e, a] X.env)).all (fun x => !x.1) && (backToKw cpos (keywordEach [] X.env)).all (fun x => x.1.isSome)
      && decide (([e, a] : List Expr).length + ([] : List Keyword).length + (if ([] : List Keyword).isEmpty then 0 else 1) < 30)) = true := by rfl)
    (hplain : (backTo cpos (starEach [a] X.env)).any (·.1) = false := by rfl)
    (hsw : swapsWith (.Call (.Attribute (.Name x xp) "insert" apos) [e, a] [] cpos) none pos.line X.env = pure false := by rfl) : DS X (.Expr (.Call (.Attribute (.Name x xp) "insert" apos) [e, a] [] cpos) pos) (sMt i mIns wa) :=
  s_mt i (r := rInsert) mt_insert md_ins PySem.F.slot_list_insert PySem.F.type_list_insert hN hv ha hd hcd hbase hfew hline hs hplain hsw
theorem s_pop (i : Nat) {x : Str} {apos cpos xp : Pos} (hN : X.N[i]? = some x) (hv : Vis X.env.scope x)
    (hd : (x == ("__debug__" : Str)) = false := by decide) (hcd : (x == ("__classdict__" : Str)) = false := by decide)
    (hbase : attributeBase (.Name x xp) "pop" X.env (eval (.Name x xp) X.env) = eval (.Name x xp) X.env := by rfl) (hline : (apos.endLine == cpos.line) = true := by rfl)
    (hsw : swapsWith (.Call (.Attribute (.Name x xp) "pop" apos) [] [] cpos) none pos.line X.env = pure false := by rfl) : DS X (.Expr (.Call (.Attribute (.Name x xp) "pop" apos) [] [] cpos) pos) (sMt i mPop wNil) :=
  s_mt0 i mt_pop md_pop PySem.F.slot_list_pop PySem.F.type_list_pop hN hv hd hcd hbase hline hsw

/-! ### own lists lent: what is told of them is a number, a truth -/
def bare (ρ : Env) : Env := ρ.map fun s => match s with | .own _ _ => .no | .bag => .no | s => s
theorem adr_bare : ∀ ρ : Env, adr (bare ρ) = []
  | [] => rfl
  | .no :: r => adr_bare r
  | .dat _ :: r => adr_bare r
  | .own _ _ :: r => adr_bare r
  | .bag :: r => adr_bare r
  | .fn _ :: r => adr_bare r
def flat : D → Bool
  | .list _ => false
  | .tuple _ => false
  | .dict _ => false
  | _ => true
theorem dq_flat {H H' : Hp} {v : V} {d : D} (r : Dq K H v d) (h : flat d = true) : Dq K H' v d := by
  cases r with
  | non => exact .non
  | bl b => exact .bl b
  | int i => exact .int i
  | str x => exact .str x
  | lst _ _ => cases h
  | tup _ _ => cases h
  | dic _ _ _ => cases h
def isNone : D → Bool
  | .none => true
  | _ => false
/-- the frame in which the own list at i is data and all stays -/
theorem En.lend {c : Fr} {ρ : Env} {b : Bag} {σ : St} {H : Hp} {i : Nat} {l : Addr} {ds : List D} (I : En K c ρ b σ H) (hi : ρ[i]? = some (.own l (.list ds))) :
    ∃ O, En K ⟨H, O, none⟩ ((bare ρ).set i (.dat (.list ds))) b σ H := by
  refine ⟨(c.hs ρ).filter (· ≠ l), ?_⟩
  have hadr : adr ((bare ρ).set i (.dat (.list ds))) = [] := by
    have hlt : i < (bare ρ).length := by unfold bare; rw [List.length_map]; exact (List.getElem?_eq_some_iff.mp hi).1
    obtain ⟨s, hs⟩ := lt_get hlt
    obtain ⟨x, y, e1, e2⟩ := adr_set hs (.dat (.list ds))
    rw [adr_bare] at e1
    rw [e2]
    have : x = [] ∧ adr1 s = [] ∧ y = [] := by simpa [List.append_eq_nil_iff, and_assoc] using e1.symm
    simp [this.1, this.2.2, adr1]
  have hhs : (Fr.mk H ((c.hs ρ).filter (· ≠ l)) none).hs ((bare ρ).set i (.dat (.list ds))) = (c.hs ρ).filter (· ≠ l) := by
    unfold Fr.hs Fr.hb; rw [hadr]; simp
  have sub : ∀ a ∈ (c.hs ρ).filter (· ≠ l), a ∈ c.hs ρ := fun a ha => (List.mem_filter.mp ha).1
  have hlt : i < ρ.length := (List.getElem?_eq_some_iff.mp hi).1
  have hl : l ∉ (c.hs ρ).filter (· ≠ l) := by simp
  refine ⟨Same.refl _, by rw [List.length_set]; unfold bare; rw [List.length_map]; exact I.len, fun j s h => ?_, by rw [hhs]; exact I.nd.sublist List.filter_sublist, fun a ha => I.dom a (sub a (by rw [hhs] at ha; exact ha)), fun a ha => ?_, fun p hp => by cases hp⟩
  · rw [hhs]
    by_cases hj : i = j
    · subst hj
      rw [List.getElem?_set_self (by unfold bare; rw [List.length_map]; exact hlt)] at h
      cases h
      obtain ⟨o, h1, h2, ho, h3, h4⟩ := I.sl i _ hi
      exact ⟨o, h1, .ref l, h2, (h4.mono (hid_sub sub)).dq (by rw [hid_out hl]; exact h3)⟩
    · rw [List.getElem?_set_ne hj] at h
      unfold bare at h
      rw [List.getElem?_map] at h
      cases e1 : ρ[j]? with
      | none => rw [e1] at h; cases h
      | some s0 =>
        rw [e1] at h
        obtain ⟨o, h1, h2⟩ := I.sl j s0 e1
        refine ⟨o, h1, ?_⟩
        have h := Option.some.inj h
        cases s0 with
        | no => subst h; trivial
        | dat d => subst h; obtain ⟨v, e2, r⟩ := h2; exact ⟨v, e2, dp_mono (hid_sub sub) r⟩
        | own _ _ => subst h; trivial
        | bag => subst h; trivial
        | fn f => subst h; exact h2
  · rw [hadr] at ha; simp at ha
def wLend (i : Nat) (w : WE) : WE := fun ρ b Φ => ∃ p ds, ρ[i]? = some (.own p (.list ds)) ∧ w ((bare ρ).set i (.dat (.list ds))) b fun d _ => flat d = true ∧ Φ d b
def wLendT (i : Nat) (w : WT) : WT := fun ρ b Φ => ∃ p ds, ρ[i]? = some (.own p (.list ds)) ∧ w ((bare ρ).set i (.dat (.list ds))) b fun k _ => Φ k b
theorem d_lend (i : Nat) {w : WE} (h : DE X e w) : DE X e (wLend i w) := by
  obtain ⟨te, p1, s1⟩ := h.ex
  refine ⟨_, p1, fun c ρ b σ H Φ Q I ⟨l, ds, hi, h⟩ q => ?_⟩
  obtain ⟨O, I0⟩ := I.lend hi
  refine s1 _ _ b σ H _ _ I0 h fun d b1 v H1 ⟨hf, h1⟩ I1 _ r1 => ?_
  exact q _ _ _ _ h1 (I.grow I1.same) (Gr.of I1.same) (dq_flat r1 hf)
theorem t_lend (i : Nat) {w : WT} (h : DT X e w) : DT X e (wLendT i w) := by
  obtain ⟨te, p1, s1⟩ := h.ex
  refine ⟨_, p1, fun c ρ b σ H Φ Q I ⟨l, ds, hi, h⟩ q => ?_⟩
  obtain ⟨O, I0⟩ := I.lend hi
  refine s1 _ _ b σ H _ _ I0 h fun d b1 H1 h1 I1 _ => ?_
  exact q _ _ _ h1 (I.grow I1.same) (Gr.of I1.same)

/-! ### x += e (ints) -/
def sAug (i : Nat) (w : WE) : WS := fun ρ b Φ => ∃ m, ρ[i]? = some (.dat (.int m)) ∧ w ρ b fun d b1 => ∃ n, d = .int n ∧ Φ (.nx (ρ.set i (.dat (.int (m + n)))) b1)
theorem s_aug (i : Nat) {x : Str} {w : WE} {pos' : Pos} (hN : X.N.Nodup) (hi : X.N[i]? = some x) (hx : Loc X.env.scope x) (hf : X.fn x = true ∨ X.env.scope.names.lookup x = some .local) (he : DE X e w) : DS X (.AugAssign (.Name x pos') .Add e pos) (sAug i w) := by
  obtain ⟨te, p1, s1⟩ := he.ex
  refine ⟨_, ps_aug hN hi hx p1 ip_add hf, fun c ρ b σ H B Φ E I hB ⟨m, hm, h⟩ q => ?_⟩
  obtain ⟨v, h1, h2⟩ := I.get hm
  rw [h2.int_inv] at h1
  refine ⟨_, h1, s1 c ρ b σ H _ _ I h fun d b1 v1 H1 ⟨n, e, h1⟩ I1 g1 r1 => ?_⟩
  subst e
  refine ⟨m, n, rfl, r1.int_inv, ?_⟩
  obtain ⟨I2, sub⟩ := I1.setD (i := i) (v := .int (m + n)) (d := .int (m + n)) (List.getElem?_eq_some_iff.mp hm).1 (.int _)
  exact q.nx _ _ _ _ h1 I2 (hB.trans (Same.trans g1 (hid_sub sub)))
/-! ### is None -/
def wIsN (w : WE) : WE := fun ρ b Φ => w ρ b fun d b1 => Φ (.bool (isNone d)) b1
def wNotN (w : WE) : WE := fun ρ b Φ => w ρ b fun d b1 => Φ (.bool (!isNone d)) b1
theorem isN_dec {H : Hp} {v : V} {d : D} (r : Dq K H v d) : decide (v = .non) = isNone d := by cases r <;> rfl
theorem d_isN {w : WE} {k} {pos' : Pos} (h : DE X a w) : DE X (.Compare a [.Is] [.Constant .none k pos'] pos) (wIsN w) := by
  obtain ⟨te, p1, s1⟩ := h.ex
  refine ⟨_, pe_cmpR op_isN1 p1 pe_non (nomark _), fun c ρ b σ H Φ Q I h q => ?_⟩
  refine s1 c ρ b σ H _ _ I h fun d b1 v H1 h1 I1 g1 r1 => ⟨rfl, ?_⟩
  rw [isN_dec r1]
  exact q _ _ _ _ h1 I1 g1 (.bl _)
theorem d_notN {w : WE} {k} {pos' : Pos} (h : DE X a w) : DE X (.Compare a [.IsNot] [.Constant .none k pos'] pos) (wNotN w) := by
  obtain ⟨te, p1, s1⟩ := h.ex
  refine ⟨_, pe_cmpR op_notN1 p1 pe_non (nomark _), fun c ρ b σ H Φ Q I h q => ?_⟩
  refine s1 c ρ b σ H _ _ I h fun d b1 v H1 h1 I1 g1 r1 => ⟨rfl, ?_⟩
  rw [isN_dec r1]
  exact q _ _ _ _ h1 I1 g1 (.bl _)
theorem t_isN {w : WE} {k} {pos' : Pos} (h : DE X a w) : DT X (.Compare a [.Is] [.Constant .none k pos'] pos) (wB (wIsN w)) := by
  obtain ⟨te, p1, s1⟩ := h.ex
  refine ⟨_, pt_cmpR op_isN1 p1 pe_non (nomark _), fun c ρ b σ H Φ Q I h q => ?_⟩
  refine s1 c ρ b σ H _ _ I h fun d b1 v H1 ⟨z, e, h1⟩ I1 g1 r1 => ⟨rfl, ?_⟩
  rw [isN_dec r1]
  cases e
  exact ⟨_, rfl, q _ _ _ h1 I1 g1⟩
theorem t_notN {w : WE} {k} {pos' : Pos} (h : DE X a w) : DT X (.Compare a [.IsNot] [.Constant .none k pos'] pos) (wB (wNotN w)) := by
  obtain ⟨te, p1, s1⟩ := h.ex
  refine ⟨_, pt_cmpR op_notN1 p1 pe_non (nomark _), fun c ρ b σ H Φ Q I h q => ?_⟩
  refine s1 c ρ b σ H _ _ I h fun d b1 v H1 ⟨z, e, h1⟩ I1 g1 r1 => ⟨rfl, ?_⟩
  rw [isN_dec r1]
  cases e
  exact ⟨_, rfl, q _ _ _ h1 I1 g1⟩
/-! ### a sign in a text -/
def oInS : Op2
  | .str c, .str z, Φ => ∃ n, c = ⟨#[n]⟩ ∧ Φ (.bool (decide (n ∈ z.cps.toList)))
  | _, _, _ => False
theorem od_inS : OpD K rInS oInS := by
  intro hs H x y d e Φ Q _ r1 r2 h q
  match d, e, h with
  | .str c, .str z, ⟨n, e1, h⟩ =>
    subst e1
    exact ⟨n, z, r1.str_inv, r2.str_inv, q _ _ _ h (Same.refl _) (.bl _)⟩
theorem d_inS {wa wb : WE} (h1 : DE X a wa) (h2 : DE X b wb) (hm : behindInMarks .In b = false := by rfl) : DE X (.Compare a [.In] [b] pos) (w2 oInS wa wb) := d_cmp op_inS od_inS h1 h2 hm
/-! ### [*a, *b] -/
def wStar (w : WE) (r : WA) : WA := fun ρ b Φ => w ρ b fun d b1 => itD d fun xs => r ρ b1 fun ds b2 => Φ (xs ++ ds) b2
theorem a_star {w : WE} {wa : WA} (h1 : DE X e w) (h2 : DA X es wa) (hs : starEach (.Starred e p :: es) X.env = (true, eval e X.env) :: starEach es X.env := by rfl) : DA X (.Starred e p :: es) (wStar w wa) := by
  obtain ⟨te, p1, s1⟩ := h1.ex
  obtain ⟨ta, p2, s2⟩ := h2.ex
  refine ⟨_, StX.pa_star p1 p2 hs, fun c ρ b σ H Φ Q I h q => ?_⟩
  refine s1 c ρ b σ H _ _ I h fun d b1 v H1 h1 I1 g1 r1 => ?_
  have fin : ∀ {xs : List V} {ds : List D}, DqAll X.K (hid (c.hs ρ) H1) xs ds → wa ρ b1 (fun es b2 => Φ (ds ++ es) b2) → ta σ H1 fun ys H2 => Q (xs ++ ys) H2 := fun {xs ds} r h => by
    refine s2 c ρ b1 σ H1 _ _ I1 h fun es b2 ws H2 h2 I2 g2 r2 => ?_
    exact q _ _ _ _ h2 I2 (g1.trans g2) ((dpAll_mono g2 r).app r2)
  match d, h1, r1 with
  | .list ds, h1, r1 =>
    obtain ⟨l, xs, e1, s1, s2⟩ := r1.lst_inv
    exact ⟨l, xs, e1, .inr (SqL.of (hid_le _ _ s1)), fin s2 h1⟩
  | .tuple ds, h1, r1 =>
    obtain ⟨l, xs, e1, s1, s2⟩ := r1.tup_inv
    exact ⟨l, xs, e1, .inl (seqT hid_le s1), fin s2 h1⟩
end
end DL

/-! DL10: isinstance, texts, repr of data. -/
namespace DL
open PySem L2
section
variable {X : Cx} {K : PySem.W.Frag} {pos p : Pos} {e a b : Expr} {es : List Expr}
/-- the type of data, by name -/
def tyN : D → String
  | .none => "NoneType"
  | .bool _ => "bool"
  | .int _ => "int"
  | .str _ => "str"
  | .list _ => "list"
  | .tuple _ => "tuple"
  | .dict _ => "dict"
def isDict : D → Bool
  | .dict _ => true
  | _ => false
theorem dq_ty {hs : List Addr} {H : Hp} {v : V} {d : D} (r : Dq K (hid hs H) v d) (hd : isDict d = false) : TyX K H v (.type (tyN d)) := by
  cases r with
  | non => exact .base .non
  | bl b => exact .base (.bl b)
  | int i => exact .base (.int i)
  | str x => exact .base (.str x)
  | lst q _ => exact .base (.lst (hid_le _ _ q))
  | tup q _ =>
    rcases seqT hid_le q with (h | ⟨o, h⟩) | ⟨o, its, n, h1, h2, _⟩
    · exact .base (.tup h)
    · exact .fTuple h
    · exact .kTuple h1 h2
  | dic _ _ _ => cases hd
/-- isinstance(e, T), T one of int, bool, tuple -/
def isT (T : String) (d : D) : Bool := tyN d == T || (T == "int" && tyN d == "bool")
theorem kit_isT (T : String) (hT : T = "int" ∨ T = "bool" ∨ T = "tuple") (d : D) : PySem.W.kitOne K (.type (tyN d)) (.type T) = some (isT T d) := by
  rcases hT with h | h | h <;> subst h <;> cases d <;> (first | rfl | (with_unfolding_all rfl))
def wIsT (T : String) (w : WE) : WE := fun ρ b Φ => w ρ b fun d b1 => isDict d = false ∧ Φ (.bool (isT T d)) b1
theorem d_isT {w : WE} {T : String} {x : Str} {p2 : Pos} (hT : T = "int" ∨ T = "bool" ∨ T = "tuple") (hx : bootBuiltins x = some (.type T)) (hg : Gl X "isinstance") (hm : X.mg "isinstance" = none) (hg2 : Gl X x) (hm2 : X.mg x = none) (h : DE X e w)
    (hn : x ≠ "__name__" := by decide) (hd : (x == ("__debug__" : Str)) = false := by decide)
    (h1 : starEach [e, .Name x p2] X.env = (false, eval e X.env) :: starEach [.Name x p2] X.env := by rfl) (h2 : starEach [.Name x p2] X.env = (false, eval (.Name x p2) X.env) :: starEach [] X.env := by rfl)
    (hpl : (backTo pos (starEach [.Name x p2] X.env)).any (·.1) = false := by rfl) :
    DE X (.Call (.Name "isinstance" p) [e, .Name x p2] [] pos) (wIsT T w) := by
  obtain ⟨te, p1, s1⟩ := h.ex
  refine ⟨_, pe_callB call_isi hg hm PyProof.Rows.boot_isinstance (pa_cons p1 (pa_cons (pe_bltn (v := .ty T) hg2 hm2 hx rfl hn hd) pa_nil h2) h1) (by decide) (by decide) h1 hpl, fun c ρ b σ H Φ Q I h q => ?_⟩
  refine s1 c ρ b σ H _ _ I h fun d b1 v H1 ⟨hnd, h1⟩ I1 g1 r1 => ?_
  exact ⟨v, .ty T, _, _, _, rfl, .ty T, dq_ty r1 hnd, kit_isT T hT d, q _ _ _ _ h1 I1 g1 (.bl _)⟩

/-! ### texts -/
def oSplit : Op2
  | .str a, .str b, Φ => (b.length == 0) = false ∧ a.length + 2 ≤ sizeLine ∧ Φ (.list ((Txt.split a b).map .str))
  | _, _, _ => False
def oJoin : Op2 := fun d e Φ => ∃ a ys, d = .str a ∧ e = .list (ys.map .str) ∧ (ys.map (·.length)).sum + ys.length * a.length ≤ 16777216 ∧ Φ (.str (Txt.join a ys))
theorem d_split {w u : WE} {apos cpos : Pos} (h1 : DE X e w) (h2 : DE X a u) (hbase : attributeBase e "split" X.env (eval e X.env) = eval e X.env := by rfl)
    (hfew : ((backTo cpos (starEach [a] X.env)).all (fun x => !x.1) && (backToKw cpos (keywordEach [] X.env)).all (fun x => x.1.isSome)
      && decide (([a] : List Expr).length + ([] : List Keyword).length + (if ([] : List Keyword).isEmpty then 0 else 1) < 30)) = true := by rfl)
    (hline : (apos.endLine == cpos.line) = true := by rfl) (hs : starEach [a] X.env = (false, eval a X.env) :: starEach [] X.env := by rfl) :
    DE X (.Call (.Attribute e "split" apos) [a] [] cpos) (fun ρ b Φ => w ρ b fun d b1 => ∃ x, d = .str x ∧ u ρ b1 fun f b2 => oSplit (.str x) f fun g => Φ g b2) := by
  obtain ⟨te, p1, s1⟩ := h1.ex
  obtain ⟨tu, p2, s2⟩ := h2.ex
  refine ⟨_, pe_bm PySem.F.plainAttrs_str PySem.F.slot_str_split PySem.F.type_str_split mt_split p1 (pa_cons p2 pa_nil hs) hbase hfew hline hs (by rfl), fun c ρ b σ H Φ Q I h q => ?_⟩
  refine s1 c ρ b σ H _ _ I h fun d b1 v H1 ⟨x, e, h1⟩ I1 g1 r1 => ?_
  subst e
  rw [r1.str_inv]
  refine ⟨rfl, s2 c ρ b1 σ H1 _ _ I1 h1 fun f b2 v2 H2 h2 I2 g2 r2 => ?_⟩
  match f, h2, r2 with
  | .str y, ⟨h3, h4, h5⟩, r2 =>
    rw [r2.str_inv]
    exact ⟨x, y, rfl, rfl, h3, h4, fun l hl => q _ _ _ _ h5 (I2.grow (same_new hl _)) (Gr.trans g1 (Gr.trans g2 (Gr.of (same_new hl _)))) (dq_newL I2.dom hl (DqAll.ofStrs _))⟩
theorem d_join {w u : WE} {apos cpos : Pos} (h1 : DE X e w) (h2 : DE X a u) (hbase : attributeBase e "join" X.env (eval e X.env) = eval e X.env := by rfl)
    (hfew : ((backTo cpos (starEach [a] X.env)).all (fun x => !x.1) && (backToKw cpos (keywordEach [] X.env)).all (fun x => x.1.isSome)
      && decide (([a] : List Expr).length + ([] : List Keyword).length + (if ([] : List Keyword).isEmpty then 0 else 1) < 30)) = true := by rfl)
    (hline : (apos.endLine == cpos.line) = true := by rfl) (hs : starEach [a] X.env = (false, eval a X.env) :: starEach [] X.env := by rfl) :
    DE X (.Call (.Attribute e "join" apos) [a] [] cpos) (fun ρ b Φ => w ρ b fun d b1 => ∃ x, d = .str x ∧ u ρ b1 fun f b2 => oJoin (.str x) f fun g => Φ g b2) := by
  obtain ⟨te, p1, s1⟩ := h1.ex
  obtain ⟨tu, p2, s2⟩ := h2.ex
  refine ⟨_, pe_bm PySem.F.plainAttrs_str PySem.F.slot_str_join PySem.F.type_str_join mt_join p1 (pa_cons p2 pa_nil hs) hbase hfew hline hs (by rfl), fun c ρ b σ H Φ Q I h q => ?_⟩
  refine s1 c ρ b σ H _ _ I h fun d b1 v H1 ⟨x, e, h1⟩ I1 g1 r1 => ?_
  subst e
  rw [r1.str_inv]
  refine ⟨rfl, s2 c ρ b1 σ H1 _ _ I1 h1 fun f b2 v2 H2 ⟨x', ys, e1, e2, hz, h5⟩ I2 g2 r2 => ?_⟩
  cases e1
  subst e2
  obtain ⟨l, xs, e3, s3, s4⟩ := r2.lst_inv
  subst e3
  rw [s4.strs] at s3
  exact ⟨x, l, ys, rfl, rfl, .inl (SqL.of (hid_le _ _ s3)), hz, q _ _ _ _ h5 I2 (Gr.trans g1 g2) (.str _)⟩

/-! ### repr -/
def rRepr (K : PySem.W.Frag) : List V → Hp → VK → Prop := fun vs H Q => ∃ (a : Addr) (d : D), vs = [.ref a] ∧ Dq K H (.ref a) d ∧ d.showable = true ∧ d.hasDict = false ∧ d.depth ≤ 64 ∧ d.shown.length ≤ sizeLine ∧ Q (.str d.shown) H
theorem cr_repr (hgd : X.A.guards = some []) (hu : X.A.units + 65 < cLine) : CallR X (.builtin "repr") (rRepr X.K) := by
  intro pins s σ H vs us Q I r ⟨a, d, e, rd, h1, h2, h3, h4, q⟩
  subst e
  rw [Vals.ref1 r]
  obtain ⟨as, rr⟩ := Dp.reads I d (.ref a) (.ref a) (rd.dp h2) rfl
  refine repr_of_reads' rr h1 (fun z => by rw [h2] at z; cases z) hgd (by omega) (fun _ _ z => z) (fun h' u tk hk => ?_) h4
  exact ⟨.str _, H, I.kept hk, ⟨_, rfl⟩, q⟩
def isSeq : D → Bool
  | .list _ => true
  | .tuple _ => true
  | _ => false
def oRepr : OpF := fun ds Φ => ∃ d, ds = [d] ∧ isSeq d = true ∧ d.showable = true ∧ d.hasDict = false ∧ d.depth ≤ 64 ∧ d.shown.length ≤ sizeLine ∧ Φ (.str d.shown)
theorem fd_repr : FnD K (rRepr K) oRepr := by
  intro hs H vs ds Φ Q _ r ⟨d, e, h0, h1, h2, h3, h4, h⟩ q
  subst e
  match vs, r with
  | [v], .cons r .nil =>
    have : ∃ a, v = .ref a := by
      cases r with
      | lst _ _ => exact ⟨_, rfl⟩
      | tup _ _ => exact ⟨_, rfl⟩
      | _ => cases h0
    obtain ⟨a, rfl⟩ := this
    exact ⟨a, d, rfl, dp_mono hid_le r, h1, h2, h3, h4, q _ _ _ h (Same.refl _) (.str _)⟩
end
end DL

/-! DL11: short words for printed bodies. -/
namespace DL
open PySem L2
section
variable {X : Cx} {K : PySem.W.Frag} {pos p : Pos} {e a b : Expr} {es : List Expr}
def CDivA (_ j : Int) : Prop := j ≠ 0 ∧ j.natAbs.log2 < 9000
theorem op_divA : OpR X (binaryOp .FloorDiv) (rI CDivA fun i j => .int (i.fdiv j)) := by
  intro pins s σ H x y v u Q I rx ry ⟨i, j, e1, e2, hc, q⟩
  subst e1 e2
  obtain ⟨t, rfl⟩ := rx
  obtain ⟨t', rfl⟩ := ry
  exact PyProof.Rows.floordiv_int hc.1 ⟨.int _, H, I.tok _, ⟨_, rfl⟩, q⟩ (.inl (PyProof.noPylong_of_log2 hc.2))
def oDivA : Op2
  | .int i, .int j, Φ => CDivA i j ∧ Φ (.int (i.fdiv j))
  | _, _, _ => False
def oSubA : Op2
  | .int i, .int j, Φ => Φ (.int (i - j))
  | _, _, _ => False
def oMulA : Op2
  | .int i, .int j, Φ => CMulW i j ∧ Φ (.int (i * j))
  | _, _, _ => False
def oModA : Op2
  | .int i, .int j, Φ => j ≠ 0 ∧ Φ (.int (i.fmod j))
  | _, _, _ => False
def oPowA : Op2
  | .int i, .int j, Φ => CPow i j ∧ Φ (.int (i ^ j.toNat))
  | _, _, _ => False
theorem od_A {C : Int → Int → Prop} {g : Int → Int → Int} {o : Op2} (h : ∀ d e Φ, o d e Φ → ∃ i j, d = .int i ∧ e = .int j ∧ C i j ∧ Φ (.int (g i j))) : OpD K (rI C fun i j => .int (g i j)) o := by
  intro hs H x y d e Φ Q _ r1 r2 ho q
  obtain ⟨i, j, e1, e2, hc, h1⟩ := h d e Φ ho
  subst e1 e2
  exact ⟨i, j, r1.int_inv, r2.int_inv, hc, q _ _ _ h1 (Same.refl _) (.int _)⟩
theorem od_A0 {g : Int → Int → Int} {o : Op2} (h : ∀ d e Φ, o d e Φ → ∃ i j, d = .int i ∧ e = .int j ∧ Φ (.int (g i j))) : OpD K (rI0 fun i j => .int (g i j)) o := by
  intro hs H x y d e Φ Q _ r1 r2 ho q
  obtain ⟨i, j, e1, e2, h1⟩ := h d e Φ ho
  subst e1 e2
  exact ⟨i, j, r1.int_inv, r2.int_inv, q _ _ _ h1 (Same.refl _) (.int _)⟩
section
variable {wa wb : WE}
theorem d_divA (h1 : DE X a wa) (h2 : DE X b wb) : DE X (.BinOp a .FloorDiv b pos) (w2 oDivA wa wb) := d_op op_divA (od_A fun d e Φ h => match d, e, h with | .int i, .int j, h => ⟨i, j, rfl, rfl, h⟩) h1 h2
theorem d_subA (h1 : DE X a wa) (h2 : DE X b wb) : DE X (.BinOp a .Sub b pos) (w2 oSubA wa wb) := d_op op_sub (od_A0 fun d e Φ h => match d, e, h with | .int i, .int j, h => ⟨i, j, rfl, rfl, h⟩) h1 h2
theorem d_mulA (h1 : DE X a wa) (h2 : DE X b wb) : DE X (.BinOp a .Mult b pos) (w2 oMulA wa wb) := d_op op_mulW (od_A fun d e Φ h => match d, e, h with | .int i, .int j, h => ⟨i, j, rfl, rfl, h⟩) h1 h2
theorem d_modA (h1 : DE X a wa) (h2 : DE X b wb) : DE X (.BinOp a .Mod b pos) (w2 oModA wa wb) := d_op op_modN (od_A fun d e Φ h => match d, e, h with | .int i, .int j, h => ⟨i, j, rfl, rfl, h⟩) h1 h2
theorem d_powA (h1 : DE X a wa) (h2 : DE X b wb) : DE X (.BinOp a .Pow b pos) (w2 oPowA wa wb) := d_op op_pow (od_A fun d e Φ h => match d, e, h with | .int i, .int j, h => ⟨i, j, rfl, rfl, h⟩) h1 h2
end
def wNeg (w : WE) : WE := fun ρ b Φ => w ρ b fun d b1 => ∃ i, d = .int i ∧ Φ (.int (-i)) b1
theorem d_neg {w : WE} (h : DE X a w) : DE X (.UnaryOp .USub a pos) (wNeg w) := by
  obtain ⟨te, p1, s1⟩ := h.ex
  refine ⟨_, pe_un un_neg p1, fun c ρ b σ H Φ Q I h q => ?_⟩
  refine s1 c ρ b σ H _ _ I h fun d b1 v H1 ⟨i, e, h1⟩ I1 g1 r1 => ?_
  subst e
  exact ⟨i, r1.int_inv, q _ _ _ _ h1 I1 g1 (.int _)⟩
/-- comparisons of ints, match style -/
def oCmp (f : Int → Int → Bool) : Op2
  | .int i, .int j, Φ => Φ (.bool (f i j))
  | _, _, _ => False
theorem od_cmp {f : Int → Int → Bool} : OpD K (rI0 fun i j => .bl (f i j)) (oCmp f) := by
  intro hs H x y d e Φ Q _ r1 r2 h q
  match d, e, h with
  | .int i, .int j, h => exact ⟨i, j, r1.int_inv, r2.int_inv, q _ _ _ h (Same.refl _) (.bl _)⟩
section
variable {wa wb : WE}
abbrev fLt : Int → Int → Bool := fun i j => decide (i < j)
abbrev fLe : Int → Int → Bool := fun i j => decide (i ≤ j)
abbrev fGt : Int → Int → Bool := fun i j => decide (j < i)
abbrev fGe : Int → Int → Bool := fun i j => decide (j ≤ i)
theorem dc_lt (h1 : DE X a wa) (h2 : DE X b wb) : DE X (.Compare a [.Lt] [b] pos) (w2 (oCmp fLt) wa wb) := d_cmp op_lt od_cmp h1 h2 (nomark _)
theorem dc_le (h1 : DE X a wa) (h2 : DE X b wb) : DE X (.Compare a [.LtE] [b] pos) (w2 (oCmp fLe) wa wb) := d_cmp op_le od_cmp h1 h2 (nomark _)
theorem dc_gt (h1 : DE X a wa) (h2 : DE X b wb) : DE X (.Compare a [.Gt] [b] pos) (w2 (oCmp fGt) wa wb) := d_cmp op_gt od_cmp h1 h2 (nomark _)
theorem dc_ge (h1 : DE X a wa) (h2 : DE X b wb) : DE X (.Compare a [.GtE] [b] pos) (w2 (oCmp fGe) wa wb) := d_cmp op_ge od_cmp h1 h2 (nomark _)
theorem tc_lt (h1 : DE X a wa) (h2 : DE X b wb) : DT X (.Compare a [.Lt] [b] pos) (wB (w2 (oCmp fLt) wa wb)) := t_cmp op_lt od_cmp h1 h2 (nomark _)
theorem tc_le (h1 : DE X a wa) (h2 : DE X b wb) : DT X (.Compare a [.LtE] [b] pos) (wB (w2 (oCmp fLe) wa wb)) := t_cmp op_le od_cmp h1 h2 (nomark _)
theorem tc_gt (h1 : DE X a wa) (h2 : DE X b wb) : DT X (.Compare a [.Gt] [b] pos) (wB (w2 (oCmp fGt) wa wb)) := t_cmp op_gt od_cmp h1 h2 (nomark _)
theorem tc_ge (h1 : DE X a wa) (h2 : DE X b wb) : DT X (.Compare a [.GtE] [b] pos) (wB (w2 (oCmp fGe) wa wb)) := t_cmp op_ge od_cmp h1 h2 (nomark _)
end
/-! ### names of the module -/
theorem d_gInt {x : Str} {i : Int} (hg : Gl X x) (hm : ∃ t, X.mg x = some (.int i t)) (hd : (x == ("__debug__" : Str)) = false := by decide) : DE X (.Name x pos) (wC (.int i)) := by
  obtain ⟨t, hm⟩ := hm
  exact ⟨_, pe_glob (v := .int i) hg hm ⟨t, rfl⟩ hd, fun c ρ b σ H Φ Q I h q => q _ _ _ _ h I (Gr.refl _ _) (.int i)⟩
theorem d_gStr {x : Str} {i : Str} (hg : Gl X x) (hm : ∃ t, X.mg x = some (.str i t)) (hd : (x == ("__debug__" : Str)) = false := by decide) : DE X (.Name x pos) (wC (.str i)) := by
  obtain ⟨t, hm⟩ := hm
  exact ⟨_, pe_glob (v := .str i) hg hm ⟨t, rfl⟩ hd, fun c ρ b σ H Φ Q I h q => q _ _ _ _ h I (Gr.refl _ _) (.str i)⟩
/-- a tuple of ints of the module -/
structure TupK (K : PySem.W.Frag) (u : Value) (ns : List Int) : Prop where
  ex : ∃ a, u = .ref a ∧ ∀ H, SqT K H a (ns.map V.int)
theorem d_gTup {x : Str} {ns : List Int} (hg : Gl X x) (hm : ∃ u, X.mg x = some u ∧ TupK X.K u ns) (hd : (x == ("__debug__" : Str)) = false := by decide) : DE X (.Name x pos) (wC (.tuple (ns.map .int))) := by
  obtain ⟨u, hm, ht⟩ := hm
  obtain ⟨a, e, h⟩ := ht.ex
  subst e
  exact ⟨_, pe_glob (v := .ref a) hg hm rfl hd, fun c ρ b σ H Φ Q I h' q => q _ _ _ _ h' I (Gr.refl _ _) (.tup (h _) (DqAll.ofInts ns))⟩
/-! ### short words -/
theorem v (i : Nat) {x : Str} (hN : X.N[i]? = some x := by rfl) (hv : Vis X.env.scope x := by first | exact Or.inl rfl | exact Or.inr (Or.inl rfl) | exact Or.inr (Or.inr rfl)) (hd : (x == ("__debug__" : Str)) = false := by decide) (hcd : (x == ("__classdict__" : Str)) = false := by decide) : DE X (.Name x pos) (wVar i) := dv i hN hv hd hcd
theorem gv (i : Nat) {x : Str} (hN : X.N.Nodup) (hi : X.N[i]? = some x := by rfl) (hx : Loc X.env.scope x := by first | exact Or.inl rfl | exact Or.inr rfl) (hf : X.fn x = true ∨ X.env.scope.names.lookup x = some .local := by first | exact .inr rfl | exact .inl rfl) : DG X (.Name x pos) [i] (gN i) := g_name i hN hi hx hf
theorem ss {x : Str} {w : WE} {pos' : Pos} (i : Nat) (hN : X.N.Nodup) (he : DE X e w) (hi : X.N[i]? = some x := by rfl) (hx : Loc X.env.scope x := by first | exact Or.inl rfl | exact Or.inr rfl) (hf : X.fn x = true ∨ X.env.scope.names.lookup x = some .local := by first | exact .inr rfl | exact .inl rfl)
    (hs : swapsWith e (some (.Name x pos')) pos.line X.env = pure false := by rfl) : DS X (.Assign [.Name x pos'] e pos) (sSet i w) := s_set i hN hi hx hf he hs
end
end DL

/-! DL12: equality with more room, xs[::-1], sorting data. -/
namespace DL
open PySem L2
section
variable {X : Cx} {K : PySem.W.Frag} {pos p : Pos} {e a b : Expr} {es : List Expr} {wa wb : WE}
/-- what == and != ask of their sides -/
def oEqA (neg : Bool) : Op2 := fun d e Φ => SeqAt.shaped d = true ∧ SeqAt.shaped e = true ∧ Φ (.bool (PyData.eqv d e != neg))
theorem od_eqA : OpD K (rEqD K) (oEqA false) := fun hs H x y d e Φ Q _ r1 r2 ⟨h1, h2, h⟩ q => ⟨d, e, (dp_mono hid_le r1).dp (noDict_shaped h1), (dp_mono hid_le r2).dp (noDict_shaped h2), h1, h2, q _ _ _ h (Same.refl _) (by cases PyData.eqv d e <;> exact .bl _)⟩
theorem od_neA : OpD K (rNeD K) (oEqA true) := fun hs H x y d e Φ Q _ r1 r2 ⟨h1, h2, h⟩ q => ⟨d, e, (dp_mono hid_le r1).dp (noDict_shaped h1), (dp_mono hid_le r2).dp (noDict_shaped h2), h1, h2, q _ _ _ h (Same.refl _) (by cases PyData.eqv d e <;> exact .bl _)⟩
theorem te_eq (hu : X.A.units + 65 < cLine) (h1 : DE X a wa) (h2 : DE X b wb) : DT X (.Compare a [.Eq] [b] pos) (wB (w2 (oEqA false) wa wb)) := t_cmp (op_eqD (by omega)) od_eqA h1 h2 (nomark _)
theorem te_ne (hu : X.A.units + 65 < cLine) (h1 : DE X a wa) (h2 : DE X b wb) : DT X (.Compare a [.NotEq] [b] pos) (wB (w2 (oEqA true) wa wb)) := t_cmp (op_neD (by omega)) od_neA h1 h2 (nomark _)
theorem de_eq (hu : X.A.units + 65 < cLine) (h1 : DE X a wa) (h2 : DE X b wb) : DE X (.Compare a [.Eq] [b] pos) (w2 (oEqA false) wa wb) := d_cmp (op_eqD (by omega)) od_eqA h1 h2 (nomark _)
theorem de_ne (hu : X.A.units + 65 < cLine) (h1 : DE X a wa) (h2 : DE X b wb) : DE X (.Compare a [.NotEq] [b] pos) (w2 (oEqA true) wa wb) := d_cmp (op_neD (by omega)) od_neA h1 h2 (nomark _)
/-! ### xs[::-1] -/
def wRev (w : WE) : WE := fun ρ b Φ => w ρ b fun d b1 => ∃ ds, d = .list ds ∧ Φ (.list ds.reverse) b1
theorem DqAll.reverse {H : Hp} : ∀ {vs : List V} {ds : List D}, DqAll K H vs ds → DqAll K H vs.reverse ds.reverse
  | _, _, .nil => .nil
  | _, _, .cons a b => by rw [List.reverse_cons, List.reverse_cons]; exact (DqAll.reverse b).app (.cons a .nil)
theorem d_rev {w : WE} {k : Nat} {p1 p2 p3 : Pos} (h : DE X e w) : DE X (.Subscript e (.Slice none none (some (.UnaryOp .USub (.Constant (.int 1) k p1) p2)) p3) pos) (wRev w) := by
  obtain ⟨te, p1, s1⟩ := h.ex
  refine ⟨_, pe_revL p1, fun c ρ b σ H Φ Q I h q => ?_⟩
  refine s1 c ρ b σ H _ _ I h fun d b1 v H1 ⟨ds, e, h1⟩ I1 g1 r1 => ?_
  subst e
  obtain ⟨l, xs, e1, s1, s2⟩ := r1.lst_inv
  exact ⟨l, xs, e1, SqL.of (hid_le _ _ s1), fun p hp => q _ _ _ _ h1 (I1.grow (same_new hp _)) (Gr.trans g1 (Gr.of (same_new hp _))) (dq_newL I1.dom hp (DqAll.reverse s2))⟩
/-! ### sorted(xs) -/
mutual
theorem noDict_alike : ∀ d : D, PySem.W.alike d d = true → d.hasDict = false
  | .none, _ => rfl
  | .bool _, _ => rfl
  | .int _, _ => rfl
  | .str _, _ => rfl
  | .list xs, h => noDict_alikeAll xs (by simpa [PySem.W.alike] using h)
  | .tuple xs, h => noDict_alikeAll xs (by simpa [PySem.W.alike] using h)
  | .dict _, h => by simp [PySem.W.alike] at h
theorem noDict_alikeAll : ∀ xs : List D, PySem.W.alikeAll xs xs = true → PyData.hasDictAll xs = false
  | [], _ => rfl
  | x :: xs, h => by
    simp only [PySem.W.alikeAll, Bool.and_eq_true] at h
    simp only [PyData.hasDictAll, Bool.or_eq_false_iff]
    exact ⟨noDict_alike x h.1, noDict_alikeAll xs h.2⟩
end
/-- the values that stand for data in the run's heap -/
theorem sortD_each {hs : List Addr} {H : Hp} {h : Heap} {pins : List (Addr × Obj)} {σ : St} {s : Shared} (I : Inv X pins σ H s) : ∀ {xs : List V} {us : List Value} {ds : List D}, Vals xs us → DqAll X.K (hid hs H) xs ds → (∀ d ∈ ds, d.hasDict = false) →
    PySem.W.EachIs (fun u (p : V × D) => RelV p.1 u ∧ Dq X.K (hid hs H) p.1 p.2) us (xs.zip ds) ∧ PySem.W.EachIs (fun u (p : V × D) => ∃ as, Reads s.heap u p.2 as) us (xs.zip ds)
  | _, _, _, .nil, .nil, _ => ⟨.nil, .nil⟩
  | _, _, _, .cons r rs, .cons d ds, hn => by
    obtain ⟨h1, h2⟩ := sortD_each (h := h) I rs ds fun x hx => hn x (List.mem_cons_of_mem _ hx)
    exact ⟨.cons ⟨r, d⟩ h1, .cons (Dp.reads I _ _ _ ((dp_mono hid_le d).dp (hn _ List.mem_cons_self)) r) h2⟩
theorem each_split {H : Hp} : ∀ {us : List Value} {ps : List (V × D)}, PySem.W.EachIs (fun u (p : V × D) => RelV p.1 u ∧ Dq K H p.1 p.2) us ps → Vals (ps.map (·.1)) us ∧ DqAll K H (ps.map (·.1)) (ps.map (·.2))
  | _, _, .nil => ⟨.nil, .nil⟩
  | _, _, .cons ⟨h1, h2⟩ t => let ⟨a, b⟩ := each_split t; ⟨.cons h1 a, .cons h2 b⟩
abbrev srtD (ds : List D) : List D := ds.mergeSort (PySem.W.dataLe false id)
theorem zip_snd {xs : List V} {ds : List D} (h : xs.length = ds.length) : (xs.zip ds).map (·.2) = ds := List.map_snd_zip (by omega)
theorem srt_zip (ps : List (V × D)) : (ps.mergeSort (PySem.W.dataLe false fun p => p.2)).map (·.2) = srtD (ps.map (·.2)) :=
  List.map_mergeSort fun a _ b _ => rfl
def rSortD (K : PySem.W.Frag) : List V → Hp → VK → Prop := fun vs H Q => ∃ (hs : List Addr) (a : Addr) (xs : List V) (ds : List D), vs = [.ref a] ∧ H a = some (.lst xs) ∧ DqAll K (hid hs H) xs ds ∧ PySem.W.AllAlike ds ∧ PySem.W.Sortable ds ∧ (∀ d ∈ ds, d.depth ≤ 60) ∧
  ∀ p ys, H p = none → DqAll K (hid hs H) ys (srtD ds) → Q (.ref p) (upd H p (.lst ys))
theorem cr_sortD (hu : X.A.units + 65 < cLine) : CallR X (.builtin "sorted") (rSortD X.K) := by
  intro pins s σ H vs us Q I r ⟨hs, a, xs, ds, e, ha, rd, hal, hso, hdp, q⟩
  subst e
  rw [Vals.ref1 r]
  obtain ⟨hz, its, n, rv, ho⟩ := I.hok a _ ha
  have hlen := rd.len
  obtain ⟨e1, e2⟩ := sortD_each (h := s.heap) I rv rd fun d hd => noDict_alike d (hal d hd d hd)
  have hl : s.heap.IsList a its.toArray := ⟨_, ho, rfl, n, rfl⟩
  have hzip : (xs.zip ds).length = xs.length := by rw [List.length_zip]; omega
  have hsnd := zip_snd hlen
  refine PySem.W.sorted_data (R := fun u (p : V × D) => RelV p.1 u ∧ Dq X.K (hid hs H) p.1 p.2) (enc := fun p => p.2) hl e1 e2 (by rw [hsnd]; exact hal) (by rw [hsnd]; exact hso) (by rw [hzip]; exact hz) (fun p hp => ?_) fun out hout eo => ?_
  · have := hdp p.2 (List.of_mem_zip (a := p.1) (b := p.2) hp).2
    omega
  · obtain ⟨v1, v2⟩ := each_split eo
    rw [srt_zip, hsnd] at v2
    obtain ⟨en, hen⟩ := PyProof.Rows.sortedAll_at s.heap its (List.toArray out)
    have hn : H (s.heap.objs.size + 1) = none := I.hok.fresh (by omega)
    refine ⟨.ref (s.heap.objs.size + 1), _, I.laid (t' := s.toks) (fun b o hb => PyProof.Rows.sortedAll_old hb) (by omega) (show ObjOk X.prog X.w _ _ _ (.lst ((List.mergeSort (xs.zip ds) (PySem.W.dataLe false fun p => p.2)).map (·.1))) from ⟨?_, out, en, v1, hen⟩), rfl, q _ _ hn v2⟩
    rw [List.length_map, List.length_mergeSort, hzip]; exact hz
def oSortD : OpF := fun ds Φ => ∃ xs, ds = [.list xs] ∧ PySem.W.AllAlike xs ∧ PySem.W.Sortable xs ∧ (∀ d ∈ xs, d.depth ≤ 60) ∧ Φ (.list (srtD xs))
theorem fd_sortD : FnD K (rSortD K) oSortD := by
  intro hs H vs ds Φ Q hd r ⟨xs, e, h1, h2, h3, h⟩ q
  subst e
  match vs, r with
  | [v], .cons r .nil =>
    obtain ⟨l, zs, rfl, s1, s2⟩ := r.lst_inv
    exact ⟨hs, l, zs, xs, rfl, hid_le _ _ s1, s2, h1, h2, h3, fun p ys hp ry => q _ _ _ h (same_new hp _) (dq_newL hd hp ry)⟩
end
end DL

/-! DL13: a, b = x, y by stores in turn; enumerate; range with a step; two clauses. -/
namespace DL
open PySem PySem.Spec PyProof.Rows L2
section
variable {X : Cx} {K : PySem.W.Frag} {pos p : Pos} {e a b : Expr} {es : List Expr} {wa wb : WE}
def sPar (i j : Nat) (w : WA) : WS := fun ρ b Φ => w ρ b fun ds b1 => ∃ d e, ds = [d, e] ∧ i < ρ.length ∧ j < ρ.length ∧ Φ (.nx ((ρ.set i (.dat d)).set j (.dat e)) b1)
theorem s_par (i j : Nat) {x y : Str} {w : WA} {px py pt : Pos} {kt k2 pt2} (hc : X.calm = true) (hN : X.N.Nodup) (ha : DA X [a, b] w) (hij : i ≠ j := by decide) (hi : X.N[i]? = some x := by rfl) (hj : X.N[j]? = some y := by rfl)
    (hx : X.env.scope.names.lookup x = some .local := by rfl) (hy : X.env.scope.names.lookup y = some .local := by rfl)
    (hw : swappedStores [.Tuple [.Name x px, .Name y py] kt pt] (.Tuple [a, b] k2 pt2) X.env = pure (some [x, y]) := by rfl)
    (hs : swapsWithSole [.Tuple [.Name x px, .Name y py] kt pt] (.Tuple [a, b] k2 pt2) pos.line X.env = pure false := by rfl) : DS X (.Assign [.Tuple [.Name x px, .Name y py] kt pt] (.Tuple [a, b] k2 pt2) pos) (sPar i j w) := by
  obtain ⟨ta, p1, s1⟩ := ha.ex
  refine ⟨_, ps_par hc hN hi hj hij hx hy p1 hw hs, fun c ρ b σ H B Φ E I hB h q => ?_⟩
  refine s1 c ρ b σ H _ _ I h fun ds b1 vs H1 ⟨d, e, e1, h1, h2, h3⟩ I1 g1 r1 => ?_
  subst e1
  match vs, r1 with
  | [v, u], .cons r (.cons r' .nil) =>
    obtain ⟨Ia, sa⟩ := I1.setD h1 r
    obtain ⟨Ib, sb⟩ := Ia.setD (i := j) (by rw [List.length_set]; exact h2) (dp_mono (hid_sub sa) r')
    exact ⟨v, u, rfl, q.nx _ _ _ _ h3 Ib (Same.trans hB (Same.trans g1 (hid_sub fun a ha => sa a (sb a ha))))⟩
/-- .. the second a new list of the body's own -/
theorem s_parO2 (i j : Nat) {x y : Str} {we : WE} {px py pt lp : Pos} {kt k2 pt2} (hc : X.calm = true) (hN : X.N.Nodup) (he : DE X e we) (hij : i ≠ j := by decide) (hi : X.N[i]? = some x := by rfl) (hj : X.N[j]? = some y := by rfl)
    (hx : X.env.scope.names.lookup x = some .local := by rfl) (hy : X.env.scope.names.lookup y = some .local := by rfl)
    (hw : swappedStores [.Tuple [.Name x px, .Name y py] kt pt] (.Tuple [e, .List [] lp] k2 pt2) X.env = pure (some [x, y]) := by rfl)
    (hs : swapsWithSole [.Tuple [.Name x px, .Name y py] kt pt] (.Tuple [e, .List [] lp] k2 pt2) pos.line X.env = pure false := by rfl)
    (h2 : starEach (e :: [.List [] lp]) X.env = (false, eval e X.env) :: starEach [.List [] lp] X.env := by rfl) (h3 : starEach [.List [] lp] X.env = (false, eval (.List [] lp) X.env) :: starEach [] X.env := by rfl) :
    DS X (.Assign [.Tuple [.Name x px, .Name y py] kt pt] (.Tuple [e, .List [] lp] k2 pt2) pos) (sParO i j we) := by
  obtain ⟨te, p1, s1⟩ := he.ex
  refine ⟨_, ps_par hc hN hi hj hij hx hy (pa_cons p1 (pa_cons (pe_lst pa_nil) pa_nil h3) h2) hw hs, fun c ρ b σ H B Φ E I hB h q => ?_⟩
  refine s1 c ρ b σ H _ _ I h fun d b1 v H1 ⟨hi1, hj1, h1⟩ I1 g1 r1 => ⟨by show 0 ≤ sizeLine; decide, fun p hp => ?_⟩
  obtain ⟨Ia, sa⟩ := I1.setD hi1 r1
  obtain ⟨Ib, gb⟩ := Ia.setO (p := p) (ho := .lst []) (ds := .list []) (i := j) (by rw [List.length_set]; exact hj1) hp (.lst .nil)
  exact ⟨v, .ref p, rfl, q.nx _ _ _ _ (h1 p) Ib (Same.trans hB (Same.trans g1 (Same.trans (hid_sub sa) gb)))⟩
/-! ### range(i, j, k) -/
def rgC (i c : Int) (n : Nat) : List D := (List.range n).map fun k => .int (i + (k : Nat) * c)
def wRg3 (w : WA) : WA := fun ρ b Φ => w ρ b fun ds b1 => ∃ (i j c : Int) (n : Nat), ds = [.int i, .int j, .int c] ∧ RgC i j c n ∧ Φ (rgC i c n) b1
theorem walk_itc {B : Hp} {lo c : Int} {n : Nat} : WalkOk K (Itc lo c n) B (rgC lo c n) where
  go := fun i H s hi => by show i < n; simpa [rgC] using hi
  yld := fun i H x H' s hi ⟨e, hx⟩ => by
    subst e hx
    have hi : i < n := by simpa [rgC] using hi
    exact ⟨.int (lo + (i : Nat) * c), by simp [rgC, hi], Same.refl _, fun _ _ _ => .int _⟩
  stop := fun i H s hi => by show n ≤ i; simpa [rgC] using hi
theorem i_rg3 {tg a a' a'' : Expr} {wa : WA} {p : Pos} (hg : Gl X "range") (hm : X.mg "range" = none) (ha : DA X [a, a', a''] wa) (h1 : starEach [a, a', a''] X.env = (false, eval a X.env) :: starEach [a', a''] X.env := by rfl)
    (h2 : (backTo pos (starEach [a', a''] X.env)).any (·.1) = false := by rfl) : DI X tg (.Call (.Name "range" p) [a, a', a''] [] pos) (wRg3 wa) := by
  obtain ⟨ta, p1, s⟩ := ha.ex
  refine ⟨_, pi_range3 hg hm p1 h1 h2, fun c ρ b σ H Φ R I h q => ?_⟩
  refine s c ρ b σ H _ _ I h fun d b1 v H1 ⟨i, j, cc, n, e, l, h1⟩ I1 g1 r1 => ?_
  subst e
  exact ⟨i, j, cc, n, (show DqAll X.K _ v ([i, j, cc].map .int) from r1).ints, l, q _ _ _ _ h1 I1 g1 walk_itc⟩
/-! ### enumerate of a list | a tuple -/
/-- the pairs that enumerate of a tuple gives -/
def IteT (K : PySem.W.Frag) (a : Addr) : It :=
  ⟨fun i H => ∃ (xs : List V) (x : V), SqT K H a xs ∧ xs[i]? = some x, fun i H v H' => ∃ T x, v = .ref T ∧ H T = none ∧ H' = upd H T (.tup [.int (i : Nat), x]) ∧ ∀ xs, SqT K H a xs → xs[i]? = some x, fun i H => ∃ xs : List V, SqT K H a xs ∧ xs.length ≤ i⟩
theorem walk_iteT {B : Hp} {a : Addr} {xs : List V} {ds : List D} (s1 : SqT K B a xs) (r : DqAll K B xs ds) : WalkOk K (IteT K a) B (enumD ds) where
  go := fun i H s hi => ⟨xs, xs[i]'(by rw [r.len, ← enumD_len]; exact hi), seqT s s1, by simp⟩
  yld := fun i H x H' s _ ⟨T, y, e1, hT, e2, hx⟩ => by
    subst e1 e2
    obtain ⟨d, h1, h2⟩ := r.getV (hx xs (seqT s s1))
    exact ⟨_, enumD_get h1, yld_pair hT (.int _) h2⟩
  stop := fun i H s hi => ⟨xs, seqT s s1, by rw [r.len, ← enumD_len]; exact hi⟩
theorem turn_enumT {P : Program} {w : World} {elts : List Expr} {kk : Nat} {tpos : Pos} (a en it : Addr) :
    Turn P w K (.Tuple elts kk tpos) (IteT K a) [en, it] en (fun i h => (∃ old, IsEnum h en it ((i : Nat) : Int) old) ∧ h.IsTupleIter it a i ∧ en ≠ it ∧ a ≠ it ∧ a ≠ en) where
  mem := List.mem_cons_self
  obj := fun i h st b hb => by
    obtain ⟨⟨old, he⟩, ⟨o, ho, _, hd⟩, _⟩ := st
    rcases List.mem_cons.mp hb with z | z
    · subst z
      exact ⟨_, he, fun v q => nomatch q⟩
    · rw [List.mem_singleton.mp z]
      exact ⟨o, ho, fun v q => by rw [hd] at q; cases q⟩
  keep := fun i h h' st k => let ⟨⟨old, he⟩, hi, hr⟩ := st; ⟨⟨old, k en (by simp) _ he⟩, hi.at fun o q => k it (by simp) o q, hr⟩
  item := by
    intro X hP hw hK hc i pins s σ H E I hf ⟨⟨old, he⟩, hit, hne, ha1, ha2⟩ ⟨xs, x, hq, hx⟩
    subst hP hw hK
    obtain ⟨its, rv, p, _⟩ := I.tuple hq
    obtain ⟨u, hu, ru⟩ := rv.get hx
    have pt : s.heap.IsTuple a its.toArray := p
    have hu' : its.toArray[i]? = some u := by simpa using hu
    have hlt : i < its.toArray.size := by
      rcases Nat.lt_or_ge i its.toArray.size with h | h
      · exact h
      · rw [Array.getElem?_eq_none h] at hu'; cases hu'
    have le : en < s.heap.objs.size := Heap.lt_size he
    have li : it < s.heap.objs.size := by obtain ⟨_, q, _⟩ := hit; exact Heap.lt_size q
    have Dr := Draws.tuple (prog := X.prog) (w := X.w) (A := X.A.in1) (I.ok.hd hc) it a ha1 its.toArray
    refine wpAny_pyNext_enum_itemD Dr he ⟨hit, pt⟩ hlt hne (by simp [hne, Ne.symm ha2]) fun u' h1 tk hu2 ho hst hT _ hk => ?_
    have eu : u' = u := by rw [hu'] at hu2; exact (Option.some.inj hu2).symm
    subst eu
    refine ⟨_, rfl, wpAny_letOwnedTupleGo_enum (s := { s with heap := h1, toks := tk + 1 }) ho fun h2 he2 sb => ?_⟩
    have hT2 := (sb.2 _ (Nat.ne_of_gt le)).trans hT
    have nw : ObjOk X.prog X.w (upd H s.heap.objs.size (.tup [.int (i : Nat), x])) h2 s.heap.objs.size (.tup [.int (i : Nat), x]) :=
      ⟨by show 2 ≤ sizeLine; decide, [.int i tk, u'], .cons ⟨_, rfl⟩ (.cons ru .nil), ⟨_, hT2, rfl, _, rfl⟩⟩
    have I1 : Inv X pins σ (upd H s.heap.objs.size (.tup [.int (i : Nat), x])) { s with heap := h2, toks := tk + 1 } :=
      I.turnedNew (ch := [en, it]) (fun b ob hb q => (sb.2 b (by simp at hb; exact hb.1)).trans (hk b ob (by simp at hb; exact hb.1) (by simp at hb; exact hb.2) q)) hf (Nat.le_refl _) nw
    refine ⟨.ref s.heap.objs.size, _, I1, rfl, ⟨_, x, rfl, I.hok.fresh (Nat.le_refl _), rfl, fun ys hy => by rw [I.tuple_inj hy hq]; exact hx⟩, ⟨⟨u', ?_⟩, hst.1.at fun o q => (sb.2 it (Ne.symm hne)).trans q, hne, ha1, ha2⟩, fun b hb => ?_⟩
    · rw [show ((i + 1 : Nat) : Int) = (i : Int) + 1 from by omega]; exact he2
    · have hlb : b < s.heap.objs.size := by
        rcases List.mem_cons.mp hb with z | z
        · rw [z]; exact le
        · rw [List.mem_singleton.mp z]; exact li
      rw [upd_ne (Nat.ne_of_lt hlb)]
      exact (hf b hb).1
  done := by
    intro X hP hw hK hc i pins s σ H E I hf ⟨⟨old, he⟩, hit, hne, ha1, ha2⟩ ⟨xs, hq, hx⟩
    subst hP hw hK
    obtain ⟨its, rv, p, _⟩ := I.tuple hq
    have pt : s.heap.IsTuple a its.toArray := p
    obtain ⟨f0, f1, f2, f3, f4, f5⟩ := hf it (by simp)
    have hnone : its.toArray[i]? = none := by
      rw [Array.getElem?_eq_none]
      have := rv.length
      simp; omega
    have Dr : Draws X.prog X.w X.A.in1 it [it, a] i (fun _ _ => False) (fun j h => j = i ∧ h.IsTupleIter it a i ∧ h.IsTuple a its.toArray) :=
      { live := fun _ _ st => let ⟨o, ho, _⟩ := st.2.1; ⟨o, ho⟩
        frame := fun _ _ _ st hk => ⟨st.1, st.2.1.at fun o e => hk it (by simp) o e, st.2.2.at fun o e => hk a (by simp) o e⟩
        item := fun j s Q E hj st _ => absurd st.1 (Nat.ne_of_lt hj)
        done := fun s Q E st hE => wpAny_nextOf_tuple_end (I.ok.hd hc) st.2.1 st.2.2 hnone hE }
    exact wpAny_pyNext_enum_endD Dr he ⟨rfl, hit, pt⟩ fun h' eb => ⟨rfl, I.turned (t' := s.toks) (fun b o hb q => eb b o hb q) f0 f1 f3 f4 f5⟩
  self := fun A i s Q E st h => let ⟨⟨_, he⟩, _⟩ := st; wpAny_pyIter_enum he h
theorem meets_enum1 {v : Value} {o : Obj} {Hh : Heap → Prop} (B : Begins v o Hh) :
    Meets (Builtin.«enumerate.__new__» ⟨[.type "enumerate", v], []⟩) (fun _ R s => Hh s.heap ∧
      R (.ok (.ret (.ref (s.heap.push o).objs.size))) { s with heap := (s.heap.push o).push { cls := .type "enumerate", data := .fields #[.none, .bool false, .ref s.heap.objs.size, rawInt 0, .none, .none] } }) := by
  refine .of_wp fun prog w A R s h => ?_
  obtain ⟨hp, g, d, tk, os⟩ := s
  obtain ⟨h1, h⟩ := h
  have hsub := sub_enumerate
  have itr : ∀ {A' : Around} {E' : Value → Shared → Prop} {Q' : Value → Shared → Prop}, Q' (.ref hp.objs.size) ⟨hp.push o, g, d, tk, os⟩ → wpAny (model prog w) A' (pyIter v) Q' E' ⟨hp, g, d, tk, os⟩ :=
    fun z => B.iter prog w _ _ ⟨hp, g, d, tk, os⟩ _ h1 z
  wp_walk using itr
  refine wpAny_stack_any fun st => wpAny_pure ?_
  split
  · rename_i c _ _ _ _ _
    rcases Bool.eq_false_or_eq_true (c == Value.type "enumerate") with z | z <;> rw [z] <;> (wp_walk using itr; exact ⟨_, rfl, h⟩)
  · wp_walk using itr
    exact ⟨_, rfl, h⟩
theorem call_enumT {P : Program} {w : World} {A : Around} {E : Value → Shared → Prop} {s : Shared} {a : Addr} {items : Array Value} {Q : Value → Shared → Prop} (ht : s.heap.IsTuple a items)
    (h : ∀ h', IsEnum h' (s.heap.objs.size + 1) s.heap.objs.size 0 .none → h'.IsTupleIter s.heap.objs.size a 0 → (∀ b o, s.heap.get? b = some o → h'.get? b = some o) → Q (.ref (s.heap.objs.size + 1)) { s with heap := h' }) :
    wpAny (model P w) A (call (.type "enumerate") [.ref a]) Q E s := by
  generalize hio : ({ cls := .type "tuple_iterator", data := .fields #[.ref a, .int 0 0] } : Obj) = io
  have hz : (s.heap.push io).objs.size = s.heap.objs.size + 1 := Heap.size_push ..
  have B := begins_tuple a items
  rw [hio] at B
  refine callType_new F.called_enumerate (by decide) (F.typeCall_enumerate_1 _) (F.newCall_enumerate_1 _) (fun obj => F.args_object_init_2 obj _) F.entry_enumerate_new (meets_enum1 B) ⟨ht, ?_⟩
  show _ ∧ _
  rw [hz]
  have he : ((s.heap.push io).push { cls := .type "enumerate", data := .fields #[.none, .bool false, .ref s.heap.objs.size, rawInt 0, .none, .none] }).get? (s.heap.objs.size + 1) = some { cls := .type "enumerate", data := .fields #[.none, .bool false, .ref s.heap.objs.size, rawInt 0, .none, .none] } := by
    rw [← hz]; exact Heap.get?_push_size _ rfl
  have hi := Heap.get?_push_of_some { cls := .type "enumerate", data := .fields #[.none, .bool false, .ref s.heap.objs.size, rawInt 0, .none, .none] } (Heap.get?_push_size s.heap (o := io) (by rw [← hio]; rfl))
  refine ⟨⟨_, he, rfl⟩, h _ he ⟨_, hi, by rw [← hio], by rw [← hio]; rfl⟩ fun b o x => Heap.get?_push_of_some _ (Heap.get?_push_of_some _ x)⟩
def iEnumA (K : PySem.W.Frag) (te : TE) : TI := fun σ H R => te σ H fun x H1 => ∃ a xs, x = .ref a ∧ ((SqL K H1 a xs ∧ R (Ite K a) H1) ∨ (SqT K H1 a xs ∧ R (IteT K a) H1))
theorem pi_enumA {elts : List Expr} {kk : Nat} {p pos tpos : Pos} {te : TE} (hg : Gl X "enumerate") (hm : X.mg "enumerate" = none) (he : PE X e te) (h1 : starEach [e] X.env = (false, eval e X.env) :: starEach [] X.env := by rfl) :
    PI X (.Tuple elts kk tpos) (.Call (.Name "enumerate" p) [e] [] pos) (iEnumA X.K te) := by
  refine ⟨fun pins s σ H R I h => ?_⟩
  have pa : PA X [e] (tCons te tNil) := pa_cons he pa_nil h1
  refine Call_ (ld_blt I hg hm PyProof.Rows.boot_enumerate (PyProof.Rows.callWith_type1 (thn (pa.run pos pins s σ H (fun vs H1 => match vs with | [x] => ∃ a xs, x = .ref a ∧ ((SqL X.K H1 a xs ∧ R (Ite X.K a) H1) ∨ (SqT X.K H1 a xs ∧ R (IteT X.K a) H1)) | _ => False) I h) fun us s1 ⟨vs, H1, I1, r1, q⟩ => ?_) h1 rfl))
  match vs, r1, q with
  | [x], r1, ⟨a, xs, e2, q⟩ =>
    subst e2
    obtain ⟨u, rfl, ru⟩ := vals1 r1
    cases ru
    have fresh : ∀ b ∈ [s1.heap.objs.size + 1, s1.heap.objs.size], FpOk X pins H1 b := fun b hb => by
      have hle : s1.heap.objs.size ≤ b := by
        rcases List.mem_cons.mp hb with z | z
        · omega
        · have := List.mem_singleton.mp z; omega
      exact I1.fpOk hle (I1.hok.fresh hle)
    rcases q with ⟨hq, q⟩ | ⟨hq, q⟩
    · obtain ⟨its, rv, p', _⟩ := I1.list hq
      exact call_enumerate_list p'.isList fun h' he hit _ hk => wpAny_pyIter_enum he ⟨_, _, _, _, H1, rfl, I1.kept (t' := s1.toks) hk, turn_enum a _ _, ⟨⟨.none, he⟩, hit, Nat.succ_ne_self _⟩, fresh, q⟩
    · obtain ⟨its, rv, p', _⟩ := I1.tuple hq
      have pt : s1.heap.IsTuple a its.toArray := p'
      have hlt : a < s1.heap.objs.size := by obtain ⟨o, ho, _⟩ := id pt; exact Heap.lt_size ho
      exact call_enumT pt fun h' he hit hk => wpAny_pyIter_enum he ⟨_, _, _, _, H1, rfl, I1.kept (t' := s1.toks) hk, turn_enumT a _ _, ⟨⟨.none, he⟩, hit, Nat.succ_ne_self _, Nat.ne_of_lt hlt, Nat.ne_of_lt (Nat.lt_succ_of_lt hlt)⟩, fresh, q⟩
def wEnum (w : WE) : WA := fun ρ b Φ => w ρ b fun d b1 => itD d fun ds => Φ (enumD ds) b1
theorem i_enum {elts : List Expr} {kk : Nat} {p tpos : Pos} {w : WE} (hg : Gl X "enumerate") (hm : X.mg "enumerate" = none) (he : DE X e w) (h1 : starEach [e] X.env = (false, eval e X.env) :: starEach [] X.env := by rfl) :
    DI X (.Tuple elts kk tpos) (.Call (.Name "enumerate" p) [e] [] pos) (wEnum w) := by
  obtain ⟨te, p1, s1⟩ := he.ex
  refine ⟨_, pi_enumA hg hm p1 h1, fun c ρ b σ H Φ R I h q => ?_⟩
  refine s1 c ρ b σ H _ _ I h fun d b1 v H1 h1 I1 g1 r1 => ?_
  match d, h1, r1 with
  | .list ds, h1, r1 =>
    obtain ⟨a, xs, e, s1, s2⟩ := r1.lst_inv
    exact ⟨a, xs, e, .inl ⟨SqL.of (hid_le _ _ s1), q _ _ _ _ h1 I1 g1 (walk_ite (SqL.of s1) s2)⟩⟩
  | .tuple ds, h1, r1 =>
    obtain ⟨a, xs, e, s1, s2⟩ := r1.tup_inv
    exact ⟨a, xs, e, .inr ⟨seqT hid_le s1, q _ _ _ _ h1 I1 g1 (walk_iteT s1 s2)⟩⟩
end
end DL

/-! DL14: comprehensions of two clauses. -/
namespace DL
open PySem L2
/-- both clauses run: what is gathered -/
def runLc1 (g1 : WG) (w : WE) (ρ : Env) : List D → List D → Bag → (List D → Bag → Prop) → Prop
  | [], acc, b, Φ => Φ acc b
  | d :: r, acc, b, Φ => g1 d ρ fun ρ' => w ρ' b fun e b2 => acc.length < sizeLine ∧ runLc1 g1 w ρ r (acc ++ [e]) b2 Φ
def runLc2 (g : WG) (wi1 : WA) (g1 : WG) (w : WE) (vs1 : List Nat) (ρ : Env) : List D → List D → Bag → (List D → Bag → Prop) → Prop
  | [], acc, b, Φ => Φ acc b
  | d :: r, acc, b, Φ => g d ρ fun ρ' => wi1 ρ' b fun es b1 => runLc1 g1 w (wipeE (deown ρ') vs1) es acc b1 fun acc' b2 => runLc2 g wi1 g1 w vs1 ρ r acc' b2 Φ
def wLc2 (wi : WA) (g : WG) (wi1 : WA) (g1 : WG) (w : WE) (vs vs1 : List Nat) : WE := fun ρ b Φ => wi ρ b fun ds b1 => runLc2 g wi1 g1 w vs1 (wipeE (deown ρ) vs) ds [] b1 fun acc b2 => Φ (.list acc) b2
theorem wYes_snd {K : PySem.W.Frag} : SndT K tYes wYes := fun c ρ b σ H Φ Q I h q => q _ _ _ h I (Gr.refl _ _)
theorem LcSt.step2 {K : PySem.W.Frag} {c : Fr} {ρ : Env} {b b' : Bag} {σ : St} {B H H' : Hp} {D : Addr} {accD : List PySem.PyData} (S : LcSt K c ρ b σ B H D accD) (k : ∀ a o, c.bag ≠ some a → H a = some o → H' a = some o)
    (hb : ∀ p, c.bag = some p → BagAt K (D :: c.hs ρ) H' p b') : LcSt K c ρ b' σ B H' D accD := by
  obtain ⟨I5, g5⟩ := S.en.keep (H' := H') (b' := b') k hb
  obtain ⟨accV, h1, h2⟩ := S.acc
  refine ⟨I5, S.same.trans g5, S.F, accV, k D _ (fun z => ?_) h1, dpAll_mono g5 h2⟩
  have nd := S.en.nd
  unfold Fr.hs Fr.hb at nd
  simp [z] at nd
theorem En.lessF {K : PySem.W.Frag} {c : Fr} {ρ : Env} {b : Bag} {σ : St} {H : Hp} (I : En K c ρ b σ H) (F' : Hp) (h : ∀ a o, F' a = some o → c.F a = some o) : En K { c with F := F' } ρ b σ H :=
  ⟨fun a o e => I.same a o (h a o e), I.len, I.sl, I.nd, I.dom, fun a ha => (by
    show F' a = none
    cases e : F' a with
    | none => rfl
    | some o => exact absurd (h a o e) (by rw [I.out a ha]; exact fun z => by cases z)), I.bag⟩
theorem BagAt.sub {K : PySem.W.Frag} {hs hs' : List Addr} {H : Hp} {p : Addr} {b : Bag} (h : BagAt K hs H p b) (s : ∀ a ∈ hs', a ∈ hs) : BagAt K hs' H p b :=
  let ⟨q, h1, h2⟩ := h; ⟨q, h1, dp_mono (hid_sub s) h2⟩
theorem lc2_snd {K : PySem.W.Frag} {wi wi1 : WA} {g g1 : WG} {w : WE} {vs vs1 gs gs1 : List Nat} (hgs : ∀ i ∈ gs, i ∈ vs) (hgs1 : ∀ i ∈ gs1, i ∈ vs1) :
    Snd K (tLc2 (tiW K wi) (tgW K gs g) tYes (tiW K wi1) (tgW K gs1 g1) tYes (teW K w) vs vs1) (wLc2 wi g wi1 g1 w vs vs1) := by
  intro c ρ b σ H Φ Q I h q
  refine ⟨c, ρ, b, _, I, h, fun ds b1 J H1 h1 I1 gr1 wk => fun D hD => ?_⟩
  obtain ⟨I0, sB⟩ := I1.hide (o := .lst []) hD
  have hFD : c.F D = none := by
    cases e : c.F D with
    | none => rfl
    | some o => rw [I1.same _ _ e] at hD; cases hD
  generalize hB : hid (c.hs ρ) H1 = B at sB wk
  have S0 : LcSt K c ρ b1 σ B (upd H1 D (.lst [])) D [] := ⟨I0, sB, hFD, [], upd_same, .nil⟩
  -- the outer turns
  refine ⟨fun i m H' => m + i = ds.length ∧ ∃ b' accD, LcSt K c ρ b' σ B H' D accD ∧ runLc2 g wi1 g1 w vs1 (wipeE (deown ρ) vs) (ds.drop i) accD b' (fun acc b2 => Φ (.list acc) b2), ⟨ds.length, by simp, b1, [], S0, by simpa using h1⟩, ?_⟩
  rintro i m H2 ⟨hm, b2, accD, S2, h2⟩
  have sw : Same B H2 := sameHid S2.same
  by_cases hi : i < ds.length
  · have hdr : ds.drop i = ds[i] :: ds.drop (i + 1) := List.drop_eq_getElem_cons hi
    rw [hdr] at h2
    refine .inr ⟨wk.go i H2 sw hi, fun H3 => ∃ m', m' + (i + 1) = ds.length ∧ ∃ b' accD, LcSt K c ρ b' σ B H3 D accD ∧ runLc2 g wi1 g1 w vs1 (wipeE (deown ρ) vs) (ds.drop (i + 1)) accD b' (fun acc b2 => Φ (.list acc) b2), ?_, ?_⟩
    · rintro H3 ⟨m', hm', r⟩
      exact ⟨m', by omega, hm', r⟩
    · intro x H3 y
      obtain ⟨d, hd, g3, rd⟩ := wk.yld i H2 x H3 sw hi y
      have hd' : ds[i] = d := by rw [List.getElem?_eq_getElem hi] at hd; exact Option.some.inj hd
      rw [hd'] at h2
      have S3 := S2.grow g3
      obtain ⟨I4, ha4⟩ := S3.en.inner vs
      have hh := inn_hs (c := { c with O := D :: c.O }) (ρ := ρ) (H := H3) ha4
      have rd' : Dq K (hid ((Fr.inn { c with O := D :: c.O } ρ H3).hs (wipeE (deown ρ) vs)) H3) x d := by
        rw [hid_congr hh]; exact rd (D :: c.hs ρ) S2.en.dom S2.same
      refine ⟨_, _, b2, d, _, I4, rd', h2, fun ρ5 σ5 h5 I5 sub5 wip => ⟨(wip vs hgs).trans (wipe_idem σ vs), ?_⟩⟩
      show tiW K wi1 σ5 H3 _
      refine ⟨_, ρ5, b2, _, I5, h5, fun es b6 J1 H6 h6 I6 g6 wk1 => ?_⟩
      -- the inner turns: the frame of the outer turn at H3, the place of the outer comprehension
      let c1 : Fr := { Fr.inn { c with O := D :: c.O } ρ H3 with F := fun a => if a = D then none else (Fr.inn { c with O := D :: c.O } ρ H3).F a }
      have J6 : En K c1 ρ5 b6 σ5 H6 := I6.lessF _ fun a o e => by
        by_cases z : a = D
        · rw [if_pos z] at e; cases e
        · rw [if_neg z] at e; exact e
      have hs1 : ∀ ρ', c1.hs ρ' = (Fr.inn { c with O := D :: c.O } ρ H3).hs ρ' := fun _ => rfl
      have c1F : c1.F D = none := if_pos rfl
      have c1D : D ∈ c1.O := List.mem_append_left _ (by simp)
      have sub1 : ∀ {ρ' : Env} {ρ'' : Env} {H' : Hp}, ∀ a ∈ D :: c.hs ρ, a ∈ (c1.inn ρ' H').hs ρ'' := fun {ρ' ρ'' H'} a ha => by
        have e : a ∈ (D :: c.O ++ adr ρ) ∨ a ∈ c.bag.toList := by
          unfold Fr.hs Fr.hb at ha
          simp only [List.mem_cons, List.mem_append] at ha ⊢
          rcases ha with h | (h | h) | h <;> simp [h]
        refine List.mem_append_left _ ?_
        rcases e with e | e
        · exact List.mem_append_left _ (List.mem_append_left _ e)
        · exact List.mem_append_right _ e
      generalize hB1 : hid ((Fr.inn { c with O := D :: c.O } ρ H3).hs ρ5) H6 = B1 at wk1
      refine ⟨fun j k H' => k + j = es.length ∧ ∃ b' accD, LcSt K c ρ b' σ B H' D accD ∧ En K c1 ρ5 b' σ5 H' ∧ Same B1 (hid (c1.hs ρ5) H') ∧ runLc1 g1 w (wipeE (deown ρ5) vs1) (es.drop j) accD b' (fun acc' b2 => runLc2 g wi1 g1 w vs1 (wipeE (deown ρ) vs) (ds.drop (i + 1)) acc' b2 (fun acc b2 => Φ (.list acc) b2)), ⟨es.length, by simp, b6, accD, S3.step I6, J6, by rw [← hB1]; exact Same.refl _, by simpa using h6⟩, ?_⟩
      rintro j k H7 ⟨hk, b7, acc7, S7, I7, sb7, h7⟩
      have sw1 : Same B1 H7 := sameHid sb7
      by_cases hj : j < es.length
      · have hdr : es.drop j = es[j] :: es.drop (j + 1) := List.drop_eq_getElem_cons hj
        rw [hdr] at h7
        refine .inr ⟨wk1.go j H7 sw1 hj, fun H' => ∃ k', k' + (j + 1) = es.length ∧ ∃ b' accD, LcSt K c ρ b' σ B H' D accD ∧ En K c1 ρ5 b' σ5 H' ∧ Same B1 (hid (c1.hs ρ5) H') ∧ runLc1 g1 w (wipeE (deown ρ5) vs1) (es.drop (j + 1)) accD b' (fun acc' b2 => runLc2 g wi1 g1 w vs1 (wipeE (deown ρ) vs) (ds.drop (i + 1)) acc' b2 (fun acc b2 => Φ (.list acc) b2)), ?_, ?_⟩
        · rintro H' ⟨k', hk', r⟩
          exact ⟨k', by omega, hk', r⟩
        · intro x1 H8 y1
          obtain ⟨d1, hd1, g8, rd1⟩ := wk1.yld j H7 x1 H8 sw1 hj y1
          have hd1' : es[j] = d1 := by rw [List.getElem?_eq_getElem hj] at hd1; exact Option.some.inj hd1
          rw [hd1'] at h7
          have S8 := S7.grow g8
          have I8 := I7.grow g8
          have sb8 := sb7.trans (hid_same g8)
          obtain ⟨N4, na4⟩ := I8.inner vs1
          have nh := inn_hs (c := c1) (ρ := ρ5) (H := H8) na4
          have rd1' : Dq K (hid ((c1.inn ρ5 H8).hs (wipeE (deown ρ5) vs1)) H8) x1 d1 := by
            rw [hid_congr nh]; exact rd1 (c1.hs ρ5) I7.dom sb7
          refine ⟨_, _, b7, d1, _, N4, rd1', h7, fun ρ9 σ9 h9 I9 sub9 wip9 => ⟨(wip9 vs1 hgs1).trans (wipe_idem σ5 vs1), ?_⟩⟩
          show teW K w σ9 H8 _
          refine ⟨_, ρ9, b7, _, I9, h9, fun e b9 v H9 h9 J9 gr9 r9 => ?_⟩
          have kp : ∀ a o, c.bag ≠ some a → H8 a = some o → H9 a = some o := fun a o z1 z2 => J9.same a o (by
            show (if c1.bag = some a then none else H8 a) = some o
            rw [if_neg (show c1.bag ≠ some a from z1)]; exact z2)
          have S9 := S8.step2 kp fun p hp => (J9.bag p hp).sub sub1
          obtain ⟨I9', g9⟩ := I8.keep (H' := H9) (b' := b9) kp fun p hp => (J9.bag p hp).sub fun a ha => by
            have := (inn_hs (c := c1) (ρ := ρ5) (H := H8) (ρ' := []) rfl a).mpr ha
            exact List.mem_append_left _ (by simpa [Fr.hs, adr] using this)
          obtain ⟨accV, ha, hr⟩ := S9.acc
          have r8 : Dq K (hid (D :: c.hs ρ) H9) v e := dp_mono (hid_sub sub1) r9
          have hDm : D ∈ c1.hs ρ5 := List.mem_append_left _ (List.mem_append_left _ c1D)
          exact ⟨accV, ha, by rw [hr.len]; exact h9.1, k - 1, by omega, b9, acc7 ++ [e], S9.push ha hr r8, I9'.updH c1D c1F, by rw [hid_upd_in hDm]; exact sb8.trans g9, h9.2⟩
      · refine .inl ⟨wk1.stop j H7 sw1 (by omega), ?_⟩
        rw [List.drop_eq_nil_of_le (by omega)] at h7
        exact ⟨m - 1, by omega, b7, acc7, S7, h7⟩
  · refine .inl ⟨wk.stop i H2 sw (by omega), ?_⟩
    rw [List.drop_eq_nil_of_le (by omega)] at h2
    obtain ⟨accV, ha, hr⟩ := S2.acc
    have I9 := S2.en.unhide
    have sD : Same (hid (D :: c.hs ρ) H2) (hid (c.hs ρ) H2) := hid_sub fun a ha => List.mem_cons_of_mem _ ha
    have hDn : D ∉ c.hs ρ := (List.nodup_cons.mp S2.en.nd).1
    refine q _ _ _ _ h2 I9 (gr1.trans ?_) (.lst (by rw [hid_out hDn]; exact ha) (dpAll_mono sD hr))
    show Same (hid (c.hs ρ) H1) (hid (c.hs ρ) H2)
    rw [hB]
    exact S2.same.trans sD
section
variable {X : Cx} {pos : Pos}
theorem d_lc2 {elt tg iter tg1 iter1 : Expr} {scope : Scope} (own : List (Str × Nat)) (vs1 : List Nat) {gs gs1 : List Nat} {wi wi1 : WA} {g g1 : WG} {w : WE} (hc : X.calm = true) (hN : X.N.Nodup) (hi : DI X tg iter wi) (ok : blkC X.N X.env.scope scope own = true)
    (hg : Blk X scope fun Y => DG Y tg gs g) (hi1 : Blk X scope fun Y => DI Y tg1 iter1 wi1) (hg1 : Blk X scope fun Y => DG Y tg1 gs1 g1) (he : Blk X scope fun Y => DE Y elt w)
    (hv : (vs1.all fun i => (own.map (·.2)).contains i) = true := by rfl) (hgs : (gs.all fun i => (own.map (·.2)).contains i) = true := by rfl) (hgs1 : (gs1.all fun i => vs1.contains i) = true := by rfl)
    (hs : ∀ x, foldedSetIterable iter X.env x = pure x := by intro _; rfl) (hs1 : ∀ env x, foldedSetIterable iter1 env x = pure x := by intro _ _; rfl) :
    DE X (.ListComp elt [⟨tg, iter, [], 0⟩, ⟨tg1, iter1, [], 0⟩] scope pos) (wLc2 wi g wi1 g1 w (own.map (·.2)) vs1) := by
  simp only [List.all_eq_true, List.contains_iff_mem] at hv hgs hgs1
  exact ⟨_, pe_lc2 (wi := tiW X.K wi) (g := tgW X.K gs g) (tt := tYes) (wi1 := tiW X.K wi1) (g1 := tgW X.K gs1 g1) (tt1 := tYes) (te := teW X.K w) hc hN hi.can (blkOk_by ok) hv (fun s H C cl fp => (hg s H C cl fp).can) (fun _ _ _ _ _ => pts_nil)
    (fun s H C cl fp => (hi1 s H C cl fp).can) (fun s H C cl fp => (hg1 s H C cl fp).can) (fun _ _ _ _ _ => pts_nil) (fun s H C cl fp => (he s H C cl fp).can) hs hs1, lc2_snd hgs hgs1⟩
theorem s_setLc2 (i : Nat) {y : Str} {py spos : Pos} {elt tg iter tg1 iter1 : Expr} {scope : Scope} (own : List (Str × Nat)) (vs1 : List Nat) {gs gs1 : List Nat} {wi wi1 : WA} {g g1 : WG} {w : WE} (hc : X.calm = true) (hN : X.N.Nodup) (hy : X.N[i]? = some y) (hyl : X.env.scope.names.lookup y = some .local)
    (hsw : swapsWith (.ListComp elt [⟨tg, iter, [], 0⟩, ⟨tg1, iter1, [], 0⟩] scope pos) (some (.Name y py)) spos.line X.env = pure true) (hi : DI X tg iter wi) (ok : blkC X.N X.env.scope scope own = true)
    (hg : Blk X scope fun Y => DG Y tg gs g) (hi1 : Blk X scope fun Y => DI Y tg1 iter1 wi1) (hg1 : Blk X scope fun Y => DG Y tg1 gs1 g1) (he : Blk X scope fun Y => DE Y elt w)
    (hv : (vs1.all fun i => (own.map (·.2)).contains i) = true := by rfl) (hgs : (gs.all fun i => (own.map (·.2)).contains i) = true := by rfl) (hgs1 : (gs1.all fun i => vs1.contains i) = true := by rfl)
    (hs : ∀ x, foldedSetIterable iter X.env x = pure x := by intro _; rfl) (hs1 : ∀ env x, foldedSetIterable iter1 env x = pure x := by intro _ _; rfl) :
    DS X (.Assign [.Name y py] (.ListComp elt [⟨tg, iter, [], 0⟩, ⟨tg1, iter1, [], 0⟩] scope pos) spos) (sSet i (wLc2 wi g wi1 g1 w (own.map (·.2)) vs1)) := by
  simp only [List.all_eq_true, List.contains_iff_mem] at hv hgs hgs1
  refine ⟨_, ps_setLc2 (i := i) (wi := tiW X.K wi) (g := tgW X.K gs g) (tt := tYes) (wi1 := tiW X.K wi1) (g1 := tgW X.K gs1 g1) (tt1 := tYes) (te := teW X.K w) hc hN hy hyl hsw hi.can (blkOk_by ok) hv (fun s H C cl fp => (hg s H C cl fp).can) (fun _ _ _ _ _ => pts_nil)
    (fun s H C cl fp => (hi1 s H C cl fp).can) (fun s H C cl fp => (hg1 s H C cl fp).can) (fun _ _ _ _ _ => pts_nil) (fun s H C cl fp => (he s H C cl fp).can) hs hs1, ?_⟩
  refine snd_asg (lc2_snd hgs hgs1) ?_
  intro c ρ b σ H v d Φ Q I r ⟨h1, h2⟩ q
  obtain ⟨I', s⟩ := I.setD h1 r
  exact q _ _ h2 I' s
end
end DL

/-! DL15: sorted(set(xs)) of pairs of ints, of ints. -/
namespace DL
open PySem PySem.Spec PyProof.Rows L2
theorem perm_map_inv {α β : Type} {f : α → β} {vs ws : List β} (p : vs.Perm ws) : ∀ L : List α, ws = L.map f → ∃ L1 : List α, L1.Perm L ∧ vs = L1.map f := by
  induction p with
  | nil => intro L e; exact ⟨[], by cases L with | nil => exact .nil | cons _ _ => simp at e, rfl⟩
  | cons x _ ih =>
    intro L e
    cases L with
    | nil => simp at e
    | cons y L =>
      simp only [List.map_cons, List.cons.injEq] at e
      obtain ⟨L1, h1, h2⟩ := ih L e.2
      exact ⟨y :: L1, h1.cons y, by rw [h2, e.1]; rfl⟩
  | swap x y l =>
    intro L e
    match L, e with
    | a :: b :: L, e =>
      simp only [List.map_cons, List.cons.injEq] at e
      exact ⟨b :: a :: L, .swap _ _ _, by rw [e.1, e.2.1, e.2.2]; rfl⟩
  | trans _ _ ih1 ih2 =>
    intro L e
    obtain ⟨L2, h1, h2⟩ := ih2 L e
    obtain ⟨L1, h3, h4⟩ := ih1 L2 h2
    exact ⟨L1, h3.trans h1, h4⟩
theorem readsAll_ints {h : Heap} : ∀ {ns : List Int} {vs : List Value} {as : List Addr}, ReadsAll h vs (ns.map .int) as → as = []
  | [], _, _, .nil => rfl
  | _ :: _, _, _, .cons (.int _ _) t => by rw [readsAll_ints t]; rfl
theorem reads_tup {h : Heap} {a : Addr} {ns : List Int} {as : List Addr} (r : Reads h (.ref a) (.tuple (ns.map .int)) as) : as = [] := by
  cases r with
  | tuple h1 h2 h3 h4 => exact readsAll_ints h4
theorem noDict_ints : ∀ ns : List Int, PyData.hasDictAll (ns.map .int) = false
  | [] => rfl
  | n :: r => by simp only [List.map_cons, PyData.hasDictAll, noDict_ints r, Bool.or_false]; rfl
abbrev Tp := Addr × List Int
abbrev tpD (q : Tp) : PyData := .tuple (q.2.map .int)
section
variable {P : Program} {w : World} {A : Around} {E : Value → Shared → Prop} {s : Shared}
/-- a list of tuples of ints is sorted in place; what it holds is known by addresses -/
theorem tp_each {h : Heap} {L : List Tp} (hr : ∀ q ∈ L, ∃ as, Reads h (.ref q.1) (tpD q) as) : PySem.W.EachIs (fun v (q : Tp) => v = Value.ref q.1) (L.map fun q => Value.ref q.1) L ∧ PySem.W.EachIs (fun v (q : Tp) => ∃ as, Reads h v (tpD q) as) (L.map fun q => Value.ref q.1) L := by
  induction L with
  | nil => exact ⟨.nil, .nil⟩
  | cons q L ih =>
    obtain ⟨a, b⟩ := ih fun p hp => hr p (List.mem_cons_of_mem _ hp)
    exact ⟨.cons rfl a, .cons (hr q List.mem_cons_self) b⟩
theorem each_eq {L : List Tp} : ∀ {out : List Value}, PySem.W.EachIs (fun v (q : Tp) => v = Value.ref q.1) out L → out = L.map fun q => Value.ref q.1 := by
  induction L with
  | nil => intro out h; cases h; rfl
  | cons q L ih => intro out h; cases h with | cons a b => rw [a, ih b]; rfl
theorem sort_tps {s1 : Shared} {L : List Tp} {Q : Value → Shared → Prop} (hr : ∀ q ∈ L, ∃ as, Reads s1.heap (.ref q.1) (tpD q) as) (hal : PySem.W.AllAlike (L.map tpD)) (hk : PySem.W.Sortable (L.map tpD)) (hL : L.length ≤ sizeLine) (hu : A.units + 2 + 1 < cLine)
    (hd : ∀ q ∈ L, (tpD q).depth ≤ 1)
    (h : ∀ h' c, (∀ b o, s1.heap.get? b = some o → h'.get? b = some o) → h'.get? s1.heap.objs.size = some (seqObj "list" (List.toArray ((L.mergeSort (PySem.W.dataLe false tpD)).map fun q => Value.ref q.1)) c) → Q .none { s1 with heap := h' }) :
    wpAny (model P w) A (call (.builtin "list.sort") [.ref s1.heap.objs.size]) Q E { s1 with heap := s1.heap.push (seqObj "list" (List.toArray (L.map fun q => Value.ref q.1)) 0) } := by
  have hoL : (s1.heap.push (seqObj "list" (List.toArray (L.map fun q => Value.ref q.1)) 0)).get? s1.heap.objs.size = some (seqObj "list" (List.toArray (L.map fun q => Value.ref q.1)) 0) := Heap.get?_push_size _ rfl
  have hkeep : ∀ b o, s1.heap.get? b = some o → (s1.heap.push (seqObj "list" (List.toArray (L.map fun q => Value.ref q.1)) 0)).get? b = some o := fun b o e => Heap.get?_push_of_some _ e
  obtain ⟨e1, _⟩ := tp_each hr
  have e2 : PySem.W.EachIs (fun v (q : Tp) => ∃ as, Reads (s1.heap.push (seqObj "list" (List.toArray (L.map fun q => Value.ref q.1)) 0)) v (tpD q) as ∧ s1.heap.objs.size ∉ as) (L.map fun q => Value.ref q.1) L := by
    have : ∀ L' : List Tp, (∀ q ∈ L', q ∈ L) → PySem.W.EachIs (fun v (q : Tp) => ∃ as, Reads (s1.heap.push (seqObj "list" (List.toArray (L.map fun q => Value.ref q.1)) 0)) v (tpD q) as ∧ s1.heap.objs.size ∉ as) (L'.map fun q => Value.ref q.1) L' := by
      intro L' hs
      induction L' with
      | nil => exact .nil
      | cons q L' ih =>
        refine .cons ?_ (ih fun p hp => hs p (List.mem_cons_of_mem _ hp))
        obtain ⟨as, r⟩ := hr q (hs q List.mem_cons_self)
        exact ⟨as, PyProof.Rows.Reads.keeps hkeep r, by rw [reads_tup r]; simp⟩
    exact this L fun _ h => h
  refine PySem.W.list_sort_data (s := { s1 with heap := s1.heap.push (seqObj "list" (List.toArray (L.map fun q => Value.ref q.1)) 0) }) (enc := tpD) (R := fun v (q : Tp) => v = Value.ref q.1) hoL e1 e2 hal hk hL (fun q hq => by have := hd q hq; show A.units + 1 + (tpD q).depth < cLine; omega) fun out _ eo => ?_
  obtain ⟨c, hc⟩ := sortedHeap_at (vs := L.map fun q => Value.ref q.1) (out := List.toArray out) hoL
  refine h _ c (fun b o e => ?_) (by rw [← each_eq eo]; exact hc)
  have hlt := Heap.lt_size e
  rw [sortedHeap_old (Nat.ne_of_lt hlt) (by rw [size_push']; exact Nat.lt_succ_of_lt hlt)]
  exact hkeep b o e
theorem sorted_setTD {a : Addr} {L : List Tp} {es : Array (Int × Value)} {ep : Nat} {t : SetTable} {Q : Value → Shared → Prop} (R : SetTR P w s.heap a L es ep t) (hh : A.handled = none)
    (hr : ∀ q ∈ L, ∃ as, Reads s.heap (.ref q.1) (tpD q) as) (hal : PySem.W.AllAlike (L.map tpD)) (hk : PySem.W.Sortable (L.map tpD)) (hu : A.units + 65 < cLine) (hd : ∀ q ∈ L, (tpD q).depth ≤ 1)
    (hQ : ∀ (s' : Shared) (p : Addr) (c : Nat) (L' : List Tp), (∀ b o, s.heap.get? b = some o → s'.heap.get? b = some o) → s'.gens = s.gens → s'.os = s.os → s.heap.objs.size ≤ p → L'.Perm L →
      s'.heap.get? p = some (seqObj "list" (List.toArray ((L'.mergeSort (PySem.W.dataLe false tpD)).map fun q => Value.ref q.1)) c) → Q (.ref p) s') :
    wpAny (model P w) A (call (.builtin "sorted") [.ref a]) Q E s := by
  obtain ⟨o, ho, hex, hdt⟩ := R.ob
  have hsz := R.size
  have hfew := R.few
  refine Calls.call_function_entry kind_sorted plain_sorted entry_sorted (args_sorted1 _) ?_
  unfold Builtin.«sorted»
  refine wpAny_bind (m := checkCount "sorted" 1 1 _) (wpAny_pure ?_)
  refine wpAny_bind (collect_set (A := A.in1) hh ⟨o, ho, hex.1, hdt⟩ R.fits (by unfold scanBound; omega) R.tab.ris R.led fun s1 vs k1 hz g1 o1 pm => ?_)
  have hes : es.toList.map (·.2) = L.map fun q => Value.ref q.1 := by
    rw [R.rows]; unfold rowsOf; rw [List.map_map]; rfl
  rw [hes] at pm
  obtain ⟨L1, p1, e1⟩ := perm_map_inv pm L rfl
  subst e1
  have hlen : L1.length < 64 := by rw [p1.length_eq]; exact hfew
  refine wpAny_bind (wpAny_newList ?_ (by rw [sizeLine_eq]; simp; omega))
  have hal1 : PySem.W.AllAlike (L1.map tpD) := fun d h1 d' h2 => hal d ((p1.map tpD).mem_iff.mp h1) d' ((p1.map tpD).mem_iff.mp h2)
  have hk1 : PySem.W.Sortable (L1.map tpD) := hk.imp (fun z d h => z d ((p1.map tpD).mem_iff.mp h)) (fun z d h => z d ((p1.map tpD).mem_iff.mp h))
  refine wpAny_bind (wpAny_holding (sort_tps (s1 := s1) (fun q hq => ?_) hal1 hk1 (by rw [sizeLine_eq]; omega) (by show A.units + 1 + 2 + 1 < cLine; omega) (fun q hq => hd q (p1.mem_iff.mp hq)) fun h' c kp hc => ?_))
  · obtain ⟨as, r⟩ := hr q (p1.mem_iff.mp hq)
    exact ⟨as, PyProof.Rows.Reads.keeps k1 r⟩
  · exact wpAny_pure ⟨_, rfl, hQ { s1 with heap := h' } s1.heap.objs.size c L1 (fun b u e => kp b u (k1 b u e)) g1 o1 hz p1 hc⟩
end
section
variable {X : Cx} {K : PySem.W.Frag}
theorem tp_alike (L : List Tp) : PySem.W.AllAlike (L.map tpD) := PySem.W.AllAlike.of fun b b' => PySem.W.alike_ints b.2 b'.2
theorem tp_depth (q : Tp) : (tpD q).depth ≤ 1 := by
  show PyData.depth (.tuple (q.2.map .int)) ≤ 1
  unfold PyData.depth
  rw [PySem.W.depth_ints]
  exact Nat.le_refl _
theorem tp_sortable {L : List Tp} (h : ∀ q ∈ L, q.2 ≠ []) : PySem.W.Sortable (L.map tpD) := .inl fun d hd => by
  obtain ⟨q, hq, rfl⟩ := List.mem_map.mp hd
  cases e : q.2 with
  | nil => exact absurd e (h q hq)
  | cons x r => exact ⟨.int x, r.map .int, by unfold tpD; rw [e]; rfl⟩
def rSortTD (K : PySem.W.Frag) (P : Program) (w : World) : List V → Hp → VK → Prop := fun vs H Q => ∃ (a : Addr) (L : List Tp), vs = [V.ref a] ∧ H a = some (SetTO P w a L) ∧ (∀ p ∈ L, SqT K H p.1 (p.2.map V.int)) ∧ (∀ p ∈ L, p.2 ≠ []) ∧
  ∀ (L' : List Tp) (p : Addr), L'.Perm L → (L.map (·.2)).Nodup → H p = none → Q (.ref p) (upd H p (.lst ((L'.mergeSort (PySem.W.dataLe false tpD)).map fun q => V.ref q.1)))
theorem vals_refs : ∀ L : List Tp, Vals (L.map fun q => V.ref q.1) (L.map fun q => Value.ref q.1)
  | [] => .nil
  | _ :: r => .cons rfl (vals_refs r)
theorem cr_sortTD (hc : X.calm = true) (hu : X.A.units + 65 < cLine) : CallR X (.builtin "sorted") (rSortTD X.K X.prog X.w) := by
  intro pins s σ H vs us Q I r ⟨a, L, e, ha, hk, hne, q⟩
  subst e
  have R0 : SetT0 X.prog X.w s.heap a L := (I.hok a _ ha).1
  obtain ⟨es, ep, t, R⟩ := R0.full fun p hp => I.isT (hk p hp)
  rw [Vals.ref1 r]
  have hfew := R.few
  refine sorted_setTD R (I.ok.hd hc) (fun p hp => ?_) (tp_alike L) (tp_sortable hne) hu (fun p _ => tp_depth p) fun s' p c L' k g o hp pm hg => ?_
  · exact Dp.reads I (tpD p) (.ref p.1) (.ref p.1) (.tup (hk p hp) ((DqAll.ofInts (K := X.K) (H := H) p.2).dp (noDict_ints p.2))) rfl
  · have hn : H p = none := I.hok.fresh hp
    have hlen : ((L'.mergeSort (PySem.W.dataLe false tpD)).map fun q => V.ref q.1).length ≤ sizeLine := by rw [List.length_map, List.length_mergeSort, pm.length_eq, sizeLine_eq]; omega
    have ok : ObjOk X.prog X.w (upd H p (.lst ((L'.mergeSort (PySem.W.dataLe false tpD)).map fun q => V.ref q.1))) s'.heap p (.lst ((L'.mergeSort (PySem.W.dataLe false tpD)).map fun q => V.ref q.1)) := ⟨hlen, _, c, vals_refs _, hg⟩
    have J : Inv X pins σ (upd H p (.lst ((L'.mergeSort (PySem.W.dataLe false tpD)).map fun q => V.ref q.1))) { s with heap := s'.heap, gens := s'.gens, drawn := s'.drawn, toks := s'.toks } :=
      I.call (ch := []) (Un.laid k hp hn) (I.hok.laid k hp ok) (by rw [g]; exact I.bare) (fun _ z => nomatch z)
    have e : s' = { s with heap := s'.heap, gens := s'.gens, drawn := s'.drawn, toks := s'.toks } := by
      obtain ⟨h1, g1, d1, t1, o1⟩ := s'
      obtain rfl : o1 = s.os := o
      rfl
    rw [e]
    exact ⟨.ref p, _, J, rfl, q L' p pm R.nd hn⟩
/-- pairs of data as rows: their addresses, their ints -/
theorem pairs_rows {hs : List Addr} {H : Hp} : ∀ {vs : List V} {ls : List (List Int)}, DqAll K (hid hs H) vs (ls.map fun l => .tuple (l.map .int)) →
    ∃ ks : List Tp, vs = (ks.map fun q => V.ref q.1) ∧ ks.map (·.2) = ls ∧ ∀ q ∈ ks, SqT K (hid hs H) q.1 (q.2.map V.int)
  | _, [], .nil => ⟨[], rfl, rfl, fun _ h => by cases h⟩
  | _, l :: ls, .cons r rs => by
    obtain ⟨ks, h1, h2, h3⟩ := pairs_rows rs
    obtain ⟨t, xs, e, s1, s2⟩ := r.tup_inv
    rw [s2.ints] at s1
    refine ⟨(t, l) :: ks, by rw [h1, e]; rfl, by rw [List.map_cons, h2], fun q hq => ?_⟩
    rcases List.mem_cons.mp hq with z | z
    · rw [z]; exact s1
    · exact h3 q z
theorem rows_pairs {hs : List Addr} {H : Hp} : ∀ {ks : List Tp}, (∀ q ∈ ks, SqT K (hid hs H) q.1 (q.2.map V.int)) → DqAll K (hid hs H) (ks.map fun q => V.ref q.1) (ks.map tpD)
  | [], _ => .nil
  | q :: ks, h => .cons (.tup (h q List.mem_cons_self) (DqAll.ofInts _)) (rows_pairs fun p hp => h p (List.mem_cons_of_mem _ hp))
abbrev pD (p : Int × Int) : PyData := .tuple [.int p.1, .int p.2]
def lexLe (p q : Int × Int) : Bool := decide (p.1 < q.1 ∨ (p.1 = q.1 ∧ p.2 ≤ q.2))
/-- each pair once, in the order of tuples -/
def SetSrt (ls rs : List (Int × Int)) : Prop := rs.Nodup ∧ (∀ p, p ∈ rs ↔ p ∈ ls) ∧ rs.Pairwise fun x y => lexLe x y = true
theorem lexLe_trans (x y z : Int × Int) (h1 : lexLe x y = true) (h2 : lexLe y z = true) : lexLe x z = true := by
  simp only [lexLe, decide_eq_true_eq] at *; omega
theorem lexLe_total (x y : Int × Int) : (lexLe x y || lexLe y x) = true := by
  simp only [lexLe, Bool.or_eq_true, decide_eq_true_eq]; omega
/-- the pair of a row -/
def fp (q : Tp) : Int × Int := (q.2.getD 0 0, q.2.getD 1 0)
theorem srt_rows {L' : List Tp} (h : ∀ q ∈ L', q.2 = [(fp q).1, (fp q).2]) : (L'.mergeSort (PySem.W.dataLe false tpD)).map fp = (L'.map fp).mergeSort lexLe := by
  refine List.map_mergeSort fun a ha b hb => ?_
  have e := congrFun (congrFun (PySem.W.dataLe_ii (β := Tp) (fun q => (fp q).1) (fun q => (fp q).2)) a) b
  have ea : tpD a = .tuple [.int (fp a).1, .int (fp a).2] := by unfold tpD; rw [h a ha]; rfl
  have eb : tpD b = .tuple [.int (fp b).1, .int (fp b).2] := by unfold tpD; rw [h b hb]; rfl
  have e1 : PySem.W.dataLe false tpD a b = PySem.W.dataLe false (fun q : Tp => .tuple [.int (fp q).1, .int (fp q).2]) a b := by
    show (!PySem.W.dataLt (tpD b) (tpD a)) = (!PySem.W.dataLt (.tuple [.int (fp b).1, .int (fp b).2]) (.tuple [.int (fp a).1, .int (fp a).2]))
    rw [ea, eb]
  rw [e1, e]
  rfl
def oSortSet : OpF := fun ds Φ => ∃ ls : List (Int × Int), ds = [.list (ls.map pD)] ∧ ls.length < 64 ∧ ∀ rs, SetSrt ls rs → Φ (.list (rs.map pD))
def wSortSet (w : WE) : WE := fun ρ b Φ => w ρ b fun d b1 => oSortSet [d] fun e => Φ e b1
variable {pos pos2 p p2 : Pos} {e : Expr}
theorem d_sortedSet {w : WE} (hg : Gl X "sorted") (hm : X.mg "sorted" = none) (hg2 : Gl X "set") (hm2 : X.mg "set" = none) (hu : X.A.units + 65 < cLine) (hc : X.calm = true) (he : DE X e w)
    (h1 : starEach [e] X.env = (false, eval e X.env) :: starEach [] X.env := by rfl)
    (h2 : starEach [.Call (.Name "set" p2) [e] [] pos2] X.env = (false, eval (.Call (.Name "set" p2) [e] [] pos2) X.env) :: starEach [] X.env := by rfl) :
    DE X (.Call (.Name "sorted" p) [.Call (.Name "set" p2) [e] [] pos2] [] pos) (wSortSet w) := by
  obtain ⟨te, p1, s1⟩ := he.ex
  refine ⟨_, pe_callB (cr_sortTD hc hu) hg hm PyProof.Rows.boot_sorted (pa_cons (pe_callTy (cr_setOfT hc (by omega)) hg2 hm2 PyProof.Rows.boot_set (pa_cons p1 pa_nil h1) (by decide) (by decide) h1 (by rfl)) pa_nil h2) (by decide) (by decide) h2 (by rfl), fun c ρ b σ H Φ Q I h q => ?_⟩
  refine s1 c ρ b σ H _ _ I h fun d b1 v H1 ⟨ls, e0, hl, h1⟩ I1 g1 r1 => ?_
  obtain rfl : d = .list (ls.map pD) := by simpa using e0
  obtain ⟨l, xs, rfl, r2, r3⟩ := r1.lst_inv
  have r3' : DqAll X.K (hid (c.hs ρ) H1) xs ((ls.map fun q => [q.1, q.2]).map fun l => .tuple (l.map .int)) := by rw [List.map_map]; exact r3
  obtain ⟨ks, e1, e2, e3⟩ := pairs_rows r3'
  subst e1
  refine ⟨l, ks, rfl, SqL.of (hid_le _ _ r2), fun q hq => seqT hid_le (e3 q hq), ?_, fun a L ha hsub hall => ?_⟩
  · have := congrArg List.length e2; simp only [List.length_map] at this; omega
  have ks2 : ∀ q ∈ ks, q.2 = [(fp q).1, (fp q).2] := fun q hq => by
    have : q.2 ∈ ks.map (·.2) := List.mem_map.mpr ⟨q, hq, rfl⟩
    rw [e2] at this
    obtain ⟨z, _, e⟩ := List.mem_map.mp this
    unfold fp; rw [← e]; rfl
  have sA : Same H1 (upd H1 a (SetTO X.prog X.w a L)) := same_new ha _
  refine ⟨a, L, rfl, upd_same, fun q hq => seqT (Same.trans hid_le sA) (e3 q (hsub q hq)), fun q hq => by rw [ks2 q (hsub q hq)]; simp, fun L' pr pm nd hp => ?_⟩
  have Lf : ∀ q ∈ L', q.2 = [(fp q).1, (fp q).2] := fun q hq => ks2 q (hsub q (pm.mem_iff.mp hq))
  have srt := srt_rows Lf
  have inS : ∀ q ∈ L'.mergeSort (PySem.W.dataLe false tpD), q ∈ L' := fun q hq => (List.mem_mergeSort).mp hq
  refine q _ _ _ _ (h1 ((L'.map fp).mergeSort lexLe) ⟨?_, fun z => ?_, ?_⟩) ((I1.grow sA).grow (same_new hp _)) (Gr.trans g1 (Gr.of (Same.trans sA (same_new hp _)))) ?_
  · rw [(List.mergeSort_perm _ _).nodup_iff]
    have n1 : (L'.map (·.2)).Nodup := (pm.map (·.2)).nodup_iff.mpr nd
    have : L'.map (·.2) = (L'.map fp).map fun z => [z.1, z.2] := by
      rw [List.map_map]
      exact List.map_congr_left fun q hq => Lf q hq
    rw [this] at n1
    exact List.Pairwise.of_map _ (fun x y hne e => hne (by rw [e])) n1
  · rw [List.mem_mergeSort, List.mem_map]
    constructor
    · rintro ⟨q, hq, rfl⟩
      have hq2 := hsub q (pm.mem_iff.mp hq)
      have : q.2 ∈ ks.map (·.2) := List.mem_map.mpr ⟨q, hq2, rfl⟩
      rw [e2] at this
      obtain ⟨z, hz, e⟩ := List.mem_map.mp this
      have : fp q = z := by unfold fp; rw [← e]; rfl
      rw [this]; exact hz
    · intro hz
      have : [z.1, z.2] ∈ ks.map (·.2) := by rw [e2]; exact List.mem_map.mpr ⟨z, hz, rfl⟩
      obtain ⟨q, hq, e⟩ := List.mem_map.mp this
      obtain ⟨q', hq', e'⟩ := List.mem_map.mp (hall q hq)
      refine ⟨q', pm.mem_iff.mpr hq', ?_⟩
      unfold fp; rw [show q'.2 = [z.1, z.2] from e'.trans e]; rfl
  · exact List.pairwise_mergeSort (le := lexLe) (fun a b c => lexLe_trans a b c) (fun a b => lexLe_total a b) _
  · have rp := rows_pairs (K := X.K) (hs := c.hs ρ) (H := H1) (ks := L'.mergeSort (PySem.W.dataLe false tpD)) fun q hq => e3 q (hsub q (pm.mem_iff.mp (inS q hq)))
    have ed : (L'.mergeSort (PySem.W.dataLe false tpD)).map tpD = ((L'.map fp).mergeSort lexLe).map pD := by
      rw [← srt, List.map_map]
      exact List.map_congr_left fun q hq => by
        show tpD q = pD (fp q)
        unfold tpD pD; rw [Lf q (inS q hq)]; rfl
    rw [ed] at rp
    exact dq_newL (I1.grow sA).dom hp (dpAll_mono (hid_same sA) rp)
end
end DL

/-! DL16: the bag's items read and changed. -/
namespace DL
open PySem L2
section
variable {X : Cx} {K : PySem.W.Frag} {pos p xp cp : Pos} {e : Expr}
def bagD (b : Bag) : Nat → D
  | 0 => .int b.1
  | 1 => .int b.2.1
  | 2 => .int b.2.2.1
  | _ => .list (b.2.2.2.map .int)
def bagS (b : Bag) (i : Int) : Nat → Bag
  | 0 => (i, b.2)
  | 1 => (b.1, i, b.2.2)
  | _ => (b.1, b.2.1, i, b.2.2.2)
theorem bag_get {hs : List Addr} {H : Hp} {l : Addr} {b : Bag} (h : BagAt K hs H l b) (k : Nat) (hk : k < 4) : ∃ vs v, H l = some (.lst vs) ∧ atI vs (k : Int) = some v ∧ Dq K (hid hs H) v (bagD b k) := by
  obtain ⟨q, h1, h2⟩ := h
  match k, hk with
  | 0, _ => exact ⟨_, _, h1, rfl, .int _⟩
  | 1, _ => exact ⟨_, _, h1, rfl, .int _⟩
  | 2, _ => exact ⟨_, _, h1, rfl, .int _⟩
  | 3, _ => exact ⟨_, _, h1, rfl, h2⟩
/-- bag[k] -/
def wBagI (i k : Nat) : WE := fun ρ b Φ => ρ[i]? = some .bag ∧ Φ (bagD b k) b
theorem d_bagI (i k : Nat) {x : Str} {j : Nat} (hk : k < 4 := by decide) (hN : X.N[i]? = some x := by rfl) (hv : Vis X.env.scope x := by first | exact Or.inl rfl | exact Or.inr (Or.inl rfl) | exact Or.inr (Or.inr rfl)) (hd : (x == ("__debug__" : Str)) = false := by decide) (hcd : (x == ("__classdict__" : Str)) = false := by decide) :
    DE X (.Subscript (.Name x xp) (.Constant (.int (k : Int)) j cp) pos) (wBagI i k) := by
  refine ⟨_, pe_ix ix_seq (pe_var hN hv hd hcd) pe_int (fun _ _ => rfl), fun c ρ b σ H Φ Q I ⟨hb, h⟩ q => ?_⟩
  obtain ⟨o, h1, l, h2, h3⟩ := I.sl i _ hb
  obtain ⟨vs, v, h4, h5, h6⟩ := bag_get (I.bag l h2) k hk
  exact ⟨.ref l, by rw [h1, h3], .inl ⟨l, vs, (k : Int), v, rfl, rfl, SqL.of h4, h5, q _ _ _ _ h I (Gr.refl _ _) h6⟩⟩
/-- the bag's item at k set -/
theorem En.setBag {c : Fr} {ρ : Env} {b : Bag} {σ : St} {H : Hp} {l : Addr} (I : En K c ρ b σ H) (hl : c.bag = some l) (k : Nat) (hk : k < 3) (m : Int) :
    ∃ vs, H l = some (.lst vs) ∧ vs.length = 4 ∧ En K c ρ (bagS b m k) σ (upd H l (.lst (vs.set k (.int m)))) ∧ Gr (c.hs ρ) H (upd H l (.lst (vs.set k (.int m)))) := by
  obtain ⟨q, h1, h2⟩ := I.bag l hl
  have hm : l ∈ c.hs ρ := List.mem_append_left _ (List.mem_append_right _ (by rw [hl]; simp))
  refine ⟨_, h1, rfl, I.keep (fun a o z h => ?_) fun p hp => ?_⟩
  · rw [upd_ne (fun e => z (by rw [hl, e]))]; exact h
  · rw [hl] at hp; cases hp
    refine ⟨q, ?_, by rw [hid_upd_in hm]; match k, hk with | 0, _ => exact h2 | 1, _ => exact h2 | 2, _ => exact h2⟩
    rw [upd_same]
    match k, hk with
    | 0, _ => rfl
    | 1, _ => rfl
    | 2, _ => rfl
def sBagS (i k : Nat) (w : WE) : WS := fun ρ b Φ => ρ[i]? = some .bag ∧ w ρ b fun d b1 => ∃ m, d = .int m ∧ Φ (.nx ρ (bagS b1 m k))
theorem s_bagS (i k : Nat) {x : Str} {j : Nat} {w : WE} {tp : Pos} (he : DE X e w) (hk : k < 3 := by decide) (hN : X.N[i]? = some x := by rfl) (hv : Vis X.env.scope x := by first | exact Or.inl rfl | exact Or.inr (Or.inl rfl) | exact Or.inr (Or.inr rfl)) (hd : (x == ("__debug__" : Str)) = false := by decide) (hcd : (x == ("__classdict__" : Str)) = false := by decide)
    (hs : swapsWithSole [.Subscript (.Name x xp) (.Constant (.int (k : Int)) j cp) tp] e pos.line X.env = pure false := by rfl) (hw : swappedStores [.Subscript (.Name x xp) (.Constant (.int (k : Int)) j cp) tp] e X.env = pure none := by rfl)
    (h1 : (assignEach [.Subscript (.Name x xp) (.Constant (.int (k : Int)) j cp) tp] X.env).map (·.2) = [assign (.Subscript (.Name x xp) (.Constant (.int (k : Int)) j cp) tp) X.env] := by rfl) :
    DS X (.Assign [.Subscript (.Name x xp) (.Constant (.int (k : Int)) j cp) tp] e pos) (sBagS i k w) := by
  obtain ⟨te, p1, s1⟩ := he.ex
  refine ⟨_, ps_asg p1 (pg_sub (pe_var hN hv hd hcd) pe_int set_list) hs hw h1, fun c ρ b σ H B Φ E I hB ⟨hb, h⟩ q => ?_⟩
  refine s1 c ρ b σ H _ _ I h fun d b1 v H1 ⟨m, e, h1⟩ I1 g1 r1 => ?_
  subst e
  obtain ⟨o, e1, l, e2, e3⟩ := I1.sl i _ hb
  obtain ⟨vs, h2, h3, I2, g2⟩ := I1.setBag e2 k hk m
  rw [r1.int_inv]
  exact ⟨.ref l, by rw [e1, e3], l, vs, (k : Int), k, rfl, rfl, h2, by rw [h3]; unfold ixN; rw [if_pos (by omega), if_pos (by omega)]; simp, q.nx _ _ _ _ h1 I2 (Same.trans hB (Same.trans g1 g2))⟩
def sBagA (i k : Nat) (w : WE) : WS := fun ρ b Φ => ρ[i]? = some .bag ∧ ∃ n, bagD b k = .int n ∧ w ρ b fun d b1 => ∃ m, d = .int m ∧ Φ (.nx ρ (bagS b1 (n + m) k))
theorem get_list3 : PGet X (fun o i H Q => ∃ l vs k v, o = .ref l ∧ i = .int (k : Nat) ∧ H l = some (.lst vs) ∧ vs[k]? = some v ∧ Q v H) := by
  intro pins s σ H o i ov iv Q I ro ri ⟨l, vs, k, v, e1, e2, h1, h2, q⟩
  subst e1 e2
  cases ro
  obtain ⟨t, rfl⟩ := ri
  obtain ⟨its, rv, pl, hz⟩ := I.list (SqL.of h1)
  obtain ⟨u, hu, ru⟩ := rv.get h2
  have hlt : k < vs.length := (List.getElem?_eq_some_iff.mp h2).1
  have hn := line63
  exact PyProof.Rows.getItem_listL pl.isList (by omega) (by omega) (by simpa using hu) ⟨v, H, I, ru, q⟩
theorem s_bagA (i k : Nat) {x : Str} {j : Nat} {w : WE} {tp : Pos} (he : DE X e w) (hk : k < 3 := by decide) (hN : X.N[i]? = some x := by rfl) (hv : Vis X.env.scope x := by first | exact Or.inl rfl | exact Or.inr (Or.inl rfl) | exact Or.inr (Or.inr rfl)) (hd : (x == ("__debug__" : Str)) = false := by decide) (hcd : (x == ("__classdict__" : Str)) = false := by decide) :
    DS X (.AugAssign (.Subscript (.Name x xp) (.Constant (.int (k : Int)) j cp) tp) .Add e pos) (sBagA i k w) := by
  obtain ⟨te, p1, s1⟩ := he.ex
  refine ⟨_, ps_augS (pe_var hN hv hd hcd) pe_int get_list3 p1 ip_add set_list, fun c ρ b σ H B Φ E I hB ⟨hb, n, hn, h⟩ q => ?_⟩
  obtain ⟨o, e1, l, e2, e3⟩ := I.sl i _ hb
  obtain ⟨vs, v, h4, h5, h6⟩ := bag_get (I.bag l e2) k (by omega)
  rw [hn] at h6
  have h5' : vs[k]? = some (.int n) := by
    rw [h6.int_inv] at h5
    unfold atI ixN at h5
    rw [if_pos (by omega)] at h5
    by_cases z : ((k : Int) < (vs.length : Int))
    · rw [if_pos z] at h5; simpa using h5
    · rw [if_neg z] at h5; cases h5
  refine ⟨.ref l, by rw [e1, e3], l, vs, k, .int n, rfl, rfl, h4, h5', ?_⟩
  refine s1 c ρ b σ H _ _ I h fun d b1 v1 H1 ⟨m, e, h1⟩ I1 g1 r1 => ?_
  subst e
  obtain ⟨vs1, h2, h3, I2, g2⟩ := I1.setBag e2 k hk (n + m)
  refine ⟨n, m, rfl, r1.int_inv, ?_⟩
  exact ⟨l, vs1, (k : Int), k, rfl, rfl, h2, by rw [h3]; unfold ixN; rw [if_pos (by omega), if_pos (by omega)]; simp, q.nx _ _ _ _ h1 I2 (Same.trans hB (Same.trans g1 g2))⟩
end
end DL

/-! DL17: try with no exception; xs.index(x); a def handed in; sorted of a dict of ints. -/
namespace DL
open PySem PySem.Spec PyProof.Rows L2
section
variable {X : Cx} {K : PySem.W.Frag} {pos p pb : Pos} {e a : Expr} {es : List Expr}
theorem s_try {body : List Stmt} {h₀ : ExceptHandler} {hs : List ExceptHandler} {w : WS} (hb : DSs X.nox body w) : DS X (.Try body (h₀ :: hs) [] [] pos) w := by
  obtain ⟨ts, p1, s1⟩ := hb.ex
  exact ⟨_, ps_try_thru0 p1, s1⟩
/-- xs.index(x): the first equal one -/
def oIndex : Op2 := fun d e Φ => ∃ (ds : List D) (j : Nat) (z : D), d = .list ds ∧ SeqAt.shaped (.list ds) = true ∧ SeqAt.shaped e = true ∧ ds[j]? = some z ∧ PyData.eqv z e = true ∧ (∀ (m : Nat) (z' : D), m < j → ds[m]? = some z' → PyData.eqv z' e = false) ∧ Φ (.int (j : Nat))
theorem d_index {w u : WE} {apos cpos : Pos} (hu : X.A.units + 65 < cLine) (h1 : DE X e w) (h2 : DE X a u) (hbase : attributeBase e "index" X.env (eval e X.env) = eval e X.env := by rfl)
    (hfew : ((backTo cpos (starEach [a] X.env)).all (fun x => !x.1) && (backToKw cpos (keywordEach [] X.env)).all (fun x => x.1.isSome)
      && decide (([a] : List Expr).length + ([] : List Keyword).length + (if ([] : List Keyword).isEmpty then 0 else 1) < 30)) = true := by rfl)
    (hline : (apos.endLine == cpos.line) = true := by rfl) (hs : starEach [a] X.env = (false, eval a X.env) :: starEach [] X.env := by rfl) :
    DE X (.Call (.Attribute e "index" apos) [a] [] cpos) (fun ρ b Φ => w ρ b fun d b1 => (∃ ds, d = .list ds) ∧ u ρ b1 fun f b2 => oIndex d f fun g => Φ g b2) := by
  obtain ⟨te, p1, s1⟩ := h1.ex
  obtain ⟨tu, p2, s2⟩ := h2.ex
  refine ⟨_, pe_bm PySem.F.plainAttrs_list PySem.F.slot_list_index PySem.F.type_list_index (mt_indexD hu) p1 (pa_cons p2 pa_nil hs) hbase hfew hline hs (by rfl), fun c ρ b σ H Φ Q I h q => ?_⟩
  refine s1 c ρ b σ H _ _ I h fun d b1 v H1 ⟨⟨ds, e⟩, h1⟩ I1 g1 r1 => ?_
  subst e
  obtain ⟨l, xs, rfl, r2, r3⟩ := r1.lst_inv
  refine ⟨.inl ⟨rfl, xs, SqL.of (hid_le _ _ r2)⟩, s2 c ρ b1 σ H1 _ _ I1 h1 fun f b2 v2 H2 ⟨ds', j, z, e1, h3, h4, h5, h6, h7, h8⟩ I2 g2 rf => ?_⟩
  cases e1
  exact ⟨l, v2, f, ds, j, z, rfl, rfl, (dp_mono hid_le (dp_mono g2 (.lst r2 r3 : Dq X.K _ (.ref l) (.list ds)))).dp (noDict_shaped h3), (dp_mono hid_le rf).dp (noDict_shaped h4), h3, h4, h5, h6, h7, q _ _ _ _ h8 I2 (Gr.trans g1 g2) (.int _)⟩
/-! ### a def handed in -/
/-- the def at f keeps a promise by data -/
structure ClF (P : Program) (w : World) (K : PySem.W.Frag) (mg : Str → Option Value) (base : Heap) (f : Addr) (k : Nat) (sp : Sp) : Prop where
  ex : ∃ fd ps, FnG P w K mg base k f fd ps sp ∧ Binds K fd ps [] ∧ PySem.W.keepIn K (.ref f) = true
theorem ClF.mono {P : Program} {w : World} {K : PySem.W.Frag} {mg : Str → Option Value} {base : Heap} {f : Addr} {j k : Nat} {sp : Sp} (h : ClF P w K mg base f j sp) (hk : j ≤ k) : ClF P w K mg base f k sp :=
  let ⟨fd, ps, h1, h2, h3⟩ := h.ex; ⟨fd, ps, h1.mono hk, h2, h3⟩
def wCallV (i : Nat) (f : Addr) (S : SpF) (wa : WA) : WE := fun ρ b Φ => ρ[i]? = some (.fn f) ∧ wa ρ b fun ds b1 => S ds fun d => Φ d b1
theorem d_callV (i : Nat) {f : Addr} {k : Nat} {x : Str} {S : SpF} {wa : WA} (hc : ClF X.prog X.w X.K X.mg X.base f k (spP X.K S)) (hgd : X.A.guards = some []) (hr : Room k X.A) (ha : DA X (e :: es) wa) (hN : X.N[i]? = some x := by rfl)
    (hv : Vis X.env.scope x := by first | exact Or.inl rfl | exact Or.inr (Or.inl rfl) | exact Or.inr (Or.inr rfl)) (hdb : (x == ("__debug__" : Str)) = false := by decide) (hcd : (x == ("__classdict__" : Str)) = false := by decide)
    (he : starEach (e :: es) X.env = (false, eval e X.env) :: starEach es X.env := by rfl) (hpl : (backTo pos (starEach es X.env)).any (·.1) = false := by rfl) : DE X (.Call (.Name x p) (e :: es) [] pos) (wCallV i f S wa) := by
  obtain ⟨fd, ps, F, hb, hk⟩ := hc.ex
  obtain ⟨ta, pa, s⟩ := ha.ex
  have pv : PE X (.Name x p) (tVar i) := pe_var hN hv hdb hcd
  refine ⟨fun σ H Q => tVar i σ H fun v H1 => v = .ref f ∧ ta σ H1 fun vs H2 => spP X.K S vs H2 Q E0, ⟨fun pins s0 σ H Q I h => ?_⟩, fun c ρ b σ H Φ Q I ⟨hf, h⟩ q => ?_⟩
  · refine wpAny_Call_Name_kw (thn (pv.run pins s0 σ H _ I h) fun u s1 ⟨v, H1, I1, r1, ev, q1⟩ => ?_)
    subst ev
    cases r1
    refine PySem.W.callWith_K (h₀ := X.base) I.ok.mod.kin hk (thn (pa.run pos pins s1 σ H1 _ I1 q1) fun us s2 ⟨vs, H2, I2, r2, q2⟩ => ⟨I2.kIn, ?_⟩) he hpl
    have hl : us.length = ps.length := r2.length.symm.trans (F.len _ _ _ _ q2)
    have bind := hb s2 us I2.kIn (by rw [List.append_nil]; exact hl)
    rw [List.append_nil] at bind
    refine wpAny_call (codeAny_mono (F.go X.A X.stack s2 H2 ⟨us, []⟩ us vs Q hgd hr I2.env0 bind r2 q2) fun r s' ⟨u, er, ce⟩ => ?_)
    subst er
    exact I2.after ce
  · obtain ⟨o, h1, h2⟩ := I.sl i _ hf
    refine ⟨.ref f, by rw [h1, h2], rfl, ?_⟩
    refine s c ρ b σ H _ _ I h fun ds b1 vs H1 h1 I1 g1 r1 => ?_
    exact ⟨c.hs ρ, ds, _, I1.nd, I1.dom, r1, h1, fun d v H' h2 g2 r2 => q _ _ _ _ h2 (I1.grow g2) (g1.trans (Gr.of g2)) r2⟩
end
end DL

/-! DL18: dicts whose keys are tuples of ints, as they stand (their keys' tuples may be the module's own). -/
namespace DL
open PySem PySem.Spec PyProof.Rows L2
abbrev Row := List Key × Addr × Value
abbrev keyI (ns : List Int) : List Key := ns.map Sum.inl
abbrev tkd (P : Program) (w : World) : HeapKind P w (List Key) := tupleKind (mixKind P w)
abbrev rowK (r : RowI) : Row := (keyI r.1, r.2)
theorem DicH.stay {h h' : Heap} {a : Addr} {L : List RowI} {o : Obj} (d : DicH h a L o) (k : ∀ o, h.get? a = some o → h'.get? a = some o) : DicH h' a L o := ⟨d.big, k _ d.get, d.ex⟩
theorem dic_ok {P : Program} {w : World} {H : Hp} {h : Heap} {a : Addr} {L : List RowI} {o : Obj} (d : DicH h a L o) : ObjOk P w H h a (DicO a L o) := ⟨d, ⟨o, d.get⟩, fun h1 h2 p k => p.stay k⟩
/-- the keys' tuples stand -/
def RowsOk (K : PySem.W.Frag) (H : Hp) (L : List RowI) : Prop := ∀ r ∈ L, SqT K H r.2.1 (r.1.map V.int)
theorem RowsOk.mono {K : PySem.W.Frag} {H H' : Hp} {L : List RowI} (s : Same H H') (h : RowsOk K H L) : RowsOk K H' L := fun r hr => seqT s (h r hr)
theorem hash_row {P : Program} {w : World} (r : RowI) : entryOfKey (tkd P w) (rowK r) = ⟨hashI r.1, .ref r.2.1, r.2.2⟩ := by
  show (⟨reduceHash (Builtin.Tuple.tupleHashOf ((r.1.map Sum.inl).map (keyH w))), .ref r.2.1, r.2.2⟩ : DictEntry) = _
  rw [List.map_map]
  rfl
theorem keyI_inj {a b : List Int} (h : keyI a = keyI b) : a = b := by
  induction a generalizing b with
  | nil => cases b with | nil => rfl | cons _ _ => cases h
  | cons x a ih =>
    cases b with
    | nil => cases h
    | cons y b =>
      simp only [keyI, List.map_cons, List.cons.injEq, Sum.inl.injEq] at h
      rw [h.1, ih h.2]
theorem rows_entries {P : Program} {w : World} (L : List RowI) : (L.map rowK).map (entryOfKey (tkd P w)) = L.map (fun r => ⟨hashI r.1, .ref r.2.1, r.2.2⟩) := by
  rw [List.map_map]; exact List.map_congr_left fun r _ => hash_row r
theorem rows_nodup {L : List RowI} : ((L.map rowK).map (·.1)).Nodup ↔ (L.map (·.1)).Nodup := by
  rw [List.map_map]
  constructor
  · intro h
    have : (L.map (·.1)).map keyI = L.map ((·.1) ∘ rowK) := by rw [List.map_map]; rfl
    rw [← this] at h
    exact List.Pairwise.of_map _ (fun x y hne e => hne (by rw [e])) h
  · intro h
    have : (L.map (·.1)).map keyI = L.map ((·.1) ∘ rowK) := by rw [List.map_map]; rfl
    rw [← this]
    exact List.Pairwise.map _ (fun x y hne e => hne (keyI_inj e)) h
/-- k: v put into rows -/
def putI (L : List RowI) (ns : List Int) (b : Addr) (v : Value) : List RowI :=
  if (L.any fun r => decide (r.1 = ns)) = true then L.map (fun r => if r.1 = ns then (r.1, r.2.1, v) else r) else L ++ [(ns, b, v)]
section
variable {X : Cx} {pins : List (Addr × Obj)} {σ : L2.St} {H : Hp} {s : Shared}
theorem keyI_kV (ns : List Int) : (keyI ns).map kV = ns.map V.int := by
  unfold keyI; rw [List.map_map]; rfl
theorem key_is (I : Inv X pins σ H s) {b : Addr} {ns : List Int} (h : SqT X.K H b (ns.map V.int)) : (tkd X.prog X.w).is s.heap (keyI ns) b := by
  obtain ⟨its, rv, p, _⟩ := I.tuple h
  obtain ⟨o, h1, h2, n, h3⟩ := p
  exact ⟨o, its.toArray, n, h1, h2, h3, by rw [List.toList_toArray]; exact items_are (by rw [keyI_kV]; exact rv)⟩
theorem dic_of (I : Inv X pins σ H s) {a : Addr} {L : List RowI} {o : Obj} (h : H a = some (DicO a L o)) (hr : RowsOk X.K H L) : s.heap.DictOfH (tkd X.prog X.w) a (L.map rowK) := by
  have d := (I.hok a _ h).1
  obtain ⟨es, ep, h2, h3, h4, h5⟩ := d.ex
  refine ⟨o, es, ep, d.get, h2, h3, by rw [rows_entries]; exact h4, fun x hx => ?_, rows_nodup.mpr h5⟩
  obtain ⟨r, hr', rfl⟩ := List.mem_map.mp hx
  exact key_is I (hr r hr')
theorem of_dic {P : Program} {w : World} {h : Heap} {a : Addr} {L : List RowI} (hb : (a == sysModules) = false) (d : h.DictOfH (tkd P w) a (L.map rowK)) : ∃ o, DicH h a L o :=
  let ⟨o, es, ep, h1, h2, h3, h4, _, h5⟩ := d; ⟨o, hb, h1, es, ep, h2, h3, by rw [← rows_entries (P := P) (w := w)]; exact h4, rows_nodup.mp h5⟩
theorem stored_rows (L : List RowI) (ns : List Int) (b : Addr) (v : Value) : storedH (L.map rowK) (keyI ns) b v = (putI L ns b v).map rowK := by
  have hk : ∀ r : RowI, decide ((rowK r).1 = keyI ns) = decide (r.1 = ns) := fun r => by
    by_cases z : r.1 = ns
    · simp [z, rowK]
    · have : ¬ (rowK r).1 = keyI ns := fun e => z (keyI_inj e)
      simp [z, this]
  have ha : (atKey (L.map rowK) (keyI ns)).isSome = L.any fun r => decide (r.1 = ns) := by
    unfold atKey
    rw [Option.isSome_map, Bool.eq_iff_iff, List.find?_isSome, List.any_eq_true]
    constructor
    · rintro ⟨x, hx, p⟩
      obtain ⟨r, hr, rfl⟩ := List.mem_map.mp hx
      exact ⟨r, hr, by rw [← hk r]; exact p⟩
    · rintro ⟨r, hr, p⟩
      exact ⟨rowK r, List.mem_map.mpr ⟨r, hr, rfl⟩, by rw [hk r]; exact p⟩
  unfold storedH putI
  rw [ha]
  by_cases c : (L.any fun r => decide (r.1 = ns)) = true
  · rw [if_pos c, if_pos c, List.map_map, List.map_map]
    refine List.map_congr_left fun r _ => ?_
    show putAt (keyI ns) v (rowK r) = rowK (if r.1 = ns then (r.1, r.2.1, v) else r)
    unfold putAt
    by_cases z : r.1 = ns
    · rw [if_pos (by rw [← z]), if_pos z]
    · rw [if_neg (fun e => z (keyI_inj e)), if_neg z]
  · rw [if_neg c, if_neg c, List.map_append]
    rfl
theorem dic_set (I : Inv X pins σ H s) {a b : Addr} {L : List RowI} {o : Obj} {ns : List Int} {v : Value} {E : Value → Shared → Prop} {Q : Unit → Shared → Prop} (hu : X.A.units < cLine) (h : H a = some (DicO a L o)) (hr : RowsOk X.K H L) (hb : SqT X.K H b (ns.map V.int)) (hz : L.length ≤ sizeLine)
    (q : ∀ s' o', Inv X pins σ (upd H a (DicO a (putI L ns b v) o')) s' → Q () s') : wpAny (model X.prog X.w) X.A (dictSet a (.ref b) v) Q E s := by
  refine wpAny_dictSet_heap hu (key_is I hb) (dic_of I h hr) (fun h' d sb => ?_) (by rw [List.length_map]; exact hz)
  rw [stored_rows] at d
  obtain ⟨o', d0⟩ := of_dic (I.hok a _ h).1.big d
  refine q _ o' ?_
  exact I.write (x := a) (e := a) (by rw [h]; exact True.intro) (.inl rfl) (fun c u hc z => (sb.2 c hc).trans z) ⟨o', d0.get⟩ (dic_ok d0)
def valOk : V → Prop
  | .bl _ => True
  | .ref _ => True
  | _ => False
theorem rel_vOf {v : V} {u : Value} (r : RelV v u) (h : valOk v) : u = vOf v := by
  cases v with
  | bl b => exact r
  | ref a => exact r
  | _ => cases h
/-- a new dict -/
abbrev dict0 : Obj := { cls := .type "dict", data := .dict #[] }
/-- {k: v for target in iter}, keys tuples of ints -/
def tDcT (X : Cx) (wi : TI) (g : TG) (tk tv : TE) (vs : List Nat) : TE := fun σ H Q => wi σ H fun J H1 => ∀ D, H1 D = none → ∃ W : Nat → Nat → Hp → Prop, (∃ m, W 0 m (upd H1 D (DicO D [] dict0))) ∧ ∀ i m H, W i m H →
  (J.stop i H ∧ Q (.ref D) H) ∨ (J.go i H ∧ ∃ Nx : Hp → Prop, (∀ H', Nx H' → ∃ m', m' < m ∧ W (i + 1) m' H') ∧ ∀ x H', J.yld i H x H' → g x (wipe σ vs) H' fun σ2 H2 => wipe σ2 vs = wipe σ vs ∧
    tk σ2 H2 fun y H4 => tv σ2 H4 fun z H5 => ∃ L o ns b, y = .ref b ∧ SqT X.K H5 b (ns.map V.int) ∧ H5 D = some (DicO D L o) ∧ RowsOk X.K H5 L ∧ L.length < sizeLine ∧ valOk z ∧ ∀ o', Nx (upd H5 D (DicO D (putI L ns b (vOf z)) o')))
theorem empty_dic (h : Heap) (hb : sysModules < h.objs.size) : DicH (h.push dict0) h.objs.size [] dict0 :=
  ⟨beq_eq_false_iff_ne.mpr (Ne.symm (Nat.ne_of_lt hb)), Heap.get?_push_size _ rfl, #[], 0, ⟨rfl, rfl, rfl⟩, rfl, rfl, List.nodup_nil⟩
theorem dcT_core {Q : VK} {kx vx tg iter : Expr} {scope : Scope} {own : List (Str × Nat)} {pos : Pos} {wi : TI} {g : TG} {tk tv : TE} (hu : X.A.units < cLine)
    (hc : X.calm = true) (hN : X.N.Nodup) (I : Inv X pins σ H s) (hi : PI X tg iter wi) (ok : BlkOk X.N X.env.scope scope own)
    (hg : Blk X scope fun Y => PG Y tg g) (hk : Blk X scope fun Y => PE Y kx tk) (he : Blk X scope fun Y => PE Y vx tv) (hs : ∀ x, foldedSetIterable iter X.env x = pure x)
    (h : tDcT X wi g tk tv (own.map (·.2)) σ H Q) : wpAny (model X.prog X.w) X.A (eval (.DictComp kx vx [⟨tg, iter, [], 0⟩] scope pos) X.env) (EP X pins σ Q) X.xe s := by
  rw [arm_eval_DictComp]
  have hfree : ∀ y ∈ scope.names, y.2 = .free → ∃ c, X.env.cells.lookup y.1 = some c := fun y hy e =>
    (ok.free y hy e).elim (fun z => I.ok.has _ (.inl z)) fun z => I.ok.has _ (.inr z)
  refine wpAny_comprehension_free rfl hs (closure_ok hfree) ok.kind (fun y hy e => by rw [ok.uniq y hy, e]) (thn (hi.run pins s σ H _ I h) fun xv s1 hx => thn hx fun itv s2 ⟨it, fp, tn, J, H2, e, I2, T, st2, f2, q⟩ => ?_)
  subst e
  refine wpAny_newObj_type (newEnv_comp ?_)
  obtain ⟨D, hD⟩ : ∃ D, D = s2.heap.objs.size := ⟨_, rfl⟩
  rw [← hD]
  have hDn : H2 D = none := I2.hok.fresh (Nat.le_of_eq hD.symm)
  obtain ⟨W, ⟨m0, w0⟩, turn⟩ := q D hDn
  generalize hs3 : ({ s2 with heap := s2.heap.push { cls := .type "dict", data := .dict #[] } } : Shared) = s3
  have hp3 : s3.heap = s2.heap.push { cls := .type "dict", data := .dict #[] } := by rw [← hs3]
  have I3 : Inv X pins σ (upd H2 D (DicO D [] dict0)) s3 := by
    rw [← hs3]
    refine I2.laid (t' := s2.toks) (fun b o e => Heap.get?_push_of_some _ e) (Nat.le_of_eq hD.symm) (dic_ok ?_)
    rw [hD]; exact empty_dic s2.heap I2.big
  have small : ∀ b ∈ fp, b < s2.heap.objs.size := fun b hb => let ⟨o, e, _⟩ := T.obj _ _ st2 b hb; Heap.lt_size e
  have f3 : ∀ b ∈ fp, FpOk X pins (upd H2 D (DicO D [] dict0)) b ∧ b < s3.heap.objs.size := fun b hb => by
    have lt := small b hb
    refine ⟨⟨?_, (f2 b hb).2⟩, by rw [hp3, Heap.size_push]; exact Nat.lt_succ_of_lt lt⟩
    rw [upd_ne (Nat.ne_of_lt (by rw [hD]; exact lt))]; exact (f2 b hb).1
  have st3 : tn 0 s3.heap := T.keep _ _ _ st2 fun b _ o e => by rw [hp3]; exact Heap.get?_push_of_some _ e
  have I4 := block_start I3 ok hN f3
  have nfp : ∀ b ∈ fp, (upd H2 D (DicO D [] dict0)) b = none := fun b hb => (f3 b hb).1.1
  show codeAny _ _ (.compStart (.DictComp kx vx [⟨tg, iter, [], 0⟩] scope pos) 0 (.ref it) (.ref D) (compEnvC scope (cellsFrom (s3.heap.objs.size + 1) scope.names (cloFrom X.env.cells scope.names [])) s3.heap.objs.size X.env)) (compPost (model X.prog X.w) X.A X.xe none (EP X pins σ Q) (.ref D) s3.heap.objs.size) { s3 with heap := pushCells (s3.heap.push { cls := .type "dict", data := .dict #[] }) scope.names }
  generalize hce : compEnvC scope (cellsFrom (s3.heap.objs.size + 1) scope.names (cloFrom X.env.cells scope.names [])) s3.heap.objs.size X.env = ce at I4 ⊢
  have cL : ce.locals = s3.heap.objs.size := by rw [← hce]; rfl
  generalize hH3 : upd H2 D (DicO D [] dict0) = H3 at I3 I4 w0 nfp
  generalize hs4 : ({ s3 with heap := pushCells (s3.heap.push { cls := .type "dict", data := .dict #[] }) scope.names } : Shared) = s4 at I4 ⊢
  have f3' : ∀ b ∈ fp, FpOk X pins H3 b ∧ b < s3.heap.objs.size := fun b hb => by rw [← hH3]; exact f3 b hb
  have pg : PG (X.blk s3 H3 scope ce fp) tg g := by rw [← hce]; exact hg s3 H3 _ _ fp
  have pk : PE (X.blk s3 H3 scope ce fp) kx tk := by rw [← hce]; exact hk s3 H3 _ _ fp
  have pv : PE (X.blk s3 H3 scope ce fp) vx tv := by rw [← hce]; exact he s3 H3 _ _ fp
  have st4 : tn 0 s4.heap := T.keep _ _ _ st3 fun b _ o e => by rw [← hs4]; exact pushCells_keeps _ _ _ _ (Heap.get?_push_of_some _ e)
  have stat : ∀ {σ' : L2.St} {H' : Hp} {s' : Shared}, Inv (X.blk s3 H3 scope ce fp) [] σ' H' s' → (∀ b ∈ fp, H' b = none) → ∀ b ∈ fp, FpOk (X.blk s3 H3 scope ce fp) [] H' b := fun {σ' H' s'} J' hn b hb =>
    ⟨hn b hb, (J'.ok.exf b hb).1, J'.ok.exfs b hb, .inl hb, fun x c e => (J'.ok.exf b hb).2 x c e, fun p hp => absurd (show p ∈ ([] : List (Addr × Obj)) ++ [] from hp) (by simp)⟩
  have loop : codeAny (model X.prog X.w) X.A (.compLoop (.DictComp kx vx [⟨tg, iter, [], 0⟩] scope pos) 0 (.ref it) (.ref D) ce) (compPost (model X.prog X.w) X.A X.xe none (EP X pins σ Q) (.ref D) s3.heap.objs.size) s4 := by
    refine compLoop_anyD (fun n s' => ∃ i H', Inv (X.blk s3 H3 scope ce fp) [] (wipe σ (own.map (·.2))) H' s' ∧ tn i s'.heap ∧ (∀ b ∈ fp, H' b = none) ∧ W i n H') (fun n s5 ⟨i, H5, I5, st5, n5, w5⟩ => ?_) m0 ⟨0, H3, I4, st4, nfp, w0⟩
    rcases turn i n H5 w5 with ⟨stop, qq⟩ | ⟨go, Nx, hNx, step⟩
    · refine thnF (T.done (X.blk s3 H3 scope ce fp) rfl rfl rfl hc i [] s5 _ H5 (fun _ _ => False) I5 (stat I5 n5) st5 stop) fun r s6 ⟨hr, I6⟩ => ?_
      subst hr
      have I7 : Inv X pins σ H5 s6 := I3.call' (ch := fp) I6.os I6.base I6.hok I6.bare fun b hb => ⟨(f3' b hb).1.2.2.2.1, (f3' b hb).1.2.1, (f3' b hb).1.2.2.2.2.1, (f3' b hb).1.2.2.2.2.2⟩
      have nC : H5 s3.heap.objs.size = none := by rw [← cL]; exact I6.free
      obtain ⟨m, hn, _⟩ := I6.loc
      have hn : s6.heap.Ns s3.heap.objs.size m := by rw [← cL]; exact hn
      obtain ⟨z0, z1, z2, z3, z4, z5⟩ := I3.fpOk (Nat.le_refl _) nC
      exact ⟨m, hn, fun h'' sb => ⟨.ref D, H5, I7.turned (t' := s6.toks) (fun b o hb e => (sb.2 b hb).trans e) z0 z1 z3 z4 z5, rfl, qq⟩⟩
    · refine thnF (T.item (X.blk s3 H3 scope ce fp) rfl rfl rfl hc i [] s5 _ H5 (fun _ _ => False) I5 (stat I5 n5) st5 go) fun r s6 ⟨u, hr, h6⟩ => ?_
      subst hr
      refine thnF h6 fun _ s7 ⟨x, H7, I7, r7, y7, st7, n7⟩ => ?_
      have P7 := I7.pinned (stat I7 n7) (T.obj _ _ st7)
      refine thnF (pg.run _ s7 _ H7 x u _ P7 r7 (step x H7 y7)) fun _ s8 ⟨σ8, H8, I8, hw8, q8⟩ => ?_
      refine thnF ((pts_nil (X := X.blk s3 H3 scope ce fp)).run _ s8 σ8 H8 (fun b H' => b = true ∧ tk σ8 H' fun y H4 => tv σ8 H4 fun z H5 => ∃ L o ns b, y = .ref b ∧ SqT X.K H5 b (ns.map V.int) ∧ H5 D = some (DicO D L o) ∧ RowsOk X.K H5 L ∧ L.length < sizeLine ∧ valOk z ∧ ∀ o', Nx (upd H5 D (DicO D (putI L ns b (vOf z)) o'))) I8 ⟨rfl, q8⟩) fun b s9 ⟨H9, I9, hb, q9⟩ => ?_
      subst hb
      rw [if_pos rfl]
      refine thnF (pk.run _ s9 σ8 H9 _ I9 q9) fun kv s10 ⟨yk, H10, I10, r10, q10⟩ => ?_
      refine thnF (pv.run _ s10 σ8 H10 _ I10 q10) fun vv s11 ⟨yv, H11, I11, r11, L, oo, ns, b, ek, hb, hL, hrows, hz, hv, nx⟩ => ?_
      subst ek
      cases r10
      rw [rel_vOf r11 hv]
      refine dic_set (X := X.blk s3 H3 scope ce fp) I11 hu hL hrows hb (Nat.le_of_lt hz) fun s12 o' I12 => ?_
      obtain ⟨m', hm', w'⟩ := hNx _ (nx o')
      have pin' : ∀ b ∈ fp, ∀ o, s7.heap.get? b = some o → s12.heap.get? b = some o ∧ upd H11 D (DicO D (putI L ns _ (vOf yv)) o') b = none := fun b hb o e =>
        let z := I12.pin (b, o) (List.mem_append_right _ (List.mem_append_right _ (mem_pinsAt hb e)))
        ⟨z.1, z.2.1⟩
      have hl : (wipe σ (own.map (·.2))).length = σ8.length := by rw [← hw8, wipe_length]
      refine ⟨m', hm', i + 1, _, (I12.unpinned (pins := [])).weak hl (fun j v e => ?_), T.keep _ _ _ st7 fun b hb o e => (pin' b hb o e).1, fun b hb => ?_, w'⟩
      · rw [← hw8] at e
        exact (wipe_some e).1
      · obtain ⟨o, e, _⟩ := T.obj _ _ st7 b hb
        exact (pin' b hb o e).2
  exact codeAny_compStart_dict loop (T.self X.A 0 _ _ _ st4 loop)
/-! ### by data -/
/-- k: d put into pairs -/
def putP (acc : List (List Int × D)) (ns : List Int) (d : D) : List (List Int × D) :=
  if (acc.any fun r => decide (r.1 = ns)) = true then acc.map (fun r => if r.1 = ns then (r.1, d) else r) else acc ++ [(ns, d)]
/-- a value that carries no token -/
def okV : D → Bool
  | .bool _ => true
  | .list _ => true
  | .tuple _ => true
  | .dict _ => true
  | _ => false
theorem okV_val {K : PySem.W.Frag} {H : Hp} {v : V} {d : D} (r : Dq K H v d) (h : okV d = true) : valOk v ∧ vBk (vOf v) = v := by
  cases r with
  | non => cases h
  | bl b => exact ⟨trivial, rfl⟩
  | int i => cases h
  | str x => cases h
  | lst _ _ => exact ⟨trivial, rfl⟩
  | tup _ _ => exact ⟨trivial, rfl⟩
  | dic _ _ _ => exact ⟨trivial, rfl⟩
theorem vOf_vBk {v : V} (h : valOk v) : vOf (vBk (vOf v)) = vOf v := by
  cases v with
  | bl b => rfl
  | ref a => rfl
  | _ => cases h
theorem RowsAt.rowsOk {K : PySem.W.Frag} {H : Hp} {L : List RowI} {acc : List (List Int × D)} (h : RowsAt K H L acc) : RowsOk K H L := fun r hr => by
  obtain ⟨i, hi, e⟩ := List.getElem_of_mem hr
  have hj : i < acc.length := by rw [← h.len]; exact hi
  exact (h.at_ i r acc[i] (by rw [List.getElem?_eq_getElem hi, e]) (List.getElem?_eq_getElem hj)).2.1
theorem any_keys {α β : Type} {L : List (List Int × α)} {acc : List (List Int × β)} (h : L.map (·.1) = acc.map (·.1)) (ns : List Int) : (L.any fun r => decide (r.1 = ns)) = acc.any fun r => decide (r.1 = ns) := by
  have e1 : (L.any fun r => decide (r.1 = ns)) = (L.map (·.1)).any fun k => decide (k = ns) := by rw [List.any_map]; rfl
  have e2 : (acc.any fun r => decide (r.1 = ns)) = (acc.map (·.1)).any fun k => decide (k = ns) := by rw [List.any_map]; rfl
  rw [e1, e2, h]
theorem RowsAt.put {K : PySem.W.Frag} {H : Hp} {L : List RowI} {acc : List (List Int × D)} (h : RowsAt K H L acc) {ns : List Int} {b : Addr} {v : V} {d : D} (hb : SqT K H b (ns.map V.int)) (r : Dq K H v d) (ok : okV d = true) :
    RowsAt K H (putI L ns b (vOf v)) (putP acc ns d) := by
  obtain ⟨o1, o2⟩ := okV_val r ok
  have ka := any_keys (α := Addr × Value) h.keys ns
  unfold putI putP
  rw [ka]
  by_cases c : (acc.any fun r => decide (r.1 = ns)) = true
  · rw [if_pos c, if_pos c]
    refine ⟨by rw [List.length_map, List.length_map]; exact h.len, fun i x p h1 h2 => ?_⟩
    rw [List.getElem?_map] at h1 h2
    cases e1 : L[i]? with
    | none => rw [e1] at h1; cases h1
    | some x0 =>
      cases e2 : acc[i]? with
      | none => rw [e2] at h2; cases h2
      | some p0 =>
        rw [e1] at h1; rw [e2] at h2
        obtain ⟨q1, q2, q3, q4⟩ := h.at_ i x0 p0 e1 e2
        have h1 := Option.some.inj h1
        have h2 := Option.some.inj h2
        dsimp only at h1 h2
        by_cases z : x0.1 = ns
        · rw [if_pos z] at h1; rw [if_pos (by rw [← q1]; exact z)] at h2
          subst h1 h2
          exact ⟨q1, q2, by show vOf (vBk (vOf v)) = vOf v; rw [o2], by show Dq K H (vBk (vOf v)) d; rw [o2]; exact r⟩
        · rw [if_neg z] at h1; rw [if_neg (by rw [← q1]; exact z)] at h2
          subst h1 h2
          exact ⟨q1, q2, q3, q4⟩
  · rw [if_neg c, if_neg c]
    refine ⟨by simp [h.len], fun i x p h1 h2 => ?_⟩
    by_cases hi : i < L.length
    · rw [List.getElem?_append_left hi] at h1
      rw [List.getElem?_append_left (by rw [← h.len]; exact hi)] at h2
      exact h.at_ i x p h1 h2
    · rw [List.getElem?_append_right (by omega)] at h1
      rw [List.getElem?_append_right (by rw [← h.len]; omega), ← h.len] at h2
      cases e : i - L.length with
      | zero =>
        rw [e] at h1 h2
        simp at h1 h2
        subst h1 h2
        exact ⟨rfl, hb, by show vOf (vBk (vOf v)) = vOf v; rw [o2], by show Dq K H (vBk (vOf v)) d; rw [o2]; exact r⟩
      | succ n => rw [e] at h1; simp at h1
theorem ints_inj : ∀ {a b : List Int}, (a.map PyData.int) = b.map PyData.int → a = b
  | [], [], _ => rfl
  | [], _ :: _, h => by cases h
  | _ :: _, [], h => by cases h
  | x :: a, y :: b, h => by
    simp only [List.map_cons, List.cons.injEq, PyData.int.injEq] at h
    rw [h.1, ints_inj h.2]
/-- a dict's rows, from its data -/
theorem dic_inv {K : PySem.W.Frag} {H : Hp} {v : V} {acc : List (List Int × D)} (r : Dq K H v (dicD acc)) : ∃ a L o, v = .ref a ∧ H a = some (DicO a L o) ∧ RowsAt K H L acc := by
  generalize e : dicD acc = d at r
  cases r with
  | @dic a L o vds h1 h2 h3 =>
    have e : (acc.map fun p => (PyData.tuple (p.1.map .int), p.2)) = rowsD L vds := by
      unfold dicD at e; injection e
    have hl := h3.len
    rw [List.length_map] at hl
    refine ⟨a, L, o, rfl, h1, ?_, fun i r p e1 e2 => ?_⟩
    · have := congrArg List.length e
      unfold rowsD at this
      simp only [List.length_map, List.length_zip] at this
      omega
    · have e3 := congrArg (fun l => l[i]?) e
      unfold rowsD at e3
      simp only [List.getElem?_map, e2, Option.map_some, List.getElem?_zip_eq_some, List.zip, List.getElem?_zipWith, e1] at e3
      cases e4 : vds[i]? with
      | none => rw [e4] at e3; cases e3
      | some d =>
        rw [e4] at e3
        simp only [Option.some.injEq, Prod.mk.injEq, PyData.tuple.injEq] at e3
        have k := ints_inj e3.1
        obtain ⟨q1, q2⟩ := h2 r (List.mem_of_getElem? e1)
        obtain ⟨d', e5, e6⟩ := h3.getV (n := i) (y := vBk r.2.2) (by rw [List.getElem?_map, e1]; rfl)
        rw [e4] at e5; cases e5
        exact ⟨k.symm, q1, q2, by rw [e3.2]; exact e6⟩
  | _ => unfold dicD at e; cases e
end
end DL

/-! DL19: dicts with tuple keys by data: comprehensions, their keys walked. -/
namespace DL
open PySem PySem.Spec PyProof.Rows L2
structure DcSt (K : PySem.W.Frag) (c : Fr) (ρ : Env) (b : Bag) (σ : L2.St) (B H : Hp) (D : Addr) (acc : List (List Int × PySem.PyData)) : Prop where
  en : En K { c with O := D :: c.O } ρ b σ H
  same : Same B (hid (D :: c.hs ρ) H)
  F : c.F D = none
  rows : ∃ L o, H D = some (DicO D L o) ∧ RowsAt K (hid (D :: c.hs ρ) H) L acc
section
variable {K : PySem.W.Frag} {c : Fr} {ρ : Env} {b b' : Bag} {σ : L2.St} {B H H' : Hp} {D : Addr} {acc : List (List Int × PySem.PyData)}
theorem DcSt.step2 (S : DcSt K c ρ b σ B H D acc) (k : ∀ a o, c.bag ≠ some a → H a = some o → H' a = some o) (hb : ∀ p, c.bag = some p → BagAt K (D :: c.hs ρ) H' p b') : DcSt K c ρ b' σ B H' D acc := by
  obtain ⟨I5, g5⟩ := S.en.keep (H' := H') (b' := b') k hb
  obtain ⟨L, o, h1, h2⟩ := S.rows
  refine ⟨I5, S.same.trans g5, S.F, L, o, k D _ (fun z => ?_) h1, h2.mono g5⟩
  have nd := S.en.nd
  unfold Fr.hs Fr.hb at nd
  simp [z] at nd
theorem DcSt.grow (S : DcSt K c ρ b σ B H D acc) (s : Same H H') : DcSt K c ρ b σ B H' D acc :=
  let ⟨L, o, h1, h2⟩ := S.rows
  ⟨S.en.grow s, S.same.trans (hid_same s), S.F, L, o, s _ _ h1, h2.mono (hid_same s)⟩
theorem DcSt.put (S : DcSt K c ρ b σ B H D acc) {L : List RowI} {o o' : Obj} (h1 : H D = some (DicO D L o)) (h2 : RowsAt K (hid (D :: c.hs ρ) H) L acc) {ns : List Int} {l : Addr} {v : V} {d : PySem.PyData} (hb : SqT K (hid (D :: c.hs ρ) H) l (ns.map V.int)) (r : Dq K (hid (D :: c.hs ρ) H) v d) (ok : okV d = true) :
    DcSt K c ρ b σ B (upd H D (DicO D (putI L ns l (vOf v)) o')) D (putP acc ns d) := by
  have e := hid_upd_in (O := D :: c.hs ρ) (H := H) (o := DicO D (putI L ns l (vOf v)) o') (p := D) (by simp)
  exact ⟨S.en.updH (by simp) S.F, by rw [e]; exact S.same, S.F, _, _, upd_same, by rw [e]; exact h2.put hb r ok⟩
end
def runDc (g : WG) (wk wv : WE) (ρ : Env) : List D → List (List Int × D) → Bag → (List (List Int × D) → Bag → Prop) → Prop
  | [], acc, b, Φ => Φ acc b
  | d :: r, acc, b, Φ => g d ρ fun ρ' => wk ρ' b fun dk b1 => ∃ ns : List Int, dk = .tuple (ns.map .int) ∧ wv ρ' b1 fun dv b2 => acc.length < sizeLine ∧ okV dv = true ∧ runDc g wk wv ρ r (putP acc ns dv) b2 Φ
def wDc (wi : WA) (g : WG) (wk wv : WE) (vs : List Nat) : WE := fun ρ b Φ => wi ρ b fun ds b1 => runDc g wk wv (wipeE (deown ρ) vs) ds [] b1 fun acc b2 => Φ (dicD acc) b2
theorem dc_snd {X : Cx} {wi : WA} {g : WG} {wk wv : WE} {vs gs : List Nat} (hgs : ∀ i ∈ gs, i ∈ vs) : Snd X.K (tDcT X (tiW X.K wi) (tgW X.K gs g) (teW X.K wk) (teW X.K wv) vs) (wDc wi g wk wv vs) := by
  intro c ρ b σ H Φ Q I h q
  refine ⟨c, ρ, b, _, I, h, fun ds b1 J H1 h1 I1 g1 wk' => fun D hD => ?_⟩
  obtain ⟨I0, sB⟩ := I1.hide (o := DicO D [] dict0) hD
  have hFD : c.F D = none := by
    cases e : c.F D with
    | none => rfl
    | some o => rw [I1.same _ _ e] at hD; cases hD
  generalize hB : hid (c.hs ρ) H1 = B at sB wk'
  have S0 : DcSt X.K c ρ b1 σ B (upd H1 D (DicO D [] dict0)) D [] := ⟨I0, sB, hFD, [], dict0, upd_same, ⟨rfl, fun i r p h1 h2 => by simp at h1⟩⟩
  refine ⟨fun i m H' => m + i = ds.length ∧ ∃ b' acc, DcSt X.K c ρ b' σ B H' D acc ∧ runDc g wk wv (wipeE (deown ρ) vs) (ds.drop i) acc b' (fun acc b2 => Φ (dicD acc) b2), ⟨ds.length, by simp, b1, [], S0, by simpa using h1⟩, ?_⟩
  rintro i m H2 ⟨hm, b2, acc, S2, h2⟩
  have sw : Same B H2 := sameHid S2.same
  by_cases hi : i < ds.length
  · have hdr : ds.drop i = ds[i] :: ds.drop (i + 1) := List.drop_eq_getElem_cons hi
    rw [hdr] at h2
    refine .inr ⟨wk'.go i H2 sw hi, fun H3 => ∃ m', m' + (i + 1) = ds.length ∧ ∃ b' acc, DcSt X.K c ρ b' σ B H3 D acc ∧ runDc g wk wv (wipeE (deown ρ) vs) (ds.drop (i + 1)) acc b' (fun acc b2 => Φ (dicD acc) b2), ?_, ?_⟩
    · rintro H3 ⟨m', hm', r⟩
      exact ⟨m', by omega, hm', r⟩
    · intro x H3 y
      obtain ⟨d, hd, g3, rd⟩ := wk'.yld i H2 x H3 sw hi y
      have hd' : ds[i] = d := by rw [List.getElem?_eq_getElem hi] at hd; exact Option.some.inj hd
      rw [hd'] at h2
      have S3 := S2.grow g3
      obtain ⟨I4, ha4⟩ := S3.en.inner vs
      have hh := inn_hs (c := { c with O := D :: c.O }) (ρ := ρ) (H := H3) ha4
      have rd' : Dq X.K (hid ((Fr.inn { c with O := D :: c.O } ρ H3).hs (wipeE (deown ρ) vs)) H3) x d := by
        rw [hid_congr hh]; exact rd (D :: c.hs ρ) S2.en.dom S2.same
      have sub1 : ∀ {ρ'' : Env}, ∀ a ∈ D :: c.hs ρ, a ∈ (Fr.inn { c with O := D :: c.O } ρ H3).hs ρ'' := fun {ρ''} a ha => by
        have := (inn_hs (c := { c with O := D :: c.O }) (ρ := ρ) (H := H3) (ρ' := []) rfl a).mpr ha
        exact List.mem_append_left _ (by simpa [Fr.hs, adr] using this)
      refine ⟨_, _, b2, d, _, I4, rd', h2, fun ρ5 σ5 h5 I5 sub5 wip => ⟨(wip vs hgs).trans (wipe_idem σ vs), ?_⟩⟩
      refine ⟨_, ρ5, b2, _, I5, h5, fun dk b6 y6 H6 ⟨ns, edk, h6⟩ I6 g6 r6 => ?_⟩
      subst edk
      refine ⟨_, ρ5, b6, _, I6, h6, fun dv b7 z7 H7 ⟨hz, hok, h7⟩ I7 g7 r7 => ?_⟩
      have kp : ∀ a o, c.bag ≠ some a → H3 a = some o → H7 a = some o := fun a o z1 z2 => I7.same a o (by
        show (if c.bag = some a then none else H3 a) = some o
        rw [if_neg z1]; exact z2)
      have S7 := S3.step2 kp fun p hp => (I7.bag p hp).sub sub1
      obtain ⟨L, oo, hL, hR⟩ := S7.rows
      obtain ⟨l, xs, ey, s1, s2⟩ := (dp_mono (hid_sub sub1) (dp_mono g7 r6)).tup_inv
      rw [s2.ints] at s1
      have rz : Dq X.K (hid (D :: c.hs ρ) H7) z7 dv := dp_mono (hid_sub sub1) r7
      refine ⟨L, oo, ns, l, ey, seqT hid_le s1, hL, hR.mono hid_le |>.rowsOk, by rw [hR.len]; exact hz, (okV_val rz hok).1, fun o' => ⟨m - 1, by omega, b7, _, S7.put hL hR s1 rz hok, h7⟩⟩
  · refine .inl ⟨wk'.stop i H2 sw (by omega), ?_⟩
    rw [List.drop_eq_nil_of_le (by omega)] at h2
    obtain ⟨L, oo, hL, hR⟩ := S2.rows
    have I9 := S2.en.unhide
    have sD : Same (hid (D :: c.hs ρ) H2) (hid (c.hs ρ) H2) := hid_sub fun a ha => List.mem_cons_of_mem _ ha
    have hDn : D ∉ c.hs ρ := (List.nodup_cons.mp S2.en.nd).1
    refine q _ _ _ _ h2 I9 (g1.trans ?_) ((hR.mono sD).dq (by rw [hid_out hDn]; exact hL))
    show Same (hid (c.hs ρ) H1) (hid (c.hs ρ) H2)
    rw [hB]
    exact S2.same.trans sD
section
variable {X : Cx} {K : PySem.W.Frag} {pos p : Pos} {e a : Expr}
theorem d_dc {kx vx tg iter : Expr} {scope : Scope} (own : List (Str × Nat)) {gs : List Nat} {wi : WA} {g : WG} {wk wv : WE} (hu : X.A.units + 65 < cLine) (hc : X.calm = true) (hN : X.N.Nodup) (hi : DI X tg iter wi) (ok : blkC X.N X.env.scope scope own = true)
    (hg : Blk X scope fun Y => DG Y tg gs g) (hk : Blk X scope fun Y => DE Y kx wk) (he : Blk X scope fun Y => DE Y vx wv) (hgs : (gs.all fun i => (own.map (·.2)).contains i) = true := by rfl) (hs : ∀ x, foldedSetIterable iter X.env x = pure x := by intro _; rfl) :
    DE X (.DictComp kx vx [⟨tg, iter, [], 0⟩] scope pos) (wDc wi g wk wv (own.map (·.2))) := by
  simp only [List.all_eq_true, List.contains_iff_mem] at hgs
  exact ⟨_, ⟨fun pins s σ H Q I h => dcT_core (wi := tiW X.K wi) (g := tgW X.K gs g) (tk := teW X.K wk) (tv := teW X.K wv) (by omega) hc hN I hi.can (blkOk_by ok) (fun s H C cl fp => (hg s H C cl fp).can) (fun s H C cl fp => (hk s H C cl fp).can) (fun s H C cl fp => (he s H C cl fp).can) hs h⟩, dc_snd hgs⟩
/-! ### its keys walked -/
def ItkD (a : Addr) (L : List RowI) (o : Obj) : It :=
  ⟨fun i H => H a = some (DicO a L o) ∧ i < L.length, fun i H x H' => H' = H ∧ ∃ r, L[i]? = some r ∧ x = .ref r.2.1, fun i H => H a = some (DicO a L o) ∧ L.length ≤ i⟩
theorem dic_raw {pins : List (Addr × Obj)} {σ : L2.St} {H : Hp} {s : Shared} (I : Inv X pins σ H s) {a : Addr} {L : List RowI} {o : Obj} (h : H a = some (DicO a L o)) :
    (a == sysModules) = false ∧ s.heap.get? a = some o ∧ ∃ (es : Array DictEntry) (ep : Nat), o.ExactDict ∧ o.data = .dict es ep ∧ es.size = L.length ∧ ∀ (i : Nat) (r : RowI), L[i]? = some r → ∃ en : DictEntry, es[i]? = some en ∧ en.key = .ref r.2.1 ∧ en.val = r.2.2 := by
  have d := (I.hok a _ h).1
  obtain ⟨es, ep, h2, h3, h4, _⟩ := d.ex
  have hz := congrArg List.length h4
  rw [Array.length_toList, List.length_map] at hz
  refine ⟨d.big, d.get, es, ep, h2, h3, hz, fun i r hr => ⟨⟨hashI r.1, .ref r.2.1, r.2.2⟩, ?_, rfl, rfl⟩⟩
  rw [← Array.getElem?_toList, h4, List.getElem?_map, hr]
  rfl
theorem turn_keysD {P : Program} {w : World} {tg : Expr} {es : Array DictEntry} {ep : Nat} {o : Obj} (a it : Addr) (L : List RowI) (hod : o.data = .dict es ep) : Turn P w K tg (ItkD a L o) [it] it (fun i h => h.IsKeyIter it a i L.length ep) where
  mem := List.mem_cons_self
  obj := fun i h st b hb => by
    obtain rfl : b = it := by simpa using hb
    obtain ⟨o, e, _, dd⟩ := st
    exact ⟨o, e, fun v z => by rw [dd] at z; cases z⟩
  keep := fun i h h' st k => st.at fun o e => k it (by simp) o e
  item := by
    intro X hP hw hK hc i pins s σ H E I hf st ⟨hd, hi⟩
    subst hP hw hK
    obtain ⟨g0, g1, g2, g3, g4, g5⟩ := hf it (by simp)
    obtain ⟨_, hget, es', ep', _, hdt, hsz, ent⟩ := dic_raw I hd
    rw [hod] at hdt
    injection hdt with q1 q2
    subst q1 q2
    obtain ⟨en, hen, hkey, _⟩ := ent i L[i] (List.getElem?_eq_getElem hi)
    refine next_key_item st hget hod hsz hen fun h' st' sb => ?_
    have I1 : Inv X pins σ H { s with heap := h' } := I.turned (t' := s.toks) (fun b ob hb e => (sb.2 b hb).trans e) g0 g1 g3 g4 g5
    obtain ⟨oi, e, c, dd⟩ := id st'
    exact ⟨en.key, rfl, go_of (s := { s with heap := h' }) e c dd (by decide) ⟨.ref L[i].2.1, H, I1, hkey, ⟨rfl, L[i], List.getElem?_eq_getElem hi, rfl⟩, st', fun b hb => (hf b hb).1⟩⟩
  done := by
    intro X hP hw hK hc i pins s σ H E I hf st ⟨hd, hi⟩
    subst hP hw hK
    obtain ⟨g0, g1, g2, g3, g4, g5⟩ := hf it (by simp)
    obtain ⟨_, hget, es', ep', _, hdt, hsz, _⟩ := dic_raw I hd
    rw [hod] at hdt
    injection hdt with q1 q2
    subst q1 q2
    exact next_key_end (I.ok.hd hc) st hget hod hsz hi fun h' eb => ⟨rfl, I.turned (t' := s.toks) (fun b ob hb e => eb b ob hb e) g0 g1 g3 g4 g5⟩
  self := fun A i s Q E st h => wpAny_pyIter_slot st.typeIs F.slot_dict_keyiterator_iter (wpAny_call_entry F.slot_dict_keyiterator_iter st.typeIs F.entry_dict_keyiterator_iter
    (show wpAny _ _ (ret (.ref it)) _ _ s from wpAny_pure ⟨_, rfl, "dict_keyiterator", _, st.typeIs, F.slot_dict_keyiterator_next.lookup, h⟩) (F.args_dict_keyiterator_iter_1 _))
def iDicK (te : TE) : TI := fun σ H R => te σ H fun x H1 => ∃ a L o, x = .ref a ∧ H1 a = some (DicO a L o) ∧ R (ItkD a L o) H1
theorem pi_dicK {tg : Expr} {te : TE} (he : PE X e te) : PI X tg e (iDicK te) := by
  refine ⟨fun pins s σ H R I h => thn (he.run pins s σ H _ I h) fun u s1 ⟨x, H1, I1, rx, a, L, o, ex, hd, q⟩ => ?_⟩
  subst ex
  cases rx
  obtain ⟨hb, hget, es, ep, hex, hdt, hsz, _⟩ := dic_raw I1 hd
  refine iter_keys hb hget hex hdt (pi_one (tk := s1.toks) I1 _ (turn_keysD a _ L hdt) ⟨_, Heap.get?_push_size _ rfl, rfl, ?_⟩ q)
  rw [hsz]
  rfl
def keysD (acc : List (List Int × D)) : List D := acc.map fun p => .tuple (p.1.map .int)
theorem walk_keys {B : Hp} {a : Addr} {L : List RowI} {o : Obj} {acc : List (List Int × D)} (h : B a = some (DicO a L o)) (r : RowsAt K B L acc) : WalkOk K (ItkD a L o) B (keysD acc) where
  go := fun i H s hi => ⟨s _ _ h, by rw [r.len]; simpa [keysD] using hi⟩
  yld := fun i H x H' s hi ⟨e, row, h1, h2⟩ => by
    subst e h2
    have hi : i < acc.length := by simpa [keysD] using hi
    obtain ⟨q1, q2, _, _⟩ := r.at_ i row acc[i] h1 (List.getElem?_eq_getElem hi)
    refine ⟨.tuple (acc[i].1.map .int), by simp [keysD, hi], Same.refl _, fun hs _ sb => ?_⟩
    rw [← q1]
    exact .tup (seqT sb q2) (DqAll.ofInts _)
  stop := fun i H s hi => ⟨s _ _ h, by rw [r.len]; simpa [keysD] using hi⟩
def wDicK (w : WE) : WA := fun ρ b Φ => w ρ b fun d b1 => ∃ acc, d = dicD acc ∧ Φ (keysD acc) b1
theorem i_dicK {tg : Expr} {w : WE} (h : DE X e w) : DI X tg e (wDicK w) := by
  obtain ⟨te, p1, s1⟩ := h.ex
  refine ⟨_, pi_dicK p1, fun c ρ b σ H Φ R I h q => ?_⟩
  refine s1 c ρ b σ H _ _ I h fun d b1 v H1 ⟨acc, e, h1⟩ I1 g1 r1 => ?_
  subst e
  obtain ⟨a, L, o, ev, h2, h3⟩ := dic_inv r1
  exact ⟨a, L, o, ev, hid_le _ _ h2, q _ _ _ _ h1 I1 g1 (walk_keys h2 h3)⟩
end
end DL

/-! DL20: list(d), sorted(d), d[k], k in d of a dict with tuple keys. -/
namespace DL
open PySem PySem.Spec PyProof.Rows L2
section
variable {X : Cx} {K : PySem.W.Frag} {pos p : Pos} {e a : Expr}
theorem keys_vals {es : Array DictEntry} {acc : Array Value} {L : List RowI} (hsz : es.size = L.length) (ent : ∀ (i : Nat) (r : RowI), L[i]? = some r → ∃ en : DictEntry, es[i]? = some en ∧ en.key = .ref r.2.1 ∧ en.val = r.2.2)
    (it : ItemsOf (fun i v => ∃ en : DictEntry, es[i]? = some en ∧ v = en.key) acc es.size) : acc.toList = L.map fun r => Value.ref r.2.1 := by
  apply List.ext_getElem?
  intro j
  rw [List.getElem?_map, Array.getElem?_toList]
  by_cases hj : j < L.length
  · have hja : j < acc.size := by rw [it.1, hsz]; exact hj
    rw [Array.getElem?_eq_getElem hja, List.getElem?_eq_getElem hj]
    obtain ⟨en, h1, h2⟩ := it.2 j acc[j] (Array.getElem?_eq_getElem hja)
    obtain ⟨en', h3, h4, _⟩ := ent j L[j] (List.getElem?_eq_getElem hj)
    rw [h1] at h3; cases h3
    rw [h2, h4]; rfl
  · rw [Array.getElem?_eq_none (by rw [it.1, hsz]; omega), List.getElem?_eq_none (by omega)]
    rfl
def rListK : List V → Hp → VK → Prop := fun vs H Q => ∃ a L o, vs = [V.ref a] ∧ H a = some (DicO a L o) ∧ L.length ≤ sizeLine ∧ ∀ p, H p = none → Q (.ref p) (upd H p (.lst (L.map fun r => V.ref r.2.1)))
theorem vals_rows : ∀ L : List RowI, Vals (L.map fun r => V.ref r.2.1) (L.map fun r => Value.ref r.2.1)
  | [] => .nil
  | _ :: r => .cons rfl (vals_rows r)
theorem cr_listK (hc : X.calm = true) : CallR X (.type "list") rListK := by
  intro pins s σ H vs us Q I r ⟨a, L, o, e, h, hz, q⟩
  subst e
  rw [Vals.ref1 r]
  obtain ⟨hb, hget, es, ep, hex, hdt, hsz, ent⟩ := dic_raw I h
  refine PySem.W.kdl_call (kdl_raw hb hex hdt) (I.ok.hd hc) hget (by rw [hsz]; exact hz) fun h' tk acc c' kp hp it => ?_
  have ea := keys_vals hsz ent it
  have rv : Vals (L.map fun r => V.ref r.2.1) acc.toList := by rw [ea]; exact vals_rows L
  exact ⟨.ref s.heap.objs.size, _, I.laid (t' := tk) kp (Nat.le_refl _) (show ObjOk X.prog X.w _ _ _ (.lst (L.map fun r => V.ref r.2.1)) from ⟨by rw [List.length_map]; exact hz, acc.toList, c', rv, by rw [Array.toArray_toList]; exact hp⟩), rfl, q _ (I.hok.fresh (Nat.le_refl _))⟩
def oListK : OpF := fun ds Φ => ∃ acc, ds = [dicD acc] ∧ acc.length ≤ sizeLine ∧ Φ (.list (keysD acc))
theorem rows_keys {H : Hp} {L : List RowI} {acc : List (List Int × D)} (h : RowsAt K H L acc) : DqAll K H (L.map fun r => V.ref r.2.1) (keysD acc) := by
  refine dqAll_of (by simp [keysD, h.len]) fun i v d h1 h2 => ?_
  unfold keysD at h2
  rw [List.getElem?_map] at h1 h2
  cases e1 : L[i]? with
  | none => rw [e1] at h1; cases h1
  | some r =>
    cases e2 : acc[i]? with
    | none => rw [e2] at h2; cases h2
    | some q =>
      rw [e1] at h1; rw [e2] at h2
      cases h1; cases h2
      obtain ⟨q1, q2, _⟩ := h.at_ i r q e1 e2
      show Dq K H (.ref r.2.1) (.tuple (q.1.map .int))
      rw [← q1]
      exact .tup q2 (DqAll.ofInts _)
theorem fd_listK : FnD K rListK oListK := by
  intro hs H vs ds Φ Q hd r ⟨acc, e, hz, h⟩ q
  subst e
  match vs, r with
  | [v], .cons r .nil =>
    obtain ⟨a, L, o, rfl, h1, h2⟩ := dic_inv r
    exact ⟨a, L, o, rfl, hid_le _ _ h1, by rw [h2.len]; exact hz, fun p hp => q _ _ _ h (same_new hp _) (dq_newL hd hp (rows_keys h2))⟩
/-! ### sorted(d) -/
def rSortK (K : PySem.W.Frag) : List V → Hp → VK → Prop := fun vs H Q => ∃ a L o, vs = [V.ref a] ∧ H a = some (DicO a L o) ∧ RowsOk K H L ∧ (∀ r ∈ L, r.1 ≠ []) ∧ L.length ≤ sizeLine ∧
  ∀ p, H p = none → Q (.ref p) (upd H p (.lst (((L.map fun r => ((r.2.1, r.1) : Tp)).mergeSort (PySem.W.dataLe false tpD)).map fun q => V.ref q.1)))
theorem cr_sortK (hc : X.calm = true) (hu : X.A.units + 65 < cLine) : CallR X (.builtin "sorted") (rSortK X.K) := by
  intro pins s σ H vs us Q I r ⟨a, L, o, e, h, hr, hne, hz, q⟩
  subst e
  rw [Vals.ref1 r]
  obtain ⟨hb, hget, es, ep, hex, hdt, hsz, ent⟩ := dic_raw I h
  generalize hT : (L.map fun r => ((r.2.1, r.1) : Tp)) = T at q
  have hmem : ∀ t ∈ T, SqT X.K H t.1 (t.2.map V.int) ∧ t.2 ≠ [] := fun t ht => by
    rw [← hT] at ht
    obtain ⟨row, h1, rfl⟩ := List.mem_map.mp ht
    exact ⟨hr row h1, hne row h1⟩
  have hTl : T.length = L.length := by rw [← hT, List.length_map]
  refine Calls.call_function_entry kind_sorted plain_sorted entry_sorted (args_sorted1 _) ?_
  unfold Builtin.«sorted»
  refine wpAny_bind (m := checkCount "sorted" 1 1 _) (wpAny_pure ?_)
  refine wpAny_bind (PySem.W.kdu_collect (A := X.A.in1) (kdl_raw hb hex hdt) (I.ok.hd hc) hget (by rw [hsz]; exact hz) fun h' tk acc hk hacc => ?_)
  have ea : acc.toList = T.map fun q => Value.ref q.1 := by rw [keys_vals hsz ent hacc, ← hT, List.map_map]; rfl
  rw [ea]
  have I1 : Inv X pins σ H { s with heap := h', toks := tk } := I.kept hk
  refine wpAny_bind (wpAny_newList ?_ (by rw [List.length_map, hTl]; exact hz))
  refine wpAny_bind (wpAny_holding (sort_tps (s1 := { s with heap := h', toks := tk }) (fun t ht => ?_) (tp_alike T) (tp_sortable fun t ht => (hmem t ht).2) (by rw [hTl]; exact hz) (by show X.A.units + 1 + 2 + 1 < cLine; omega) (fun t _ => tp_depth t) fun h2 c kp hc => ?_))
  · exact Dp.reads I1 (tpD t) (.ref t.1) (.ref t.1) (.tup (hmem t ht).1 ((DqAll.ofInts (K := X.K) (H := H) t.2).dp (noDict_ints t.2))) rfl
  · have hlen : ((T.mergeSort (PySem.W.dataLe false tpD)).map fun q => V.ref q.1).length ≤ sizeLine := by rw [List.length_map, List.length_mergeSort, hTl]; exact hz
    exact wpAny_pure ⟨_, rfl, .ref h'.objs.size, _, I1.laid (t' := tk) kp (Nat.le_refl _) (show ObjOk X.prog X.w _ _ _ (.lst ((T.mergeSort (PySem.W.dataLe false tpD)).map fun q => V.ref q.1)) from ⟨hlen, _, c, vals_refs _, hc⟩), rfl, q _ (I1.hok.fresh (Nat.le_refl _))⟩
def oSortK : OpF := fun ds Φ => ∃ (acc : List (List Int × D)) (ls : List (Int × Int)), ds = [dicD acc] ∧ acc.map (·.1) = (ls.map fun q => [q.1, q.2]) ∧ acc.length ≤ sizeLine ∧ Φ (.list ((ls.mergeSort lexLe).map pD))
theorem fd_sortK : FnD K (rSortK K) oSortK := by
  intro hs H vs ds Φ Q hd r ⟨acc, ls, e, hk, hz, h⟩ q
  subst e
  match vs, r with
  | [v], .cons r .nil =>
    obtain ⟨a, L, o, rfl, h1, h2⟩ := dic_inv r
    have hkeys := h2.keys.trans hk
    have two : ∀ row ∈ L, ∃ z ∈ ls, row.1 = [z.1, z.2] := fun row hr => by
      have : row.1 ∈ L.map (·.1) := List.mem_map.mpr ⟨row, hr, rfl⟩
      rw [hkeys] at this
      obtain ⟨z, hz, e⟩ := List.mem_map.mp this
      exact ⟨z, hz, e.symm⟩
    refine ⟨a, L, o, rfl, hid_le _ _ h1, (h2.rowsOk).mono hid_le, fun row hr => by obtain ⟨z, _, e⟩ := two row hr; rw [e]; simp, by rw [h2.len]; exact hz, fun p hp => ?_⟩
    generalize hT : (L.map fun r => ((r.2.1, r.1) : Tp)) = T
    have Tf : ∀ t ∈ T, t.2 = [(fp t).1, (fp t).2] := fun t ht => by
      rw [← hT] at ht
      obtain ⟨row, hr, rfl⟩ := List.mem_map.mp ht
      obtain ⟨z, _, e⟩ := two row hr
      unfold fp
      show row.1 = _
      rw [e]; rfl
    have hfp : T.map fp = ls := by
      have e1 : (T.map fp).map (fun z => [z.1, z.2]) = ls.map fun z => [z.1, z.2] := by
        rw [← hkeys, List.map_map, ← hT, List.map_map]
        refine List.map_congr_left fun row hr => ?_
        have := Tf (row.2.1, row.1) (by rw [← hT]; exact List.mem_map.mpr ⟨row, hr, rfl⟩)
        exact this.symm
      have inj : ∀ {x y : List (Int × Int)}, (x.map fun z => [z.1, z.2]) = (y.map fun z => [z.1, z.2]) → x = y := by
        intro x
        induction x with
        | nil => intro y h; cases y with | nil => rfl | cons _ _ => cases h
        | cons u x ih =>
          intro y h
          cases y with
          | nil => cases h
          | cons w y =>
            simp only [List.map_cons, List.cons.injEq, and_true] at h
            rw [ih h.2, Prod.ext h.1.1 h.1.2]
      exact inj e1
    have srt := srt_rows Tf
    rw [hfp] at srt
    have inS : ∀ t ∈ T.mergeSort (PySem.W.dataLe false tpD), t ∈ T := fun t ht => (List.mem_mergeSort).mp ht
    have rp := rows_pairs (K := K) (hs := hs) (H := H) (ks := T.mergeSort (PySem.W.dataLe false tpD)) fun t ht => by
      have := inS t ht
      rw [← hT] at this
      obtain ⟨row, hr, rfl⟩ := List.mem_map.mp this
      exact h2.rowsOk row hr
    have ed : (T.mergeSort (PySem.W.dataLe false tpD)).map tpD = (ls.mergeSort lexLe).map pD := by
      rw [← srt, List.map_map]
      exact List.map_congr_left fun t ht => by
        show tpD t = pD (fp t)
        unfold tpD pD; rw [Tf t (inS t ht)]; rfl
    rw [ed] at rp
    exact q _ _ _ h (same_new hp _) (dq_newL hd hp rp)
end
end DL

/-! DL21: d[k], k in d, d.items() of a dict with tuple keys. -/
namespace DL
open PySem PySem.Spec PyProof.Rows L2
section
variable {X : Cx} {K : PySem.W.Frag} {pos p : Pos} {e a : Expr}
theorem atKey_rows (L : List RowI) (ns : List Int) : atKey (L.map rowK) (keyI ns) = (L.find? fun r => decide (r.1 = ns)).map (·.2) := by
  unfold atKey
  rw [List.find?_map, Option.map_map]
  have : (fun x : Row => decide (x.1 = keyI ns)) ∘ rowK = fun r : RowI => decide (r.1 = ns) := by
    funext r
    by_cases z : r.1 = ns
    · simp [z, rowK]
    · have : ¬ (rowK r).1 = keyI ns := fun e => z (keyI_inj e)
      simp [z, this]
  rw [this]
  rfl
theorem find_rows {G : RowI → List Int × D → Prop} (ns : List Int) : ∀ {L : List RowI} {acc : List (List Int × D)}, L.length = acc.length → (∀ (i : Nat) (r : RowI) (p : List Int × D), L[i]? = some r → acc[i]? = some p → r.1 = p.1 ∧ G r p) →
    (∀ q, (acc.find? fun r => decide (r.1 = ns)) = some q → ∃ r, (L.find? fun r => decide (r.1 = ns)) = some r ∧ G r q) ∧ ((acc.find? fun r => decide (r.1 = ns)) = none → (L.find? fun r => decide (r.1 = ns)) = none)
  | [], [], _, _ => ⟨fun q h => (by cases h), fun _ => rfl⟩
  | r :: L, p :: acc, hl, h => by
    obtain ⟨h1, h2⟩ := find_rows (G := G) ns (L := L) (acc := acc) (by simpa using hl) fun i r p a b => h (i + 1) r p (by simpa using a) (by simpa using b)
    obtain ⟨e, g⟩ := h 0 r p rfl rfl
    by_cases z : p.1 = ns
    · have z' : r.1 = ns := e.trans z
      simp only [List.find?_cons, z, z', decide_true]
      exact ⟨fun q hq => (by cases hq; exact ⟨r, rfl, g⟩), fun hq => (by cases hq)⟩
    · have z' : ¬ r.1 = ns := fun y => z (e.symm.trans y)
      simp only [List.find?_cons, z, z', decide_false]
      exact ⟨h1, h2⟩
theorem dic_type {pins : List (Addr × Obj)} {σ : L2.St} {H : Hp} {s : Shared} (I : Inv X pins σ H s) {a : Addr} {L : List RowI} {o : Obj} (h : H a = some (DicO a L o)) : s.TypeIs (.ref a) "dict" := by
  obtain ⟨_, hget, _, _, hex, _⟩ := dic_raw I h
  exact ⟨o, hget, hex.1⟩
theorem relBk {u : Value} (h : vOf (vBk u) = u) : RelV (vBk u) u := by
  cases u with
  | bool b => exact rfl
  | ref r => exact rfl
  | none => exact rfl
  | _ => cases h
/-- d[k] -/
def wIxK (w u : WE) : WE := fun ρ b Φ => w ρ b fun d b1 => u ρ b1 fun k b2 => ∃ (acc : List (List Int × D)) (ns : List Int) (q : List Int × D), d = dicD acc ∧ k = .tuple (ns.map .int) ∧ (acc.find? fun r => decide (r.1 = ns)) = some q ∧ Φ q.2 b2
theorem d_ixK {i : Expr} {w u : WE} (hu : X.A.units + 65 < cLine) (h1 : DE X e w) (h2 : DE X i u) (hs : NoSl i) : DE X (.Subscript e i pos) (wIxK w u) := by
  obtain ⟨te, p1, s1⟩ := h1.ex
  obtain ⟨tu, p2, s2⟩ := h2.ex
  refine ⟨fun σ H Q => te σ H fun x H1 => tu σ H1 fun y H2 => ∃ a L o b ns r, x = .ref a ∧ y = .ref b ∧ H2 a = some (DicO a L o) ∧ RowsOk X.K H2 L ∧ SqT X.K H2 b (ns.map V.int) ∧ (L.find? fun r => decide (r.1 = ns)) = some r ∧ vOf (vBk r.2.2) = r.2.2 ∧ Q (vBk r.2.2) H2,
    ⟨fun pins s σ H Q I h => ?_⟩, fun c ρ b σ H Φ Q I h q => ?_⟩
  · refine subD_of PySem.F.slot_dict_getitem.lookup hs (thn (p1.run pins s σ H _ I h) fun u s1 ⟨x, H1, I1, rx, q1⟩ => thn (p2.run pins s1 σ H1 _ I1 q1) fun iv s2 ⟨y, H2, I2, ry, a, L, o, b, ns, r, ex, ey, hd, hr, hb, hf, hv, q2⟩ => ?_)
    subst ex ey
    cases rx; cases ry
    refine ⟨dic_type I2 hd, wpAny_getItem_heap (tupleKind_room_in1 (by show X.A.units + 1 < cLine; omega)) (key_is I2 hb) (dic_of I2 hd hr) (p := r.2) (by rw [atKey_rows, hf]; rfl) ?_⟩
    exact ⟨vBk r.2.2, H2, I2.tok _, relBk hv, q2⟩
  · refine s1 c ρ b σ H _ _ I h fun d b1 v H1 h1 I1 g1 r1 => ?_
    refine s2 c ρ b1 σ H1 _ _ I1 h1 fun k b2 y H2 ⟨acc, ns, qq, ed, ek, hf, h2⟩ I2 g2 r2 => ?_
    subst ed ek
    obtain ⟨a, L, o, ev, hd, hR⟩ := dic_inv (dp_mono g2 r1)
    obtain ⟨l, xs, ey, t1, t2⟩ := r2.tup_inv
    rw [t2.ints] at t1
    obtain ⟨r, hr, hv, rd⟩ := (find_rows (G := fun r p => vOf (vBk r.2.2) = r.2.2 ∧ Dq X.K (hid (c.hs ρ) H2) (vBk r.2.2) p.2) ns hR.len fun i r p a b => let ⟨x1, _, x3, x4⟩ := hR.at_ i r p a b; ⟨x1, x3, x4⟩).1 qq hf
    exact ⟨a, L, o, l, ns, r, ev, ey, hid_le _ _ hd, (hR.mono hid_le).rowsOk, seqT hid_le t1, hr, hv, q _ _ _ _ h2 I2 (Gr.trans g1 g2) rd⟩
/-- k not in d -/
def wNotInK (u w : WE) : WT := fun ρ b Φ => u ρ b fun k b1 => w ρ b1 fun d b2 => ∃ (acc : List (List Int × D)) (ns : List Int), d = dicD acc ∧ k = .tuple (ns.map .int) ∧ Φ (!(acc.find? fun r => decide (r.1 = ns)).isSome) b2
theorem t_notInK {u w : WE} (hu : X.A.units + 65 < cLine) (h1 : DE X a u) (h2 : DE X e w) (hm : behindInMarks .NotIn e = false := by rfl) : DT X (.Compare a [.NotIn] [e] pos) (wNotInK u w) := by
  obtain ⟨tu, p1, s1⟩ := h1.ex
  obtain ⟨te, p2, s2⟩ := h2.ex
  have ho : OpR X (compareOp .NotIn) (fun y x H Q => ∃ a L o b ns, x = .ref a ∧ y = .ref b ∧ H a = some (DicO a L o) ∧ RowsOk X.K H L ∧ SqT X.K H b (ns.map V.int) ∧ Q (.bl (!(L.find? fun r => decide (r.1 = ns)).isSome)) H) := by
    intro pins s σ H y x v u Q I ry rx ⟨a, L, o, b, ns, ex, ey, hd, hr, hb, q⟩
    subst ex ey
    cases rx; cases ry
    refine wpAny_notIn_heap (tupleKind_room_in1 (by show X.A.units + 1 < cLine; omega)) (key_is I hb) (I.hok _ _ hd).1.big (dic_of I hd hr) ?_
    refine ⟨_, H, I.tok _, ?_, q⟩
    rw [atKey_rows, Option.isSome_map]
    rfl
  refine ⟨_, pt_cmpR ho p1 p2 hm, fun c ρ b σ H Φ Q I h q => ?_⟩
  refine s1 c ρ b σ H _ _ I h fun k b1 y H1 h1 I1 g1 r1 => ?_
  refine s2 c ρ b1 σ H1 _ _ I1 h1 fun d b2 v H2 ⟨acc, ns, ed, ek, h2⟩ I2 g2 r2 => ?_
  subst ed ek
  obtain ⟨a, L, o, ev, hd, hR⟩ := dic_inv r2
  obtain ⟨l, xs, ey, t1, t2⟩ := (dp_mono g2 r1).tup_inv
  rw [t2.ints] at t1
  have fr := find_rows (G := fun _ _ => True) ns hR.len fun i r p a b => ⟨(hR.at_ i r p a b).1, trivial⟩
  have es : (L.find? fun r => decide (r.1 = ns)).isSome = (acc.find? fun r => decide (r.1 = ns)).isSome := by
    cases e1 : acc.find? fun r => decide (r.1 = ns) with
    | none => rw [fr.2 e1]; rfl
    | some q => obtain ⟨r, hr, _⟩ := fr.1 q e1; rw [hr]; rfl
  exact ⟨a, L, o, l, ns, ev, ey, hid_le _ _ hd, (hR.mono hid_le).rowsOk, seqT hid_le t1, _, rfl, by rw [es]; exact q _ _ _ h2 I2 (Gr.trans g1 g2)⟩
/-! ### d.items() -/
def ItiD (K : PySem.W.Frag) (a : Addr) (L : List RowI) (o : Obj) : It :=
  ⟨fun i H => H a = some (DicO a L o) ∧ RowsOk K H L ∧ (∀ r ∈ L, vOf (vBk r.2.2) = r.2.2) ∧ i < L.length, fun i H x H' => ∃ T r, L[i]? = some r ∧ x = .ref T ∧ H T = none ∧ H' = upd H T (.tup [.ref r.2.1, vBk r.2.2]), fun i H => H a = some (DicO a L o) ∧ L.length ≤ i⟩
theorem turn_itemsK {P : Program} {w : World} {elts : List Expr} {kk : Nat} {tpos : Pos} {es : Array DictEntry} {ep : Nat} {o : Obj} (a it : Addr) (L : List RowI) (hod : o.data = .dict es ep) (hsz : es.size = L.length) :
    Turn P w K (.Tuple elts kk tpos) (ItiD K a L o) [it] it (fun i h => ∃ ok ov, IsItemIter h it a i L.length ep ok ov) where
  mem := List.mem_cons_self
  obj := fun i h st b hb => by
    obtain rfl : b = it := by simpa using hb
    obtain ⟨ok, ov, e⟩ := st
    exact ⟨_, e, fun v z => nomatch z⟩
  keep := fun i h h' st k => let ⟨ok, ov, e⟩ := st; ⟨ok, ov, k it (by simp) _ e⟩
  item := by
    intro X hP hw hK hc i pins s σ H E I hf st ⟨hd, hrows, hvals, hi⟩
    subst hP hw hK
    obtain ⟨_, hget, es', ep', hex, hdt, _, ent⟩ := dic_raw I hd
    rw [hod] at hdt
    injection hdt with q1 q2
    subst q1 q2
    obtain ⟨ok, ov, he⟩ := st
    have hlt : it < s.heap.objs.size := Heap.lt_size he
    have hie : i < es.size := by rw [hsz]; exact hi
    obtain ⟨en, hen, hk, hv⟩ := ent i L[i] (List.getElem?_eq_getElem hi)
    rw [Array.getElem?_eq_getElem hie] at hen
    cases hen
    have raw : s.heap.DictRaw a es ep := ⟨o, hget, hex, hod⟩
    rw [← hsz] at he
    refine wpAny_pyNext_items_item_raw he raw hie fun h' ho hT hz hkp => ?_
    rw [hk, hv] at ho hT
    refine ⟨_, rfl, wpAny_letOwnedTupleGo_items (s := { s with heap := h' }) ho fun h'' he' sb => ?_⟩
    have hT2 := (sb.2 _ (Nat.ne_of_gt hlt)).trans hT
    have vr := hvals L[i] (List.getElem_mem hi)
    have new : ObjOk X.prog X.w (upd H s.heap.objs.size (.tup [.ref L[i].2.1, vBk L[i].2.2])) h'' s.heap.objs.size (.tup [.ref L[i].2.1, vBk L[i].2.2]) :=
      ⟨by show 2 ≤ sizeLine; decide, [.ref L[i].2.1, L[i].2.2], .cons rfl (.cons (relBk vr) .nil), ⟨_, hT2, rfl, _, rfl⟩⟩
    have I1 := I.turnedNew (t' := s.toks) (ch := [it]) (fun b ob hb e => (sb.2 b (by simpa using hb)).trans (hkp b ob (by simpa using hb) e)) hf (Nat.le_refl _) new
    refine ⟨.ref s.heap.objs.size, _, I1, rfl, ⟨_, L[i], List.getElem?_eq_getElem hi, rfl, I.hok.fresh (Nat.le_refl _), rfl⟩, ⟨_, _, by rw [← hsz]; exact he'⟩, fun b hb => ?_⟩
    rw [List.mem_singleton.mp hb, upd_ne (Nat.ne_of_lt hlt)]
    exact (hf it (by simp)).1
  done := by
    intro X hP hw hK hc i pins s σ H E I hf st ⟨hd, hi⟩
    subst hP hw hK
    obtain ⟨f0, f1, f2, f3, f4, f5⟩ := hf it (by simp)
    obtain ⟨_, hget, es', ep', hex, hdt, _, ent⟩ := dic_raw I hd
    rw [hod] at hdt
    injection hdt with q1 q2
    subst q1 q2
    obtain ⟨ok, ov, he⟩ := st
    rw [← hsz] at he
    exact wpAny_pyNext_items_end_raw (I.ok.hd hc) he ⟨o, hget, hex, hod⟩ (by omega) fun h' eb => ⟨rfl, I.turned (t' := s.toks) (fun b o hb e => eb b o hb e) f0 f1 f3 f4 f5⟩
  self := fun A i s Q E st h => let ⟨_, _, e⟩ := st; PySem.W.kcp_self e h
def iItemsK (K : PySem.W.Frag) (te : TE) : TI := fun σ H R => te σ H fun x H1 => ∃ a L o, x = .ref a ∧ H1 a = some (DicO a L o) ∧ R (ItiD K a L o) H1
theorem pi_itemsK {elts : List Expr} {kk : Nat} {tpos apos cpos : Pos} {te : TE} (he : PE X e te) (hbase : attributeBase e "items" X.env (eval e X.env) = eval e X.env := by rfl) (hline : (apos.endLine == cpos.line) = true := by rfl) :
    PI X (.Tuple elts kk tpos) (.Call (.Attribute e "items" apos) [] [] cpos) (iItemsK X.K te) := by
  refine ⟨fun pins s σ H R I h => ?_⟩
  refine wpAny_Call_method (T := "dict") (id := "dict.items") hbase rfl hline F.plainAttrs_dict F.slot_dict_items F.type_dict_items (thn (he.run pins s σ H _ I h) fun u s1 ⟨x, H1, I1, rx, a, L, o, ex, hd, q⟩ => ?_)
  subst ex
  cases rx
  obtain ⟨hb, hget, es, ep, hex, hdt, hsz, ent⟩ := dic_raw I1 hd
  have raw : s1.heap.DictRaw a es ep := ⟨o, hget, hex, hdt⟩
  refine ⟨raw.typeIs, fun b e => ?_, ?_⟩
  · cases e
    exact ⟨o, hget, hex.2.1⟩
  have I2 : Inv X pins σ H1 { s1 with heap := s1.heap.push { cls := .type "dict_items", data := .fields #[.ref a] } } := I1.kept (t' := s1.toks) fun b ob q => Heap.get?_push_of_some _ q
  have fin : wpAny (model X.prog X.w) X.A (pyIter (.ref s1.heap.objs.size)) (PIE X pins σ (.Tuple elts kk tpos) R) X.xe { s1 with heap := s1.heap.push { cls := .type "dict_items", data := .fields #[.ref a] } } := by
    refine wpAny_pyIter_items_raw (d := a) ⟨_, Heap.get?_push_size _ rfl, rfl, rfl⟩ (raw.at fun o e => Heap.get?_push_of_some _ e) (pi_one (tk := s1.toks) I2 _ (turn_itemsK a _ L hdt hsz) ⟨.none, .none, ?_⟩ q)
    rw [hsz]
    exact Heap.get?_push_size _ rfl
  show wpAny _ _ (callWith cpos (.builtin "dict.items") [.ref a] [] []) _ X.xe s1
  exact method_meetsIn F.slot_dict_items F.entry_dict_items rfl (PySem.evalArgs_none ⟨rfl, raw.typeIs, F.args_dict_items_1 _, _, meets_dict_items_raw a hb, ⟨⟨es, ep, raw⟩, fin⟩⟩)
def itemsD (acc : List (List Int × D)) : List D := acc.map fun q => .tuple [.tuple (q.1.map .int), q.2]
theorem walk_items {B : Hp} {a : Addr} {L : List RowI} {o : Obj} {acc : List (List Int × D)} (h : B a = some (DicO a L o)) (r : RowsAt K B L acc) : WalkOk K (ItiD K a L o) B (itemsD acc) where
  go := fun i H s hi => ⟨s _ _ h, r.rowsOk.mono s, fun row hr => by
    obtain ⟨j, hj, e⟩ := List.getElem_of_mem hr
    have hj' : j < acc.length := by rw [← r.len]; exact hj
    exact (r.at_ j row acc[j] (by rw [List.getElem?_eq_getElem hj, e]) (List.getElem?_eq_getElem hj')).2.2.1, by rw [r.len]; simpa [itemsD] using hi⟩
  yld := fun i H x H' s hi ⟨T, row, h1, e1, hT, e2⟩ => by
    subst e1 e2
    have hi : i < acc.length := by simpa [itemsD] using hi
    obtain ⟨q1, q2, _, q4⟩ := r.at_ i row acc[i] h1 (List.getElem?_eq_getElem hi)
    have rk : Dq K B (.ref row.2.1) (.tuple (acc[i].1.map .int)) := by rw [← q1]; exact .tup q2 (DqAll.ofInts _)
    exact ⟨.tuple [.tuple (acc[i].1.map .int), acc[i].2], by simp [itemsD, hi], yld_pair hT rk q4⟩
  stop := fun i H s hi => ⟨s _ _ h, by rw [r.len]; simpa [itemsD] using hi⟩
def wItems (w : WE) : WA := fun ρ b Φ => w ρ b fun d b1 => ∃ acc, d = dicD acc ∧ Φ (itemsD acc) b1
theorem i_items {elts : List Expr} {kk : Nat} {tpos apos cpos : Pos} {w : WE} (h : DE X e w) (hbase : attributeBase e "items" X.env (eval e X.env) = eval e X.env := by rfl) (hline : (apos.endLine == cpos.line) = true := by rfl) :
    DI X (.Tuple elts kk tpos) (.Call (.Attribute e "items" apos) [] [] cpos) (wItems w) := by
  obtain ⟨te, p1, s1⟩ := h.ex
  refine ⟨_, pi_itemsK p1 hbase hline, fun c ρ b σ H Φ R I h q => ?_⟩
  refine s1 c ρ b σ H _ _ I h fun d b1 v H1 ⟨acc, e, h1⟩ I1 g1 r1 => ?_
  subst e
  obtain ⟨a, L, o, ev, h2, h3⟩ := dic_inv r1
  exact ⟨a, L, o, ev, hid_le _ _ h2, q _ _ _ _ h1 I1 g1 (walk_items h2 h3)⟩
end
end DL

/-! DL22: a dict of the body's own: x = {}, x.setdefault(k, v). -/
namespace DL
open PySem PySem.Spec PyProof.Rows L2
section
variable {X : Cx} {K : PySem.W.Frag} {pos p : Pos} {e f : Expr}
theorem pe_dic0 : PE X (.Dict [] [] pos) (fun _ H Q => ∀ p, H p = none → Q (.ref p) (upd H p (DicO p [] dict0))) := ⟨fun pins s σ H Q I h =>
  wpAny_Dict_empty ⟨.ref s.heap.objs.size, _, I.laid (t' := s.toks) (fun _ _ q => Heap.get?_push_of_some _ q) (Nat.le_refl _) (dic_ok (empty_dic s.heap I.big)), rfl, h _ (I.hok.fresh (Nat.le_refl _))⟩⟩
theorem rows_nil {H : Hp} : RowsAt K H [] [] := ⟨rfl, fun i r p h _ => by simp at h⟩
/-- x = {} -/
def sOwnD (i : Nat) : WS := fun ρ b Φ => i < ρ.length ∧ ∀ p, Φ (.nx (ρ.set i (.own p (dicD []))) b)
theorem s_ownD (i : Nat) {x : Str} {pos' lp : Pos} (hN : X.N.Nodup) (hi : X.N[i]? = some x := by rfl) (hx : Loc X.env.scope x := by first | exact Or.inl rfl | exact Or.inr rfl) (hf : X.fn x = true ∨ X.env.scope.names.lookup x = some .local := by first | exact .inr rfl | exact .inl rfl)
    (hs : swapsWith (.Dict [] [] lp) (some (.Name x pos')) pos.line X.env = pure false := by rfl) : DS X (.Assign [.Name x pos'] (.Dict [] [] lp) pos) (sOwnD i) := by
  refine ⟨_, ps_set (i := i) hN hi hx pe_dic0 hs hf, fun c ρ b σ H B Φ E I hB ⟨h1, h2⟩ q => ?_⟩
  intro p hp
  obtain ⟨I', g⟩ := I.setO (ho := DicO p [] dict0) (ds := dicD []) h1 hp (.dic rows_nil)
  exact q.nx _ _ _ _ (h2 p) I' (hB.trans g)
def setP (acc : List (List Int × D)) (ns : List Int) (d : D) : List (List Int × D) := if (acc.any fun r => decide (r.1 = ns)) = true then acc else acc ++ [(ns, d)]
theorem find_any {α : Type} (l : List α) (q : α → Bool) : (l.find? q).isSome = l.any q := by
  rw [Bool.eq_iff_iff, List.find?_isSome, List.any_eq_true]
def tSetd (X : Cx) (to tk tv : TE) : TE := fun σ H Q => to σ H fun x H1 => ∃ a, x = .ref a ∧ (∃ L o, H1 a = some (DicO a L o)) ∧ tk σ H1 fun y H2 => tv σ H2 fun z H3 => ∃ L o b ns, H3 a = some (DicO a L o) ∧ RowsOk X.K H3 L ∧ y = .ref b ∧ SqT X.K H3 b (ns.map V.int) ∧ L.length < sizeLine ∧ valOk z ∧
  (∀ r, (L.find? fun r => decide (r.1 = ns)) = some r → vOf (vBk r.2.2) = r.2.2 ∧ Q (vBk r.2.2) H3) ∧ ((L.find? fun r => decide (r.1 = ns)) = none → ∀ o', Q z (upd H3 a (DicO a (putI L ns b (vOf z)) o')))
theorem pe_setd {o : Expr} {to tk tv : TE} {apos cpos : Pos} (hu : X.A.units + 65 < cLine) (ho : PE X o to) (he : PE X e tk) (hf : PE X f tv) (m : M2 X o "setdefault" apos e f cpos) : PE X (.Call (.Attribute o "setdefault" apos) [e, f] [] cpos) (tSetd X to tk tv) := by
  refine ⟨fun pins s σ H Q I h => ?_⟩
  refine wpAny_Call_method m.base m.few m.line PySem.F.plainAttrs_dict PySem.F.slot_dict_setdefault PySem.F.type_dict_setdefault (thn (ho.run pins s σ H _ I h) fun u s1 ⟨x, H1, I1, rx, a, ex, ⟨L0, o0, d0⟩, q1⟩ => ?_)
  subst ex
  cases rx
  obtain ⟨_, hget, _, _, hex, _⟩ := dic_raw I1 d0
  refine ⟨dic_type I1 d0, fun b e => by cases e; exact ⟨o0, hget, hex.2.1⟩, ?_⟩
  rw [m.trees]
  refine Calls.callWith_builtin rfl (Calls.evalArgs_plain (Calls.spliced_cons (thn (he.run pins s1 σ H1 _ I1 q1) fun iv s2 ⟨y, H2, I2, ry, q2⟩ =>
    Calls.spliced_cons (thn (hf.run pins s2 σ H2 _ I2 q2) fun fv s3 ⟨z, H3, I3, rz, L, o, b, ns, hd, hr, ey, hb, hl, hv, q3, q4⟩ => Calls.spliced_nil ?_))))
  subst ey
  cases ry
  rw [rel_vOf rz hv]
  have big := (I3.hok _ _ hd).1.big
  refine call_meetsIn PySem.F.slot_dict_setdefault (dic_type I3 hd) PySem.F.entry_dict_setdefault (PySem.F.args_dict_setdefault_3 _ _ _) (meetsH_dict_setdefault (tkd X.prog X.w) a _ big (vOf z))
    ⟨tupleKind_room_in1 (by show X.A.units + 1 < cLine; omega), keyI ns, L.map rowK, key_is I3 hb, dic_of I3 hd hr, by rw [List.length_map]; omega, fun p hp => ?_, fun hn h' dd sb => ?_⟩
  · rw [atKey_rows] at hp
    obtain ⟨r, hr1, rfl⟩ := Option.map_eq_some_iff.mp hp
    obtain ⟨hv1, q5⟩ := q3 r hr1
    exact (⟨vBk r.2.2, H3, I3.tok _, relBk hv1, q5⟩ : EP X pins σ Q _ _)
  · rw [atKey_rows] at hn
    have hn' : (L.find? fun r => decide (r.1 = ns)) = none := by
      cases e1 : L.find? fun r => decide (r.1 = ns) with
      | none => rfl
      | some r => rw [e1] at hn; cases hn
    rw [stored_rows] at dd
    obtain ⟨o', d1⟩ := of_dic big dd
    have rz' : RelV z (vOf z) := by rw [← rel_vOf rz hv]; exact rz
    exact (⟨z, _, d_write I3 (by rw [hd]; exact True.intro) sb ⟨o', d1.get⟩ (dic_ok d1), rz', q4 hn' o'⟩ : EP X pins σ Q _ _)
def sSetd (i : Nat) (wk wv : WE) : WS := fun ρ b Φ => ∃ p acc, ρ[i]? = some (.own p (dicD acc)) ∧ wk ρ b fun dk b1 => ∃ ns : List Int, dk = .tuple (ns.map .int) ∧ wv ρ b1 fun dv b2 => acc.length < sizeLine ∧ okV dv = true ∧ Φ (.nx (ρ.set i (.own p (dicD (setP acc ns dv)))) b2)
theorem dicD_inj {a b : List (List Int × D)} (h : dicD a = dicD b) : a = b := by
  unfold dicD at h
  injection h with h
  induction a generalizing b with
  | nil => cases b with | nil => rfl | cons _ _ => cases h
  | cons x a ih =>
    cases b with
    | nil => cases h
    | cons y b =>
      simp only [List.map_cons, List.cons.injEq, Prod.mk.injEq, PyData.tuple.injEq] at h
      rw [ih h.2, Prod.ext (ints_inj h.1.1) h.1.2]
theorem Held.dic_inv {H : Hp} {l : Addr} {ho : HO} {acc : List (List Int × D)} (h : Held K H l ho (dicD acc)) : ∃ L o, ho = DicO l L o ∧ RowsAt K H L acc := by
  generalize e : dicD acc = d at h
  cases h with
  | lst r => unfold dicD at e; cases e
  | dic r => rw [dicD_inj e]; exact ⟨_, _, rfl, r⟩
theorem s_setd (i : Nat) {x : Str} {wk wv : WE} {apos cpos xp : Pos} (hu : X.A.units + 65 < cLine) (hN : X.N[i]? = some x) (hv : Vis X.env.scope x) (hk : DE X e wk) (hw : DE X f wv) (m : M2 X (.Name x xp) "setdefault" apos e f cpos := by exact ⟨rfl, rfl, rfl, rfl⟩)
    (hd : (x == ("__debug__" : Str)) = false := by decide) (hcd : (x == ("__classdict__" : Str)) = false := by decide)
    (hsw : swapsWith (.Call (.Attribute (.Name x xp) "setdefault" apos) [e, f] [] cpos) none pos.line X.env = pure false := by rfl) : DS X (.Expr (.Call (.Attribute (.Name x xp) "setdefault" apos) [e, f] [] cpos) pos) (sSetd i wk wv) := by
  obtain ⟨tk, p1, s1⟩ := hk.ex
  obtain ⟨tv, p2, s2⟩ := hw.ex
  refine ⟨_, ps_expr (pe_setd hu (pe_var hN hv hd hcd) p1 p2 m) hsw, fun c ρ b σ H B Φ E I hB ⟨l, acc, hi, h⟩ q => ?_⟩
  obtain ⟨o1, h1, h2, ho1, h3, r3⟩ := I.sl i _ hi
  obtain ⟨L1, oo1, rfl, r3'⟩ := Held.dic_inv r3
  refine ⟨.ref l, by rw [h1, h2], l, rfl, ⟨L1, oo1, h3⟩, ?_⟩
  refine s1 c ρ b σ H _ _ I h fun dk b1 y H1 ⟨ns, edk, h1⟩ I1 g1 r1 => ?_
  subst edk
  refine s2 c ρ b1 σ H1 _ _ I1 h1 fun dv b2 z H2 ⟨hz, hok, h2⟩ I2 g2 r2 => ?_
  obtain ⟨_, _, _, ho2, h5, r5⟩ := I2.sl i _ hi
  obtain ⟨L, o, rfl, hR⟩ := Held.dic_inv r5
  obtain ⟨bb, xs, ey, t1, t2⟩ := (dp_mono g2 r1).tup_inv
  rw [t2.ints] at t1
  have ka := any_keys (α := Addr × Value) hR.keys ns
  have fr := find_rows (G := fun r p => vOf (vBk r.2.2) = r.2.2) ns hR.len fun i r p a b => let ⟨x1, _, x3, _⟩ := hR.at_ i r p a b; ⟨x1, x3⟩
  have gg := hB.trans (g1.trans g2)
  refine ⟨L, o, bb, ns, h5, (hR.mono hid_le).rowsOk, ey, seqT hid_le t1, by rw [hR.len]; exact hz, (okV_val r2 hok).1, fun r hr => ?_, fun hn o' => ?_⟩
  · have hany : (acc.any fun r => decide (r.1 = ns)) = true := by
      rw [← ka, ← find_any, hr]; rfl
    have e1 : setP acc ns dv = acc := by unfold setP; rw [if_pos hany]
    rw [e1] at h2
    have e2 : ρ.set i (.own l (dicD acc)) = ρ := by
      apply List.ext_getElem?
      intro j
      rw [List.getElem?_set]
      by_cases z : i = j
      · subst z
        rw [if_pos rfl, if_pos (List.getElem?_eq_some_iff.mp hi).1, hi]
      · rw [if_neg z]
    rw [e2] at h2
    obtain ⟨rr, hrr⟩ : ∃ q, (acc.find? fun r => decide (r.1 = ns)) = some q := by
      cases e3 : acc.find? fun r => decide (r.1 = ns) with
      | none => have := find_any acc fun r => decide (r.1 = ns); rw [e3, hany] at this; cases this
      | some q => exact ⟨q, rfl⟩
    obtain ⟨r', hr', hvv⟩ := fr.1 rr hrr
    rw [hr] at hr'; cases hr'
    exact ⟨hvv, q.nx _ _ _ _ h2 I2 gg⟩
  · have hany : (acc.any fun r => decide (r.1 = ns)) = false := by
      have := find_any L fun r => decide (r.1 = ns)
      rw [hn] at this
      rw [← ka]; exact this.symm
    have e1 : setP acc ns dv = putP acc ns dv := by unfold setP putP; rw [hany]; rfl
    rw [e1] at h2
    have rput := hR.put (b := bb) t1 r2 hok
    obtain ⟨I3, e2, e3⟩ := I2.updO hi (.dic (o := o') rput)
    exact q.nx _ _ _ _ h2 I3 (by rw [e2, e3]; exact gg)
end
end DL

/-! DL23: a def that takes data and a def; sorted({k: .., l: ..}) of two ints. -/
namespace DL
open PySem L2
abbrev SpT := D → (D → Prop) → Prop
def spT (K : PySem.W.Frag) (f : Addr) (S : SpT) : Sp := fun vs H Q _ => ∃ (O : List Addr) (v : V) (d : D) (Φ : D → Prop), vs = [v, .ref f] ∧ O.Nodup ∧ (∀ a ∈ O, H a ≠ none) ∧ Dq K (hid O H) v d ∧ S d Φ ∧
  ∀ d v H', Φ d → Same H H' → Dq K (hid O H') v d → Q v H'
section
variable {P : Program} {w : World} {K : PySem.W.Frag} {mg : Str → Option Value} {base : Heap}
theorem cl_fn {x : Str} {st : Stmt} {N ps : List Str} {k : Nat} {fo : Addr} {S : SpT} (A : At K mg x st ps) (sc : FnScope N ps (defScope st)) (hp : ps.length = 2) (hn : 2 ≤ N.length)
    (hbody : ∀ (f : Addr) (cdv : Value) (A : Around) (outer : List PySem.Env) (s : Shared) (H : Hp), A.guards = some [] → Room k (A.deeper (PyProof.Rows.envOfC x (defScope st) s.heap.objs.size f cdv)) →
      ∃ wb, DSs (cxOf CX0 P w K mg base N x (defScope st) f cdv A outer s H E0).nox (defBody st) wb ∧ ∀ b d Φ, S d Φ → wb (ρ0 N [.dat d, .fn fo]) b (fin fun d _ => Φ d)) : Cl P w K mg base x (k + 1) (spT K fo S) := by
  obtain ⟨f, fd, F, hb, hm⟩ := A.ex
  refine ⟨f, fd, ps, FnG.of F sc (fun vs H Q E h => ?_) (fun cdv A outer s H vs Q hgd hr h => ?_), hb, hm, F.kp⟩
  · obtain ⟨O, v, d, Φ, e, _⟩ := h
    rw [e, hp]; rfl
  · obtain ⟨O, v, d, Φ, e, h1, h2, r, h, q⟩ := h
    subst e
    obtain ⟨wb, ⟨ts, p, snd⟩, hw⟩ := hbody f cdv A outer s H hgd hr
    have hb0 := hw (0, 0, 0, []) d Φ h
    refine ⟨ts, p, ?_⟩
    have ha0 : adr (ρ0 N [.dat d, .fn fo]) = [] := by rw [adr_ρ0]; rfl
    have hs0 : (Fr.mk H O none).hs (ρ0 N [.dat d, .fn fo]) = O := by unfold Fr.hs Fr.hb; rw [ha0]; simp
    obtain ⟨l1, l2⟩ := start_sl (K := K) (c := ⟨H, O, none⟩) (hs := O) (H := H) (N := N) (vs := [v, .ref fo]) (l := [.dat d, .fn fo]) rfl hn (fun i v' s' g1 g2 => by
      match i, g1, g2 with
      | 0, g1, g2 => simp at g1 g2; subst g1 g2; exact ⟨_, rfl, r⟩
      | 1, g1, g2 => simp at g1 g2; subst g1 g2; rfl)
    refine snd ⟨H, O, none⟩ (ρ0 N [.dat d, .fn fo]) (0, 0, 0, []) (start N [v, .ref fo]) H (fun _ => none) _ _ ⟨Same.refl _, l1, by rw [hs0]; exact l2, by rw [hs0]; exact h1, by rw [hs0]; exact h2, ?_, fun p hp => by cases hp⟩ (fun _ _ h => by cases h) hb0 ?_
    · rw [ha0]; intro a ha; simp at ha
    · refine ⟨fun ρ b σ H' hφ I _ => ?_, fun d b v H' hφ R => ?_, fun _ _ _ _ hφ => hφ.elim, fun _ _ _ _ hφ => hφ.elim⟩
      · exact q _ _ _ hφ I.same .non
      · refine q _ _ _ hφ R.same ?_
        have e : (Fr.mk H O none).hb = O := by unfold Fr.hb; simp
        rw [← e]; exact R.val
end
section
variable {X : Cx} {pos p p2 : Pos} {x y : Str} {k : Nat} {e : Expr}
def wCallT (S : SpT) (w : WE) : WE := fun ρ b Φ => w ρ b fun d b1 => S d fun d' => Φ d' b1
theorem d_callT {S : SpT} {fo : Addr} {w : WE} (hc : Cl X.prog X.w X.K X.mg X.base x k (spT X.K fo S)) (hgd : X.A.guards = some []) (hr : Room k X.A) (hg : Gl X x) (hg2 : Gl X y) (hm2 : X.mg y = some (.ref fo)) (he : DE X e w) (hdb : (x == ("__debug__" : Str)) = false := by decide) (hd2 : (y == ("__debug__" : Str)) = false := by decide)
    (h1 : starEach [e, .Name y p2] X.env = (false, eval e X.env) :: starEach [.Name y p2] X.env := by rfl) (h2 : starEach [.Name y p2] X.env = (false, eval (.Name y p2) X.env) :: starEach [] X.env := by rfl)
    (hpl : (backTo pos (starEach [.Name y p2] X.env)).any (·.1) = false := by rfl) : DE X (.Call (.Name x p) [e, .Name y p2] [] pos) (wCallT S w) := by
  obtain ⟨f, fd, ps, F, hb, hm, hk⟩ := hc.ex
  obtain ⟨te, p1, s1⟩ := he.ex
  refine ⟨_, pe_callG F hgd hr hg hm hk hb (pa_cons p1 (pa_cons (pe_glob (v := .ref fo) hg2 hm2 rfl hd2) pa_nil h2) h1) hdb h1 hpl, fun c ρ b σ H Φ Q I h q => ?_⟩
  refine s1 c ρ b σ H _ _ I h fun d b1 v H1 h1 I1 g1 r1 => ?_
  exact ⟨c.hs ρ, v, d, _, rfl, I1.nd, I1.dom, r1, h1, fun d v H' h2 g2 r2 => q _ _ _ _ h2 (I1.grow g2) (g1.trans (Gr.of g2)) r2⟩
/-! ### sorted({k: u, l: v}) -/
def srt2 (m n : Int) : List Int := if m = n then [m] else if m < n then [m, n] else [n, m]
theorem En.hideF {K : PySem.W.Frag} {c : Fr} {ρ : Env} {b : Bag} {σ : St} {H : Hp} (I : En K c ρ b σ H) {D : Addr} {o : HO} (hD : H D = none) :
    En K { c with F := upd c.F D o, O := D :: c.O } ρ b σ (upd H D o) ∧ Same (hid (c.hs ρ) H) (hid (D :: c.hs ρ) (upd H D o)) := by
  obtain ⟨I1, s1⟩ := I.hide (o := o) hD
  refine ⟨⟨fun a u h => ?_, I1.len, I1.sl, I1.nd, I1.dom, fun a ha => ?_, I1.bag⟩, s1⟩
  · have h : upd c.F D o a = some u := h
    by_cases z : a = D
    · subst z
      rw [upd_same] at h ⊢
      exact h
    · rw [upd_ne z] at h ⊢
      exact I.same a u h
  · have hne : a ≠ D := fun z => I.fresh hD (by
      rw [← z]
      rcases List.mem_append.mp ha with h | h
      · exact List.mem_append_left _ (List.mem_append_right _ h)
      · exact List.mem_append_right _ h)
    show upd c.F D o a = none
    rw [upd_ne hne]; exact I.out a ha
def wSort2 (wk wv wl wm : WE) : WE := fun ρ b Φ => wk ρ b fun k b1 => wv ρ b1 fun _ b2 => wl ρ b2 fun l b3 => wm ρ b3 fun _ b4 => ∃ m n : Int, k = .int m ∧ l = .int n ∧ Φ (.list ((srt2 m n).map .int)) b4
theorem srt_of {m n : Int} {ys : List Int} (h : ys.Perm (if m = n then [m] else [m, n])) (hs : ys.Pairwise (· ≤ ·)) : ys = srt2 m n := by
  unfold srt2
  by_cases z : m = n
  · rw [if_pos z] at h ⊢
    exact List.perm_singleton.mp h
  · rw [if_neg z] at h ⊢
    have hl := h.length_eq
    match ys, hl with
    | [a, b], _ =>
      have h1 : a ≤ b := by simpa using hs
      have ha : a ∈ [m, n] := h.mem_iff.mp (by simp)
      have hb : b ∈ [m, n] := h.mem_iff.mp (by simp)
      have hm : m ∈ [a, b] := h.mem_iff.mpr (by simp)
      have hn : n ∈ [a, b] := h.mem_iff.mpr (by simp)
      simp at ha hb hm hn
      by_cases c : m < n
      · rw [if_pos c]
        have : a = m ∧ b = n := by omega
        rw [this.1, this.2]
      · rw [if_neg c]
        have : a = n ∧ b = m := by omega
        rw [this.1, this.2]
theorem d_sort2 {k1 v1 k2 v2 : Expr} {wk wv wl wm : WE} {dpos : Pos} (hc : X.calm = true) (hg : Gl X "sorted") (hm : X.mg "sorted" = none) (hk : DE X k1 wk) (hv : DE X v1 wv) (hl : DE X k2 wl) (hmm : DE X v2 wm)
    (h1 : starEach [.Dict [some k1, some k2] [v1, v2] dpos] X.env = (false, eval (.Dict [some k1, some k2] [v1, v2] dpos) X.env) :: starEach [] X.env := by rfl) :
    DE X (.Call (.Name "sorted" p) [.Dict [some k1, some k2] [v1, v2] dpos] [] pos) (wSort2 wk wv wl wm) := by
  obtain ⟨t1, p1, s1⟩ := hk.ex
  obtain ⟨t2, p2, s2⟩ := hv.ex
  obtain ⟨t3, p3, s3⟩ := hl.ex
  obtain ⟨t4, p4, s4⟩ := hmm.ex
  refine ⟨_, pe_callB (call_sortedDI hc) hg hm PyProof.Rows.boot_sorted (pa_cons (pe_disp (pps_cons p1 p2 (pps_cons p3 p4 pps_nil)) rfl rfl (by simp) (by simp)) pa_nil h1) (by decide) (by decide) h1 (by rfl), fun c ρ b σ H Φ Q I h q => ?_⟩
  intro D hD
  obtain ⟨I0, g0⟩ := I.hideF (o := .dK []) hD
  refine s1 _ ρ b σ _ _ _ I0 h fun dk b1 vk H1 h1 I1 g1 r1 => ?_
  refine s2 _ ρ b1 σ H1 _ _ I1 h1 fun dv b2 vv H2 h2 I2 g2 r2 => ?_
  refine s3 _ ρ b2 σ H2 _ _ I2 h2 fun dl b3 vl H3 h3 I3 g3 r3 => ?_
  refine s4 _ ρ b3 σ H3 _ _ I3 h3 fun dm b4 vm H4 ⟨m, n, ek, el, h4⟩ I4 g4 r4 => ?_
  subst ek el
  obtain rfl := r1.int_inv
  obtain rfl := r3.int_inv
  have hD4 : H4 D = some (.dK []) := I4.same D _ (by show upd c.F D _ D = _; exact upd_same)
  refine ⟨hD4, [(.inl m, vv), (.inl n, vm)], rfl, by simp, ?_⟩
  have hFD : c.F D = none := by
    cases e : c.F D with
    | none => rfl
    | some o => rw [I.same _ _ e] at hD; cases hD
  have hkeys : (mergeK [] [((.inl m : Key), vv), (.inl n, vm)]).map (·.1) = (if m = n then [m] else [m, n]).map Sum.inl := by
    unfold mergeK
    by_cases z : m = n
    · subst z; simp [putK]
    · have : ¬ n = m := fun e => z e.symm
      simp [putK, z]
  refine ⟨D, mergeK [] [(.inl m, vv), (.inl n, vm)], if m = n then [m] else [m, n], rfl, .inl upd_same, hkeys, by split <;> simp, fun ys q' hp hs hq => ?_⟩
  obtain rfl := srt_of hp hs
  have J : En X.K { c with F := c.F, O := D :: c.O } ρ b4 σ H4 := I4.lessF c.F fun a o e => by
    show upd c.F D _ a = some o
    rw [upd_ne (fun z => by rw [z, hFD] at e; cases e)]; exact e
  have J1 := J.updH (o := .dK (mergeK [] [(.inl m, vv), (.inl n, vm)])) (by simp) hFD
  have J2 : En X.K c ρ b4 σ (upd H4 D (.dK (mergeK [] [(.inl m, vv), (.inl n, vm)]))) := En.unhide (c := c) J1
  have hDn := (List.nodup_cons.mp J.nd).1
  have gA : Gr (c.hs ρ) H (upd H4 D (.dK (mergeK [] [(.inl m, vv), (.inl n, vm)]))) := fun a o e => by
    obtain ⟨e1, e2⟩ := hid_some e
    have hne : a ≠ D := ne_of_none e2 hD
    have e3 := (Same.trans g0 (Same.trans g1 (Same.trans g2 (Same.trans g3 g4)))) a o e
    rw [hid_out e1, upd_ne hne]
    exact (hid_some e3).2
  refine q _ _ _ _ h4 (J2.grow (same_new hq _)) (Gr.trans gA (Gr.of (same_new hq _))) (dq_newL J2.dom hq (DqAll.ofInts _))
end
end DL

/-! M1: plain numbers: directions. -/
namespace K96
open PySem DL
abbrev P2 := Int × Int
abbrev dL (l : List P2) : PyData := .list (l.map pD)
def crs (p q : P2) : Int := p.1 * q.2 - p.2 * q.1
/-- upper: b > 0 or b = 0 and a > 0 -/
def upper (a b : Int) : Bool := decide (0 < b) || (decide (b = 0) && decide (0 < a))
def gcdI (a b : Int) : Int := (Nat.gcd a.natAbs b.natAbs : Nat)
/-- the direction of (a, b), not both 0 -/
def dirn (a b : Int) : P2 := if upper a b = true then (a.fdiv (gcdI a b), b.fdiv (gcdI a b)) else (a.fdiv (-gcdI a b), b.fdiv (-gcdI a b))
def put (p q : P2) : P2 := dirn (p.1 * q.1 - p.2 * q.2) (p.1 * q.2 + p.2 * q.1)
def back (p : P2) : P2 := dirn p.1 (-p.2)
def turnB (p q : P2) : P2 := put q (back p)
/-- primitive, of the upper half -/
def Dir (p : P2) : Prop := Int.gcd p.1 p.2 = 1 ∧ (0 < p.2 ∨ (p.2 = 0 ∧ 0 < p.1))
/-- parallel -/
def Par (p q : P2) : Prop := crs p q = 0
theorem dir_ne {p : P2} (h : Dir p) : p ≠ (0, 0) := fun e => by subst e; simp [Dir] at h
theorem gcdI_pos {a b : Int} (h : ¬ (a = 0 ∧ b = 0)) : 0 < gcdI a b := by
  unfold gcdI
  have : Nat.gcd a.natAbs b.natAbs ≠ 0 := by
    intro e
    rw [Nat.gcd_eq_zero_iff] at e
    omega
  omega
theorem gcdI_eq (a b : Int) : gcdI a b = (Int.gcd a b : Int) := rfl
theorem gcdI_dvd (a b : Int) : gcdI a b ∣ a ∧ gcdI a b ∣ b := ⟨Int.gcd_dvd_left .., Int.gcd_dvd_right ..⟩
theorem mul_pos' {g y : Int} (hg : 0 < g) : 0 < g * y ↔ 0 < y := by
  constructor
  · intro h
    rcases Int.lt_trichotomy y 0 with z | z | z
    · have := Int.mul_neg_of_pos_of_neg hg z; omega
    · subst z; simp at h
    · exact z
  · intro h; exact Int.mul_pos hg h
theorem mul_zero' {g y : Int} (hg : 0 < g) : g * y = 0 ↔ y = 0 := by
  constructor
  · intro h; rcases Int.mul_eq_zero.mp h with z | z
    · omega
    · exact z
  · intro h; subst h; simp
/-- what dirn is -/
theorem dirn_of {g x y : Int} (hg : 0 < g) (hc : Int.gcd x y = 1) : dirn (g * x) (g * y) = if upper x y = true then (x, y) else (-x, -y) := by
  have e : gcdI (g * x) (g * y) = g := by
    rw [gcdI_eq, Int.gcd_mul_left, hc, Nat.mul_one]
    omega
  have eu : upper (g * x) (g * y) = upper x y := by
    unfold upper
    simp only [mul_pos' hg, mul_zero' hg]
  unfold dirn
  rw [e, eu]
  by_cases h : upper x y = true
  · rw [if_pos h, if_pos h, Int.mul_fdiv_cancel_left _ (by omega), Int.mul_fdiv_cancel_left _ (by omega)]
  · rw [if_neg h, if_neg h]
    have : ∀ z : Int, (g * z).fdiv (-g) = -z := fun z => by
      have : g * z = (-g) * (-z) := by grind
      rw [this, Int.mul_fdiv_cancel_left _ (by omega)]
    rw [this, this]
theorem split {a b : Int} (h : ¬ (a = 0 ∧ b = 0)) : ∃ g x y : Int, 0 < g ∧ Int.gcd x y = 1 ∧ a = g * x ∧ b = g * y ∧ g = gcdI a b := by
  have hp := gcdI_pos h
  obtain ⟨⟨x, hx⟩, ⟨y, hy⟩⟩ := gcdI_dvd a b
  refine ⟨gcdI a b, x, y, hp, ?_, hx, hy, rfl⟩
  have e3 : (gcdI a b).natAbs = Int.gcd a b := rfl
  have e2 : Int.gcd a b = (gcdI a b).natAbs * Int.gcd x y := by
    generalize hgd : gcdI a b = g at *
    rw [hx, hy, Int.gcd_mul_left]
  rw [e3] at e2
  have hpos : 0 < Int.gcd a b := by rw [gcdI_eq] at hp; omega
  exact Nat.eq_of_mul_eq_mul_left hpos (by omega)
theorem not_upper {x y : Int} (hc : Int.gcd x y = 1) (h : ¬ upper x y = true) : 0 < -y ∨ (-y = 0 ∧ 0 < -x) := by
  simp only [upper, Bool.or_eq_true, Bool.and_eq_true, decide_eq_true_eq, not_or, not_and] at h
  rcases Int.lt_trichotomy y 0 with z | z | z
  · left; omega
  · right
    refine ⟨by omega, ?_⟩
    have := h.2 z
    rcases Int.lt_trichotomy x 0 with w | w | w
    · omega
    · subst w z; simp at hc
    · omega
  · omega
theorem is_upper {x y : Int} (h : upper x y = true) : 0 < y ∨ (y = 0 ∧ 0 < x) := by
  simpa only [upper, Bool.or_eq_true, Bool.and_eq_true, decide_eq_true_eq] using h
theorem dirn_spec {a b : Int} (h : ¬ (a = 0 ∧ b = 0)) : Dir (dirn a b) ∧ ∃ m : Int, m ≠ 0 ∧ a = m * (dirn a b).1 ∧ b = m * (dirn a b).2 ∧ m.natAbs = (gcdI a b).natAbs := by
  obtain ⟨g, x, y, hg, hc, ha, hb, hgg⟩ := split h
  rw [← hgg]
  subst ha hb
  rw [dirn_of hg hc]
  by_cases hu : upper x y = true
  · rw [if_pos hu]
    exact ⟨⟨hc, is_upper hu⟩, g, by omega, rfl, rfl, rfl⟩
  · rw [if_neg hu]
    refine ⟨⟨by show Int.gcd (-x) (-y) = 1; rw [Int.gcd_neg, Int.neg_gcd]; exact hc, not_upper hc hu⟩, -g, by omega, ?_, ?_, ?_⟩
    · show g * x = -g * -x; grind
    · show g * y = -g * -y; grind
    · omega
theorem dvd_cop {a b c : Int} (h : a ∣ b * c) (g : Int.gcd a b = 1) : a ∣ c := by
  rw [← Int.natAbs_dvd_natAbs] at h ⊢
  rw [Int.natAbs_mul] at h
  exact Nat.Coprime.dvd_of_dvd_mul_left g h
/-- a direction is told by its line -/
theorem dir_uniq {p q : P2} (hp : Dir p) (hq : Dir q) (h : crs p q = 0) : p = q := by
  obtain ⟨p1, p2⟩ := p
  obtain ⟨q1, q2⟩ := q
  obtain ⟨gp, up⟩ := hp
  obtain ⟨gq, uq⟩ := hq
  simp only [crs] at h gp up gq uq
  have e : p1 * q2 = p2 * q1 := by omega
  have d1 : p1 ∣ q1 := dvd_cop ⟨q2, e.symm⟩ gp
  have d2 : q1 ∣ p1 := dvd_cop (b := q2) ⟨p2, by rw [Int.mul_comm, e]; exact Int.mul_comm _ _⟩ gq
  have d3 : p2 ∣ q2 := dvd_cop (b := p1) ⟨q1, e⟩ (by rw [Int.gcd_comm]; exact gp)
  have d4 : q2 ∣ p2 := dvd_cop (b := q1) ⟨p1, by rw [Int.mul_comm, ← e]; exact Int.mul_comm _ _⟩ (by rw [Int.gcd_comm]; exact gq)
  have a1 : p1.natAbs = q1.natAbs := Nat.dvd_antisymm (Int.natAbs_dvd_natAbs.mpr d1) (Int.natAbs_dvd_natAbs.mpr d2)
  have a2 : p2.natAbs = q2.natAbs := Nat.dvd_antisymm (Int.natAbs_dvd_natAbs.mpr d3) (Int.natAbs_dvd_natAbs.mpr d4)
  have b2 : p2 = q2 := by omega
  subst b2
  rcases up with u | ⟨u, u'⟩
  · have : p1 = q1 := by
      have e' : p2 * p1 = p2 * q1 := by rw [← e]; exact Int.mul_comm _ _
      exact Int.eq_of_mul_eq_mul_left (by omega) e'
    rw [this]
  · have : p1 = q1 := by omega
    rw [this]
end K96

/-! M2: plain numbers: directions put together, turned back. -/
namespace K96
open PySem DL
theorem dirn_dir {a b : Int} (h : ¬ (a = 0 ∧ b = 0)) : Dir (dirn a b) := (dirn_spec h).1
/-- the direction of (a, b) is the one on its line -/
theorem dirn_eq {a b : Int} {p : P2} (h : ¬ (a = 0 ∧ b = 0)) (hp : Dir p) (hc : crs (a, b) p = 0) : dirn a b = p := by
  obtain ⟨hd, m, hm, ha, hb, _⟩ := dirn_spec h
  refine dir_uniq hd hp ?_
  unfold crs at hc ⊢
  simp only at hc
  have : m * ((dirn a b).1 * p.2 - (dirn a b).2 * p.1) = 0 := by
    generalize (dirn a b).1 = x at *
    generalize (dirn a b).2 = y at *
    subst ha hb
    grind
  rcases Int.mul_eq_zero.mp this with z | z
  · exact absurd z hm
  · exact z
theorem dirn_self {p : P2} (hp : Dir p) : dirn p.1 p.2 = p := dirn_eq (fun h => dir_ne hp (Prod.ext h.1 h.2)) hp (by unfold crs; grind)
/-- parallel pairs have one direction -/
theorem dirn_par {a b c d : Int} (h : ¬ (a = 0 ∧ b = 0)) (h' : ¬ (c = 0 ∧ d = 0)) (hc : a * d - b * c = 0) : dirn a b = dirn c d := by
  obtain ⟨hd, m, hm, ha, hb, _⟩ := dirn_spec h'
  refine dirn_eq h hd ?_
  unfold crs; simp only
  have : m * (a * (dirn c d).2 - b * (dirn c d).1) = 0 := by
    generalize (dirn c d).1 = x at *
    generalize (dirn c d).2 = y at *
    subst ha hb
    grind
  rcases Int.mul_eq_zero.mp this with z | z
  · exact absurd z hm
  · exact z
theorem dir_nz {p : P2} (h : Dir p) : ¬ (p.1 = 0 ∧ p.2 = 0) := fun e => dir_ne h (Prod.ext e.1 e.2)
theorem sq_pos {x : Int} (h : x ≠ 0) : 0 < x * x := by
  rcases Int.lt_or_gt_of_ne h with z | z
  · exact Int.mul_pos_of_neg_of_neg z z
  · exact Int.mul_pos z z
theorem sq_nn (x : Int) : 0 ≤ x * x := by
  by_cases h : x = 0
  · subst h; simp
  · exact Int.le_of_lt (sq_pos h)
theorem nrm_pos {p : P2} (h : ¬ (p.1 = 0 ∧ p.2 = 0)) : 0 < p.1 * p.1 + p.2 * p.2 := by
  by_cases h1 : p.1 = 0
  · have := sq_pos (x := p.2) (fun e => h ⟨h1, e⟩)
    have := sq_nn p.1
    omega
  · have := sq_pos h1
    have := sq_nn p.2
    omega
/-- the product is no zero -/
theorem mul_nz {p q : P2} (hp : ¬ (p.1 = 0 ∧ p.2 = 0)) (hq : ¬ (q.1 = 0 ∧ q.2 = 0)) : ¬ (p.1 * q.1 - p.2 * q.2 = 0 ∧ p.1 * q.2 + p.2 * q.1 = 0) := by
  rintro ⟨e1, e2⟩
  have h := Int.mul_pos (nrm_pos hp) (nrm_pos hq)
  have : (p.1 * p.1 + p.2 * p.2) * (q.1 * q.1 + q.2 * q.2) = (p.1 * q.1 - p.2 * q.2) * (p.1 * q.1 - p.2 * q.2) + (p.1 * q.2 + p.2 * q.1) * (p.1 * q.2 + p.2 * q.1) := by grind
  rw [this, e1, e2] at h
  simp at h
theorem put_dir {p q : P2} (hp : Dir p) (hq : Dir q) : Dir (put p q) := dirn_dir (mul_nz (dir_nz hp) (dir_nz hq))
theorem back_dir {p : P2} (hp : Dir p) : Dir (back p) := dirn_dir (fun h => dir_nz hp ⟨h.1, by omega⟩)
theorem turn_dir {p q : P2} (hp : Dir p) (hq : Dir q) : Dir (turnB p q) := put_dir hq (back_dir hp)
theorem one_dir : Dir (1, 0) := by constructor <;> decide
theorem put_comm (p q : P2) : put p q = put q p := by
  unfold put
  rw [Int.mul_comm p.1 q.1, Int.mul_comm p.2 q.2, Int.mul_comm p.1 q.2, Int.mul_comm p.2 q.1, Int.add_comm]
/-- the product by any pair on the line -/
theorem put_par {a b c d : Int} (h : ¬ (a = 0 ∧ b = 0)) (h' : ¬ (c = 0 ∧ d = 0)) : put (dirn a b) (dirn c d) = dirn (a * c - b * d) (a * d + b * c) := by
  obtain ⟨hd, m, hm, ha, hb, _⟩ := dirn_spec h
  obtain ⟨hd', m', hm', hc', hd'', _⟩ := dirn_spec h'
  unfold put
  refine dirn_par (mul_nz (dir_nz hd) (dir_nz hd')) (mul_nz (p := (a, b)) (q := (c, d)) h h') ?_
  generalize (dirn a b).1 = x at *
  generalize (dirn a b).2 = y at *
  generalize (dirn c d).1 = x' at *
  generalize (dirn c d).2 = y' at *
  subst ha hb hc' hd''
  grind
theorem put_assoc {p q r : P2} (hp : Dir p) (hq : Dir q) (hr : Dir r) : put (put p q) r = put p (put q r) := by
  have e1 : put (put p q) r = dirn ((p.1 * q.1 - p.2 * q.2) * r.1 - (p.1 * q.2 + p.2 * q.1) * r.2) ((p.1 * q.1 - p.2 * q.2) * r.2 + (p.1 * q.2 + p.2 * q.1) * r.1) := by
    have := put_par (mul_nz (dir_nz hp) (dir_nz hq)) (dir_nz hr)
    rwa [dirn_self hr] at this
  have e2 : put p (put q r) = dirn (p.1 * (q.1 * r.1 - q.2 * r.2) - p.2 * (q.1 * r.2 + q.2 * r.1)) (p.1 * (q.1 * r.2 + q.2 * r.1) + p.2 * (q.1 * r.1 - q.2 * r.2)) := by
    have := put_par (dir_nz hp) (mul_nz (dir_nz hq) (dir_nz hr))
    rwa [dirn_self hp] at this
  rw [e1, e2]
  congr 1 <;> grind
theorem put_one {p : P2} (hp : Dir p) : put p (1, 0) = p := by
  unfold put
  simp only [Int.mul_one, Int.mul_zero, Int.sub_zero, Int.zero_add]
  exact dirn_self hp
theorem put_back {p : P2} (hp : Dir p) : put p (back p) = (1, 0) := by
  have := put_par (a := p.1) (b := p.2) (c := p.1) (d := -p.2) (dir_nz hp) (fun h => dir_nz hp ⟨h.1, by omega⟩)
  rw [dirn_self hp] at this
  unfold back
  rw [this]
  refine dirn_eq (mul_nz (p := p) (q := (p.1, -p.2)) (dir_nz hp) (fun h => dir_nz hp ⟨h.1, by have := h.2; simp only at this; omega⟩)) one_dir ?_
  unfold crs; grind
theorem back_one : back (1, 0) = (1, 0) := by decide
theorem put_turn {p q : P2} (hp : Dir p) (hq : Dir q) : put p (turnB p q) = q := by
  unfold turnB
  rw [put_comm q, ← put_assoc hp (back_dir hp) hq, put_back hp, put_comm, put_one hq]
theorem turn_put {p q : P2} (hp : Dir p) (hq : Dir q) : turnB p (put p q) = q := by
  unfold turnB
  rw [put_comm, ← put_assoc (back_dir hp) hp hq, put_comm (back p), put_back hp, put_comm, put_one hq]
theorem turn_inj {p q r : P2} (hp : Dir p) (hq : Dir q) (hr : Dir r) (h : turnB p q = turnB p r) : q = r := by
  rw [← put_turn hp hq, h, put_turn hp hr]
theorem put_inj {p q r : P2} (hp : Dir p) (hq : Dir q) (hr : Dir r) (h : put p q = put p r) : q = r := by
  rw [← turn_put hp hq, h, turn_put hp hr]
theorem turn_self {p : P2} (hp : Dir p) : turnB p p = (1, 0) := put_back hp
theorem turn_one {q : P2} (hq : Dir q) : turnB (1, 0) q = q := by
  unfold turnB
  rw [back_one, put_one hq]
/-- turning both by one turn changes no turn between -/
theorem turn_both {p q t : P2} (hp : Dir p) (hq : Dir q) (ht : Dir t) : turnB (put t p) (put t q) = turnB p q := by
  refine turn_inj (p := (1, 0)) one_dir (turn_dir (put_dir ht hp) (put_dir ht hq)) (turn_dir hp hq) ?_
  have h1 : put (put t p) (turnB p q) = put t q := by
    rw [put_assoc ht hp (turn_dir hp hq), put_turn hp hq]
  rw [turn_one (turn_dir (put_dir ht hp) (put_dir ht hq)), turn_one (turn_dir hp hq)]
  rw [← h1, turn_put (put_dir ht hp) (turn_dir hp hq)]
/-- the order of directions of the upper half: crs is positive -/
theorem crs_ne {p q : P2} (hp : Dir p) (hq : Dir q) (h : p ≠ q) : crs p q ≠ 0 := fun e => h (dir_uniq hp hq e)
theorem crs_anti (p q : P2) : crs p q = - crs q p := by unfold crs; grind
/-- transitivity of the order -/
theorem crs_trans {p q r : P2} (hp : Dir p) (hq : Dir q) (hr : Dir r) (h1 : 0 < crs p q) (h2 : 0 < crs q r) : 0 < crs p r := by
  -- q.2 * crs p r = r.2 * crs p q + p.2 * crs q r
  have e : q.2 * crs p r = r.2 * crs p q + p.2 * crs q r := by unfold crs; grind
  have e' : q.1 * crs p r = r.1 * crs p q + p.1 * crs q r := by unfold crs; grind
  have np : 0 ≤ p.2 := by rcases hp.2 with z | z <;> omega
  have nr : 0 ≤ r.2 := by rcases hr.2 with z | z <;> omega
  have hr2 : 0 < r.2 := by
    rcases hr.2 with z | ⟨z, z'⟩
    · exact z
    · exfalso
      unfold crs at h2
      rw [z] at h2
      rcases hq.2 with w | ⟨w, w'⟩
      · have := Int.mul_pos w z'
        omega
      · rw [w] at h2; simp at h2
  have a1 := Int.mul_pos hr2 h1
  have a2 := Int.mul_nonneg np (Int.le_of_lt h2)
  have hq2 : 0 < q.2 := by
    rcases hq.2 with z | ⟨z, z'⟩
    · exact z
    · rw [z] at e; simp at e; omega
  have : 0 < q.2 * crs p r := by omega
  exact (mul_pos' hq2).mp this
end K96

/-! M3: plain numbers: directions in order. -/
namespace K96
open PySem DL
def bef (l : List P2) (x : P2) : Nat := (l.filter (fun i => decide (0 < crs i x))).length
def insC (l : List P2) (x : P2) : List P2 := l.take (bef l x) ++ x :: l.drop (bef l x)
def lawStep (l : List P2) (x : P2) : List P2 := if x ∈ l then l else insC l x
def lawOrd (l : List P2) : List P2 := l.foldl lawStep []
def dedup (l : List P2) : List P2 := l.foldl (fun acc x => if x ∈ acc then acc else acc ++ [x]) []
def progOrd (l : List P2) : List P2 := (dedup l).foldl insC []
theorem mem_insC {l : List P2} {x y : P2} : y ∈ insC l x ↔ y = x ∨ y ∈ l := by
  unfold insC
  rw [List.mem_append, List.mem_cons]
  have : y ∈ l ↔ y ∈ l.take (bef l x) ∨ y ∈ l.drop (bef l x) := by
    rw [← List.mem_append, List.take_append_drop]
  rw [this]
  constructor
  · rintro (h | h | h)
    · exact .inr (.inl h)
    · exact .inl h
    · exact .inr (.inr h)
  · rintro (h | h | h)
    · exact .inr (.inl h)
    · exact .inl h
    · exact .inr (.inr h)
theorem mem_lawStep {l : List P2} {x y : P2} : y ∈ lawStep l x ↔ y = x ∨ y ∈ l := by
  unfold lawStep
  by_cases h : x ∈ l
  · rw [if_pos h]
    constructor
    · exact .inr
    · rintro (e | e)
      · subst e; exact h
      · exact e
  · rw [if_neg h]; exact mem_insC
theorem snoc_ind {α : Type} {Q : List α → Prop} (h0 : Q []) (h1 : ∀ l x, Q l → Q (l ++ [x])) (l : List α) : Q l := by
  have : ∀ m : List α, Q m.reverse := by
    intro m
    induction m with
    | nil => exact h0
    | cons x m ih => rw [List.reverse_cons]; exact h1 _ _ ih
  have h := this l.reverse
  rwa [List.reverse_reverse] at h
theorem lawOrd_snoc (l : List P2) (x : P2) : lawOrd (l ++ [x]) = lawStep (lawOrd l) x := by
  unfold lawOrd; rw [List.foldl_append]; rfl
theorem dedup_snoc (l : List P2) (x : P2) : dedup (l ++ [x]) = if x ∈ dedup l then dedup l else dedup l ++ [x] := by
  unfold dedup; rw [List.foldl_append]; rfl
theorem mem_lawOrd {l : List P2} {y : P2} : y ∈ lawOrd l ↔ y ∈ l := by
  refine snoc_ind (Q := fun l => y ∈ lawOrd l ↔ y ∈ l) Iff.rfl ?_ l
  intro l x ih
  rw [lawOrd_snoc, mem_lawStep, ih, List.mem_append, List.mem_singleton]
  exact Or.comm
theorem mem_dedup {l : List P2} {y : P2} : y ∈ dedup l ↔ y ∈ l := by
  refine snoc_ind (Q := fun l => y ∈ dedup l ↔ y ∈ l) Iff.rfl ?_ l
  intro l x ih
  rw [dedup_snoc, List.mem_append, List.mem_singleton, ← ih]
  by_cases h : x ∈ dedup l
  · rw [if_pos h]
    constructor
    · exact .inl
    · rintro (e | e)
      · exact e
      · subst e; exact h
  · rw [if_neg h, List.mem_append, List.mem_singleton]
/-- both ways of setting in order are one -/
theorem prog_law (l : List P2) : progOrd l = lawOrd l := by
  refine snoc_ind (Q := fun l => progOrd l = lawOrd l) rfl ?_ l
  intro l x ih
  rw [lawOrd_snoc]
  unfold progOrd lawStep
  rw [dedup_snoc]
  by_cases h : x ∈ l
  · rw [if_pos (mem_dedup.mpr h), if_pos (mem_lawOrd.mpr h)]; exact ih
  · rw [if_neg (fun e => h (mem_dedup.mp e)), if_neg (fun e => h (mem_lawOrd.mp e)), List.foldl_append]
    show insC _ x = _
    rw [← ih]; rfl
/-- set in order -/
def Srt (l : List P2) : Prop := l.Pairwise (fun p q => 0 < crs p q)
/-- in a list set in order those before x are a first part -/
theorem bef_split {l : List P2} {x : P2} (hs : Srt l) (hl : ∀ y ∈ l, Dir y) (hx : Dir x) (hn : x ∉ l) : (∀ y ∈ l.take (bef l x), 0 < crs y x) ∧ (∀ y ∈ l.drop (bef l x), 0 < crs x y) := by
  induction l with
  | nil => constructor <;> intro y hy <;> simp at hy
  | cons a l ih =>
    have hs' := List.pairwise_cons.mp hs
    have ha : Dir a := hl a (List.mem_cons_self ..)
    have hax : a ≠ x := fun e => hn (by rw [e]; exact List.mem_cons_self ..)
    by_cases h : 0 < crs a x
    · have e : bef (a :: l) x = bef l x + 1 := by
        unfold bef; rw [List.filter_cons_of_pos (by simpa using h)]; rfl
      obtain ⟨h1, h2⟩ := ih hs'.2 (fun y hy => hl y (List.mem_cons_of_mem _ hy)) (fun hy => hn (List.mem_cons_of_mem _ hy))
      rw [e, List.take_succ_cons, List.drop_succ_cons]
      refine ⟨fun y hy => ?_, h2⟩
      rcases List.mem_cons.mp hy with z | z
      · rw [z]; exact h
      · exact h1 y z
    · have hxa : 0 < crs x a := by
        have h3 := crs_ne ha hx hax
        have h4 := crs_anti x a
        omega
      have hall : ∀ y ∈ l, 0 < crs x y := fun y hy => crs_trans hx ha (hl y (List.mem_cons_of_mem _ hy)) hxa (hs'.1 y hy)
      have e : bef (a :: l) x = 0 := by
        unfold bef
        rw [List.filter_cons_of_neg (by simpa using h)]
        rw [List.length_eq_zero_iff, List.filter_eq_nil_iff]
        intro y hy
        have h5 := hall y hy
        have h6 := crs_anti x y
        simp only [decide_eq_true_eq]
        omega
      rw [e]
      refine ⟨fun y hy => by simp at hy, fun y hy => ?_⟩
      rcases List.mem_cons.mp hy with z | z
      · rw [z]; exact hxa
      · exact hall y z
theorem srt_insC {l : List P2} {x : P2} (hs : Srt l) (hl : ∀ y ∈ l, Dir y) (hx : Dir x) (hn : x ∉ l) : Srt (insC l x) := by
  obtain ⟨h1, h2⟩ := bef_split hs hl hx hn
  unfold insC Srt
  rw [List.pairwise_append, List.pairwise_cons]
  refine ⟨hs.sublist (List.take_sublist ..), ⟨h2, hs.sublist (List.drop_sublist ..)⟩, ?_⟩
  intro a ha b hb
  rcases List.mem_cons.mp hb with z | z
  · rw [z]; exact h1 a ha
  · exact crs_trans (hl a (List.mem_of_mem_take ha)) hx (hl b (List.mem_of_mem_drop z)) (h1 a ha) (h2 b z)
theorem srt_lawOrd {l : List P2} (hl : ∀ y ∈ l, Dir y) : Srt (lawOrd l) := by
  revert hl
  refine snoc_ind (Q := fun l => (∀ y ∈ l, Dir y) → Srt (lawOrd l)) (fun _ => List.Pairwise.nil) ?_ l
  intro l x ih hl
  have hl' : ∀ y ∈ l, Dir y := fun y hy => hl y (List.mem_append.mpr (.inl hy))
  rw [lawOrd_snoc]
  unfold lawStep
  by_cases h : x ∈ lawOrd l
  · rw [if_pos h]; exact ih hl'
  · rw [if_neg h]
    exact srt_insC (ih hl') (fun y hy => hl' y (mem_lawOrd.mp hy)) (hl x (List.mem_append.mpr (.inr (List.mem_singleton.mpr rfl)))) h
theorem crs_self (p : P2) : crs p p = 0 := by unfold crs; grind
/-- lists in order with the same members are one -/
theorem srt_uniq {l m : List P2} (hl : Srt l) (hm : Srt m) (h : ∀ x, x ∈ l ↔ x ∈ m) : l = m := by
  induction l generalizing m with
  | nil =>
    cases m with
    | nil => rfl
    | cons b m => exact absurd ((h b).mpr (List.mem_cons_self ..)) (List.not_mem_nil)
  | cons a l ih =>
    cases m with
    | nil => exact absurd ((h a).mp (List.mem_cons_self ..)) (List.not_mem_nil)
    | cons b m =>
      have hl' := List.pairwise_cons.mp hl
      have hm' := List.pairwise_cons.mp hm
      have e : a = b := by
        rcases List.mem_cons.mp ((h a).mp (List.mem_cons_self ..)) with z | z
        · exact z
        · rcases List.mem_cons.mp ((h b).mpr (List.mem_cons_self ..)) with w | w
          · exact w.symm
          · have h1 := hl'.1 b w
            have h2 := hm'.1 a z
            have h3 := crs_anti a b
            omega
      subst e
      congr 1
      refine ih hl'.2 hm'.2 (fun x => ?_)
      have hx := h x
      rw [List.mem_cons, List.mem_cons] at hx
      constructor
      · intro hxl
        rcases hx.mp (.inr hxl) with z | z
        · subst z; have := hl'.1 x hxl; rw [crs_self] at this; omega
        · exact z
      · intro hxm
        rcases hx.mpr (.inr hxm) with z | z
        · subst z; have := hm'.1 x hxm; rw [crs_self] at this; omega
        · exact z
theorem lawOrd_srt {l : List P2} (hl : Srt l) (hd : ∀ y ∈ l, Dir y) : lawOrd l = l := srt_uniq (srt_lawOrd hd) hl (fun _ => mem_lawOrd)
theorem lawOrd_nodup {l : List P2} (hd : ∀ y ∈ l, Dir y) : (lawOrd l).Nodup := by
  refine (srt_lawOrd hd).imp ?_
  intro a b h e
  subst e
  rw [crs_self] at h
  omega
end K96

/-! M4: plain numbers: amid, by the order of the half round. -/
namespace K96
open PySem DL
def amid (p q r : P2) : Prop := turnB p r ≠ (1, 0) ∧ (turnB p q = (1, 0) ∨ 0 < crs (turnB p r) (turnB p q))
instance (p q r : P2) : Decidable (amid p q r) := by unfold amid; infer_instance
def dot (p q : P2) : Int := p.1 * q.1 + p.2 * q.2
theorem turn_eq {p r : P2} (hp : Dir p) (hr : Dir r) : turnB p r = dirn (dot p r) (crs p r) := by
  have := put_par (a := r.1) (b := r.2) (c := p.1) (d := -p.2) (dir_nz hr) (fun h => dir_nz hp ⟨h.1, by omega⟩)
  rw [dirn_self hr] at this
  unfold turnB back
  rw [this]
  unfold dot crs
  congr 1 <;> grind
theorem dot_crs_nz {p r : P2} (hp : Dir p) (hr : Dir r) : ¬ (dot p r = 0 ∧ crs p r = 0) := by
  have := mul_nz (p := r) (q := (p.1, -p.2)) (dir_nz hr) (fun h => dir_nz hp ⟨h.1, by have := h.2; simp only at this; omega⟩)
  intro h
  apply this
  unfold dot crs at h
  constructor
  · have h1 := h.1; simp only; grind
  · have h2 := h.2; simp only; grind
theorem turn_one_iff {p r : P2} (hp : Dir p) (hr : Dir r) : turnB p r = (1, 0) ↔ r = p := by
  constructor
  · intro h; exact turn_inj hp hr hp (by rw [h, turn_self hp])
  · intro h; subst h; exact turn_self hp
/-- what a turn is: its multiple has the sign of the side -/
theorem turn_spec {p r : P2} (hp : Dir p) (hr : Dir r) : ∃ m : Int, dot p r = m * (turnB p r).1 ∧ crs p r = m * (turnB p r).2 ∧ (0 < crs p r → 0 < m) ∧ (crs p r < 0 → m < 0) := by
  obtain ⟨hd, m, hm, ha, hb, _⟩ := dirn_spec (dot_crs_nz hp hr)
  rw [← turn_eq hp hr] at hd ha hb
  refine ⟨m, ha, hb, ?_, ?_⟩
  · intro h
    rw [hb] at h
    have h2 : 0 ≤ (turnB p r).2 := by rcases hd.2 with z | z <;> omega
    rcases Int.lt_trichotomy m 0 with z | z | z
    · have := Int.mul_nonpos_of_nonpos_of_nonneg (Int.le_of_lt z) h2; omega
    · omega
    · exact z
  · intro h
    rw [hb] at h
    have h2 : 0 ≤ (turnB p r).2 := by rcases hd.2 with z | z <;> omega
    rcases Int.lt_trichotomy m 0 with z | z | z
    · exact z
    · omega
    · have := Int.mul_nonneg (Int.le_of_lt z) h2; omega
theorem pos_iff_pos {m N X Y : Int} (hm : 0 < m) (hN : 0 < N) (h : m * X = N * Y) : 0 < X ↔ 0 < Y := by
  rw [← mul_pos' hm, h, mul_pos' hN]
theorem pos_iff_neg {m N X Y : Int} (hm : m < 0) (hN : 0 < N) (h : m * X = N * Y) : 0 < X ↔ Y < 0 := by
  have : 0 < X ↔ 0 < -Y := pos_iff_pos (m := -m) (N := N) (by omega) hN (by grind)
  rw [this]; omega
/-- which of two turns from p is less -/
theorem turn_crs {p r q : P2} (hp : Dir p) (hr : Dir r) (hq : Dir q) : ∃ m m' N : Int, 0 < N ∧ m * m' * crs (turnB p r) (turnB p q) = N * crs r q ∧ (0 < crs p r → 0 < m) ∧ (crs p r < 0 → m < 0) ∧ (0 < crs p q → 0 < m') ∧ (crs p q < 0 → m' < 0) := by
  obtain ⟨m, h1, h2, h3, h4⟩ := turn_spec hp hr
  obtain ⟨m', h1', h2', h3', h4'⟩ := turn_spec hp hq
  refine ⟨m, m', p.1 * p.1 + p.2 * p.2, nrm_pos (dir_nz hp), ?_, h3, h4, h3', h4'⟩
  have e : m * m' * crs (turnB p r) (turnB p q) = dot p r * crs p q - crs p r * dot p q := by
    rw [h1, h2, h1', h2']; unfold crs; grind
  rw [e]; unfold dot crs; grind
abbrev lt (p q : P2) : Prop := 0 < crs p q
theorem lt_irr (p : P2) : ¬ lt p p := by unfold lt; rw [crs_self]; omega
theorem lt_asym {p q : P2} (h : lt p q) : crs q p < 0 := by have := crs_anti p q; unfold lt at h; omega
theorem lt_of_neg {p q : P2} (h : crs p q < 0) : lt q p := by have := crs_anti p q; unfold lt; omega
theorem tri {p q : P2} (hp : Dir p) (hq : Dir q) : lt p q ∨ p = q ∨ lt q p := by
  by_cases h : p = q
  · exact .inr (.inl h)
  · have := crs_ne hp hq h
    rcases Int.lt_or_gt_of_ne this with z | z
    · exact .inr (.inr (lt_of_neg z))
    · exact .inl z
theorem amid_lt {p q r : P2} (hp : Dir p) (hq : Dir q) (hr : Dir r) (h : lt p q) : amid p q r ↔ lt p r ∧ lt r q := by
  obtain ⟨m, m', N, hN, e, a1, a2, a3, a4⟩ := turn_crs hp hr hq
  unfold amid
  rw [Ne, turn_one_iff hp hr, turn_one_iff hp hq]
  have hqp : q ≠ p := fun z => by subst z; exact lt_irr _ h
  have hm' := a3 h
  rcases tri hp hr with z | z | z
  · have hm := a1 z
    have hrp : r ≠ p := fun w => by subst w; exact lt_irr _ z
    have := pos_iff_pos (Int.mul_pos hm hm') hN e
    constructor
    · rintro ⟨_, w | w⟩
      · exact absurd w hqp
      · exact ⟨z, this.mp w⟩
    · rintro ⟨_, w⟩; exact ⟨hrp, .inr (this.mpr w)⟩
  · subst z
    constructor
    · rintro ⟨w, _⟩; exact absurd rfl w
    · rintro ⟨w, _⟩; exact absurd w (lt_irr _)
  · have hm := a2 (lt_asym z)
    have := pos_iff_neg (Int.mul_neg_of_neg_of_pos hm hm') hN e
    have hrq : lt r q := crs_trans hr hp hq z h
    constructor
    · rintro ⟨_, w | w⟩
      · exact absurd w hqp
      · have := this.mp w; unfold lt at hrq; omega
    · rintro ⟨w, _⟩; have := lt_asym z; unfold lt at w; omega
theorem amid_gt {p q r : P2} (hp : Dir p) (hq : Dir q) (hr : Dir r) (h : lt q p) : amid p q r ↔ lt p r ∨ lt r q := by
  obtain ⟨m, m', N, hN, e, a1, a2, a3, a4⟩ := turn_crs hp hr hq
  unfold amid
  rw [Ne, turn_one_iff hp hr, turn_one_iff hp hq]
  have hqp : q ≠ p := fun z => by subst z; exact lt_irr _ h
  have hm' := a4 (lt_asym h)
  rcases tri hp hr with z | z | z
  · have hm := a1 z
    have hrp : r ≠ p := fun w => by subst w; exact lt_irr _ z
    have := pos_iff_neg (Int.mul_neg_of_pos_of_neg hm hm') hN e
    have hqr : lt q r := crs_trans hq hp hr h z
    exact ⟨fun _ => .inl z, fun _ => ⟨hrp, .inr (this.mpr (lt_asym hqr))⟩⟩
  · subst z
    constructor
    · rintro ⟨w, _⟩; exact absurd rfl w
    · rintro (w | w)
      · exact absurd w (lt_irr _)
      · have := lt_asym h; unfold lt at w; omega
  · have hm := a2 (lt_asym z)
    have hrp : r ≠ p := fun w => by subst w; exact lt_irr _ z
    have := pos_iff_pos (Int.mul_pos_of_neg_of_neg hm hm') hN e
    constructor
    · rintro ⟨_, w | w⟩
      · exact absurd w hqp
      · exact .inr (this.mp w)
    · rintro (w | w)
      · have := lt_asym z; unfold lt at w; omega
      · exact ⟨hrp, .inr (this.mpr w)⟩
theorem amid_same {p r : P2} (hp : Dir p) (hr : Dir r) : amid p p r ↔ r ≠ p := by
  unfold amid
  rw [Ne, turn_one_iff hp hr, turn_one_iff hp hp]
  exact ⟨fun h => h.1, fun h => ⟨h, .inl rfl⟩⟩
/-- amid is kept by one turn of all -/
theorem amid_put {p q r t : P2} (hp : Dir p) (hq : Dir q) (hr : Dir r) (ht : Dir t) : amid (put t p) (put t q) (put t r) ↔ amid p q r := by
  unfold amid
  rw [turn_both hp hr ht, turn_both hp hq ht]
theorem amid_turn {p q r t : P2} (hp : Dir p) (hq : Dir q) (hr : Dir r) (ht : Dir t) : amid (turnB t p) (turnB t q) (turnB t r) ↔ amid p q r := by
  have := amid_put (turn_dir ht hp) (turn_dir ht hq) (turn_dir ht hr) ht
  rw [put_turn ht hp, put_turn ht hq, put_turn ht hr] at this
  exact this.symm
end K96

/-! M5: plain numbers: rooms of the half round; both ways of squeezed. -/
namespace K96
open PySem DL
def tp (l : List P2) (i : Nat) : P2 := l.getD i (1, 0)
def le' (p q : P2) : Prop := p = q ∨ lt p q
instance (p q : P2) : Decidable (le' p q) := by unfold le'; infer_instance
def cnt (l : List P2) (x : P2) : Nat := (l.filter (fun i => decide (le' i x))).length
def InRoom (l : List P2) (x : P2) (k : Nat) : Prop := x = tp l k ∨ amid (tp l k) (tp l ((k + 1) % l.length)) x
instance (l : List P2) (x : P2) (k : Nat) : Decidable (InRoom l x k) := by unfold InRoom; infer_instance
def room (l : List P2) (x : P2) : Nat := if cnt l x = 0 then l.length - 1 else cnt l x - 1
def sqP (l : List P2) (x : P2) : Nat := ((List.range l.length).find? (fun k => decide (InRoom l x k))).getD 0
def sqL (l : List P2) (x : P2) : Nat := (List.range l.length).foldl (fun f k => if le' (tp l k) x then k else f) (l.length - 1)
theorem tp_mem {l : List P2} {i : Nat} (h : i < l.length) : tp l i ∈ l := by
  unfold tp
  rw [List.getD_eq_getElem?_getD, List.getElem?_eq_getElem h]
  exact List.getElem_mem h
theorem tp_lt {l : List P2} (hs : Srt l) {i j : Nat} (hij : i < j) (hj : j < l.length) : lt (tp l i) (tp l j) := by
  unfold tp
  rw [List.getD_eq_getElem?_getD, List.getElem?_eq_getElem (Nat.lt_trans hij hj), List.getD_eq_getElem?_getD, List.getElem?_eq_getElem hj]
  exact List.pairwise_iff_getElem.mp hs i j (Nat.lt_trans hij hj) hj hij
theorem cnt_le (l : List P2) (x : P2) : cnt l x ≤ l.length := List.length_filter_le ..
theorem le_trans' {p q r : P2} (hp : Dir p) (hq : Dir q) (hr : Dir r) (h : lt p q) (h' : le' q r) : le' p r := by
  rcases h' with z | z
  · subst z; exact .inr h
  · exact .inr (crs_trans hp hq hr h z)
/-- those at most x are a first part -/
theorem cnt_iff {l : List P2} {x : P2} (hs : Srt l) (hl : ∀ y ∈ l, Dir y) (hx : Dir x) {i : Nat} (hi : i < l.length) : le' (tp l i) x ↔ i < cnt l x := by
  induction l generalizing i with
  | nil => simp at hi
  | cons a l ih =>
    have hs' := List.pairwise_cons.mp hs
    have ha : Dir a := hl a (List.mem_cons_self ..)
    have hl' : ∀ y ∈ l, Dir y := fun y hy => hl y (List.mem_cons_of_mem _ hy)
    by_cases h : le' a x
    · have e : cnt (a :: l) x = cnt l x + 1 := by
        unfold cnt; rw [List.filter_cons_of_pos (by simpa using h)]; rfl
      rw [e]
      cases i with
      | zero => exact ⟨fun _ => by omega, fun _ => h⟩
      | succ i =>
        have := ih hs'.2 hl' (i := i) (by simpa using hi)
        show le' (tp l i) x ↔ _
        rw [this]; omega
    · have hall : ∀ y ∈ l, ¬ le' y x := fun y hy w => h (le_trans' ha (hl' y hy) hx (hs'.1 y hy) w)
      have e : cnt (a :: l) x = 0 := by
        unfold cnt
        rw [List.filter_cons_of_neg (by simpa using h), List.length_eq_zero_iff, List.filter_eq_nil_iff]
        intro y hy
        simpa using hall y hy
      rw [e]
      refine ⟨fun w => ?_, fun w => absurd w (Nat.not_lt_zero _)⟩
      cases i with
      | zero => exact absurd w h
      | succ i => exact absurd w (hall _ (tp_mem (l := l) (by simpa using hi)))
theorem lt_iff_not_le {p q : P2} (hp : Dir p) (hq : Dir q) : lt q p ↔ ¬ le' p q := by
  constructor
  · rintro h (z | z)
    · subst z; exact lt_irr _ h
    · have := lt_asym h; unfold lt at z; omega
  · intro h
    rcases tri hp hq with z | z | z
    · exact absurd (.inr z) h
    · exact absurd (.inl z) h
    · exact z
/-- each direction is in one room, and only there -/
theorem inRoom_iff {l : List P2} {x : P2} (hs : Srt l) (hl : ∀ y ∈ l, Dir y) (hx : Dir x) {k : Nat} (hk : k < l.length) : InRoom l x k ↔ k = room l x := by
  have hc := cnt_le l x
  have dk := hl _ (tp_mem hk)
  have ck := cnt_iff hs hl hx hk
  unfold InRoom room
  by_cases h1 : k + 1 < l.length
  · rw [Nat.mod_eq_of_lt h1]
    have dk' := hl _ (tp_mem h1)
    have ck' := cnt_iff hs hl hx h1
    have hlt := tp_lt hs (Nat.lt_succ_self k) h1
    rw [amid_lt dk dk' hx hlt, lt_iff_not_le dk' hx, ck']
    have e : (x = tp l k ∨ lt (tp l k) x ∧ ¬ k + 1 < cnt l x) ↔ (k < cnt l x ∧ ¬ k + 1 < cnt l x) := by
      constructor
      · rintro (w | ⟨w, w'⟩)
        · refine ⟨ck.mp (.inl w.symm), fun w' => ?_⟩
          rw [← ck'] at w'
          rw [w] at w'
          exact (lt_iff_not_le dk' dk).mp hlt w'
        · exact ⟨ck.mp (.inr w), w'⟩
      · rintro ⟨w, w'⟩
        rcases ck.mpr w with z | z
        · exact .inl z.symm
        · exact .inr ⟨z, w'⟩
    rw [e]
    split <;> omega
  · have hkn : k + 1 = l.length := by omega
    have e0 : (k + 1) % l.length = 0 := by rw [hkn, Nat.mod_self]
    rw [e0]
    have h0 : 0 < l.length := by omega
    have d0 := hl _ (tp_mem h0)
    have c0 := cnt_iff hs hl hx h0
    by_cases hz : k = 0
    · subst hz
      rw [amid_same d0 hx]
      constructor
      · intro _; split <;> omega
      · intro _
        by_cases w : x = tp l 0
        · exact .inl w
        · exact .inr w
    · have hlt := tp_lt hs (i := 0) (j := k) (by omega) hk
      rw [amid_gt dk d0 hx hlt, lt_iff_not_le d0 hx, c0]
      have e : (x = tp l k ∨ lt (tp l k) x ∨ ¬ 0 < cnt l x) ↔ (k < cnt l x ∨ ¬ 0 < cnt l x) := by
        rw [← ck]
        constructor
        · rintro (w | w | w)
          · exact .inl (.inl w.symm)
          · exact .inl (.inr w)
          · exact .inr w
        · rintro ((w | w) | w)
          · exact .inl w.symm
          · exact .inr (.inl w)
          · exact .inr (.inr w)
      rw [e]
      split <;> omega
theorem room_lt {l : List P2} (x : P2) (h : 0 < l.length) : room l x < l.length := by
  have hc := cnt_le l x
  unfold room; split <;> omega
theorem find_uniq {n r : Nat} {Q : Nat → Prop} [DecidablePred Q] (hr : r < n) (h : ∀ k, k < n → (Q k ↔ k = r)) : (List.range n).find? (fun k => decide (Q k)) = some r := by
  cases e : (List.range n).find? (fun k => decide (Q k)) with
  | none =>
    have := List.find?_eq_none.mp e r (List.mem_range.mpr hr)
    simp only [decide_eq_true_eq] at this
    exact absurd ((h r hr).mpr rfl) this
  | some k =>
    have h1 := List.find?_some e
    have h2 := List.mem_range.mp (List.mem_of_find?_eq_some e)
    simp only [decide_eq_true_eq] at h1
    rw [(h k h2).mp h1]
theorem sqP_room {l : List P2} {x : P2} (hs : Srt l) (hl : ∀ y ∈ l, Dir y) (hx : Dir x) (h0 : 0 < l.length) : sqP l x = room l x := by
  unfold sqP
  rw [find_uniq (Q := fun k => InRoom l x k) (room_lt x h0) (fun k hk => inRoom_iff hs hl hx hk)]
  rfl
theorem fold_last {Q : Nat → Prop} [DecidablePred Q] {n c d : Nat} (h : ∀ k, k < n → (Q k ↔ k < c)) : (List.range n).foldl (fun f k => if Q k then k else f) d = if min c n = 0 then d else min c n - 1 := by
  induction n with
  | zero => simp
  | succ n ih =>
    rw [List.range_succ, List.foldl_append, ih (fun k hk => h k (by omega))]
    show (if Q n then n else _) = _
    have := h n (by omega)
    by_cases w : Q n
    · rw [if_pos w]
      have := this.mp w
      rw [if_neg (by omega)]; omega
    · rw [if_neg w]
      have : ¬ n < c := fun z => w (this.mpr z)
      have e1 : min c n = c := by omega
      have e2 : min c (n + 1) = c := by omega
      rw [e1, e2]
theorem sqL_room {l : List P2} {x : P2} (hs : Srt l) (hl : ∀ y ∈ l, Dir y) (hx : Dir x) : sqL l x = room l x := by
  unfold sqL
  rw [fold_last (c := cnt l x) (fun k hk => cnt_iff hs hl hx hk)]
  have := cnt_le l x
  unfold room
  rw [Nat.min_eq_left this]
theorem sqP_sqL {l : List P2} {x : P2} (hs : Srt l) (hl : ∀ y ∈ l, Dir y) (hx : Dir x) (h0 : 0 < l.length) : sqP l x = sqL l x := by rw [sqP_room hs hl hx h0, sqL_room hs hl hx]
end K96

/-! M6: plain numbers: between; the room a drawn turn leads to. -/
namespace K96
open PySem DL
def absI (x : Int) : Int := (x.natAbs : Nat)
/-- the program's between -/
def betw (p q : P2) : P2 := if turnB p q = (1, 0) then put p (0, 1) else put p (dirn ((turnB p q).1 + (absI (turnB p q).1 + absI (turnB p q).2)) (turnB p q).2)
/-- the law's between -/
def betwL (p q : P2) : P2 := if turnB p q = (1, 0) then put p (0, 1) else put p (dirn ((turnB p q).1 + absI (turnB p q).1 + (turnB p q).2) (turnB p q).2)
theorem north_dir : Dir (0, 1) := by constructor <;> decide
theorem dir_snd_pos {t : P2} (h : Dir t) (hn : t ≠ (1, 0)) : 0 < t.2 := by
  rcases h.2 with z | ⟨z, z'⟩
  · exact z
  · exfalso
    apply hn
    have hg := h.1
    rw [z, Int.gcd_zero_right] at hg
    exact Prod.ext (by show t.1 = 1; omega) z
theorem betw_eq {p q : P2} (hp : Dir p) (hq : Dir q) : betw p q = betwL p q := by
  unfold betw betwL
  by_cases h : turnB p q = (1, 0)
  · rw [if_pos h, if_pos h]
  · rw [if_neg h, if_neg h]
    have := dir_snd_pos (turn_dir hp hq) h
    have e : absI (turnB p q).2 = (turnB p q).2 := by unfold absI; omega
    rw [e, Int.add_assoc]
theorem absI_le (x : Int) : 0 ≤ x + absI x ∧ 0 ≤ absI x := by unfold absI; omega
/-- a turn strictly amid east and t -/
theorem mid_spec {t : P2} (ht : Dir t) (hn : t ≠ (1, 0)) : Dir (dirn (t.1 + (absI t.1 + absI t.2)) t.2) ∧ dirn (t.1 + (absI t.1 + absI t.2)) t.2 ≠ (1, 0) ∧ 0 < crs (dirn (t.1 + (absI t.1 + absI t.2)) t.2) t := by
  have h2 := dir_snd_pos ht hn
  have h1 := absI_le t.1
  have e2 : absI t.2 = t.2 := by unfold absI; omega
  rw [e2]
  have hnz : ¬ (t.1 + (absI t.1 + t.2) = 0 ∧ t.2 = 0) := by omega
  obtain ⟨hd, m, hm, ha, hb, _⟩ := dirn_spec hnz
  have hd2 : 0 ≤ (dirn (t.1 + (absI t.1 + t.2)) t.2).2 := by rcases hd.2 with z | z <;> omega
  have hmp : 0 < m := by
    rcases Int.lt_trichotomy m 0 with z | z | z
    · have := Int.mul_nonpos_of_nonpos_of_nonneg (Int.le_of_lt z) hd2; omega
    · omega
    · exact z
  refine ⟨hd, fun e => ?_, ?_⟩
  · rw [e] at hb; simp at hb; omega
  · have e : m * crs (dirn (t.1 + (absI t.1 + t.2)) t.2) t = t.2 * (absI t.1 + t.2) := by
      generalize hw : dirn (t.1 + (absI t.1 + t.2)) t.2 = w at *
      have hcr : m * crs w t = (m * w.1) * t.2 - (m * w.2) * t.1 := by unfold crs; grind
      rw [hcr, ← ha, ← hb]
      grind
    rw [← mul_pos' hmp, e]
    exact Int.mul_pos h2 (by omega)
theorem betw_dir {p q : P2} (hp : Dir p) (hq : Dir q) : Dir (betw p q) := by
  unfold betw
  by_cases h : turnB p q = (1, 0)
  · rw [if_pos h]; exact put_dir hp north_dir
  · rw [if_neg h]; exact put_dir hp (mid_spec (turn_dir hp hq) h).1
theorem betw_amid {p q : P2} (hp : Dir p) (hq : Dir q) : amid p q (betw p q) := by
  unfold betw amid
  by_cases h : turnB p q = (1, 0)
  · rw [if_pos h, turn_put hp north_dir]
    exact ⟨by decide, .inl h⟩
  · obtain ⟨h1, h2, h3⟩ := mid_spec (turn_dir hp hq) h
    rw [if_neg h, turn_put hp h1]
    exact ⟨h2, .inr h3⟩
/-! ### Drawn turns and rooms of turns -/
theorem amid_rest {r p q t : P2} (hr : Dir r) (hp : Dir p) (hq : Dir q) (ht : Dir t) : amid (turnB r p) (turnB r q) t ↔ amid p q (put r t) := by
  have := amid_put (turn_dir hr hp) (turn_dir hr hq) ht hr
  rw [put_turn hr hp, put_turn hr hq] at this
  exact this.symm
theorem turn_eq_iff {r p t : P2} (hr : Dir r) (hp : Dir p) (ht : Dir t) : turnB r p = t ↔ put r t = p := by
  constructor
  · intro h; rw [← h, put_turn hr hp]
  · intro h; rw [← h, turn_put hr ht]
theorem amid_not_low {p q : P2} (hp : Dir p) : ¬ amid p q p := by
  unfold amid; rw [turn_self hp]; rintro ⟨h, _⟩; exact h rfl
def within (l : List P2) (r t : P2) : List Nat := (List.range l.length).filter (fun g => decide (amid (turnB r (tp l g)) (turnB r (tp l ((g + 1) % l.length))) t))
def borders (l : List P2) (r t : P2) : List Nat := (List.range l.length).filter (fun g => decide (turnB r (tp l g) = t))
theorem filter_uniq {n r : Nat} {Q : Nat → Prop} [DecidablePred Q] (hr : r < n) (h : ∀ k, k < n → (Q k ↔ k = r)) : (List.range n).filter (fun k => decide (Q k)) = [r] := by
  induction n with
  | zero => omega
  | succ n ih =>
    rw [List.range_succ, List.filter_append]
    by_cases e : r = n
    · subst e
      have : (List.range r).filter (fun k => decide (Q k)) = [] := by
        rw [List.filter_eq_nil_iff]
        intro k hk
        have hk := List.mem_range.mp hk
        simp only [decide_eq_true_eq]
        intro w
        have := (h k (by omega)).mp w
        omega
      rw [this, List.filter_cons_of_pos (by simpa using (h r (by omega)).mpr rfl)]
      rfl
    · rw [ih (by omega) (fun k hk => h k (by omega))]
      rw [List.filter_cons_of_neg (by simp only [decide_eq_true_eq]; intro w; exact e ((h n (by omega)).mp w).symm)]
      rfl
theorem filter_none {n : Nat} {Q : Nat → Prop} [DecidablePred Q] (h : ∀ k, k < n → ¬ Q k) : (List.range n).filter (fun k => decide (Q k)) = [] := by
  rw [List.filter_eq_nil_iff]
  intro k hk
  simpa using h k (List.mem_range.mp hk)
/-- one room or one border, and it is where the turn lands -/
theorem lands {l : List P2} {r t : P2} (hs : Srt l) (hl : ∀ y ∈ l, Dir y) (hr : Dir r) (ht : Dir t) (h0 : 0 < l.length) :
    (within l r t = [room l (put r t)] ∧ borders l r t = [] ∧ put r t ∉ l) ∨ (within l r t = [] ∧ borders l r t = [room l (put r t)] ∧ tp l (room l (put r t)) = put r t) := by
  have hx := put_dir hr ht
  have hk : ∀ k, k < l.length → (k + 1) % l.length < l.length := fun k _ => Nat.mod_lt _ h0
  have hw : ∀ k, k < l.length → (amid (turnB r (tp l k)) (turnB r (tp l ((k + 1) % l.length))) t ↔ amid (tp l k) (tp l ((k + 1) % l.length)) (put r t)) := fun k h => amid_rest hr (hl _ (tp_mem h)) (hl _ (tp_mem (hk k h))) ht
  have hb : ∀ k, k < l.length → (turnB r (tp l k) = t ↔ put r t = tp l k) := fun k h => turn_eq_iff hr (hl _ (tp_mem h)) ht
  have hin := fun k (h : k < l.length) => inRoom_iff hs hl hx h
  have hrm := room_lt (l := l) (put r t) h0
  by_cases e : put r t = tp l (room l (put r t))
  · right
    refine ⟨filter_none (Q := fun g => amid (turnB r (tp l g)) (turnB r (tp l ((g + 1) % l.length))) t) ?_, filter_uniq (Q := fun g => turnB r (tp l g) = t) hrm ?_, e.symm⟩
    · intro k h w
      have w' := (hw k h).mp w
      have := (hin k h).mp (.inr w')
      subst this
      rw [← e] at w'
      exact amid_not_low hx w'
    · intro k h
      rw [hb k h]
      constructor
      · intro w; exact (hin k h).mp (.inl w)
      · intro w; subst w; exact e
  · left
    have nb : ∀ k, k < l.length → put r t ≠ tp l k := by
      intro k h w
      have := (hin k h).mp (.inl w)
      subst this
      exact e w
    refine ⟨filter_uniq (Q := fun g => amid (turnB r (tp l g)) (turnB r (tp l ((g + 1) % l.length))) t) hrm ?_, filter_none (Q := fun g => turnB r (tp l g) = t) ?_, ?_⟩
    · intro k h
      rw [hw k h, ← hin k h]
      constructor
      · exact .inr
      · rintro (w | w)
        · exact absurd w (nb k h)
        · exact w
    · intro k h; rw [hb k h]; exact nb k h
    · intro hm
      obtain ⟨k, hk', he⟩ := List.getElem_of_mem hm
      apply nb k hk'
      unfold tp
      rw [List.getD_eq_getElem?_getD, List.getElem?_eq_getElem hk']
      exact he.symm
end K96

/-! M7: plain numbers: the simplest direction amid two. -/
namespace K96
open PySem DL
def wt (v : P2) : Int := absI v.1 + absI v.2
def oth (q : P2) : P2 := if q = (1, 0) then (-1, 0) else q
def addP (p q : P2) : P2 := (p.1 + q.1, p.2 + q.2)
theorem snd_nn {p : P2} (h : Dir p) : 0 ≤ p.2 := by rcases h.2 with z | z <;> omega
theorem not_lt_east {p : P2} (h : Dir p) : ¬ lt p (1, 0) := by
  have := snd_nn h
  unfold lt crs; simp only [Int.mul_zero, Int.mul_one]; omega
/-- the arc holds neither east nor north, so it is told by sides -/
def Arc (p q : P2) : Prop := lt p q ∨ (q = (1, 0) ∧ p ≠ (1, 0))
theorem amid_oth {p q v : P2} (hp : Dir p) (hq : Dir q) (hv : Dir v) (h : Arc p q) : amid p q v ↔ 0 < crs p v ∧ 0 < crs v (oth q) := by
  rcases h with h | ⟨h, h'⟩
  · have hne : q ≠ (1, 0) := fun e => by subst e; exact not_lt_east hp h
    rw [amid_lt hp hq hv h]
    unfold oth; rw [if_neg hne]
  · subst h
    have hl : lt (1, 0) p := by
      rcases tri hp hq with z | z | z
      · exact absurd z (not_lt_east hp)
      · exact absurd z h'
      · exact z
    rw [amid_gt hp hq hv hl]
    unfold oth; rw [if_pos rfl]
    constructor
    · rintro (w | w)
      · refine ⟨w, ?_⟩
        have hv2 : v ≠ (1, 0) := fun e => by subst e; exact not_lt_east hp w
        have := dir_snd_pos hv hv2
        unfold crs; simp only; omega
      · exact absurd w (not_lt_east hv)
    · rintro ⟨w, _⟩; exact .inl w
/-- the state of the search -/
structure SB (s : Int) (p o low high : P2) : Prop where
  s1 : s = 1 ∨ s = -1
  d : crs low high = 1
  l : 0 ≤ crs low p
  h : 0 ≤ crs o high
  po : 0 < crs p o
  ph : 0 < crs p high
  lo : 0 < crs low o
  q1 : 0 ≤ s * low.1
  q2 : 0 ≤ low.2
  q3 : 0 ≤ s * high.1
  q4 : 0 ≤ high.2
theorem gcd_one {a b x y : Int} (h : x * b - y * a = 1) : Int.gcd a b = 1 := by
  have h1 : (Int.gcd a b : Int) ∣ a := Int.gcd_dvd_left ..
  have h2 : (Int.gcd a b : Int) ∣ b := Int.gcd_dvd_right ..
  have h3 : (Int.gcd a b : Int) ∣ 1 := by
    rw [← h]
    exact Int.dvd_sub (Int.dvd_mul_of_dvd_right h2) (Int.dvd_mul_of_dvd_right h1)
  have h4 : Int.gcd a b ∣ 1 := by exact_mod_cast h3
  exact Nat.dvd_one.mp h4
theorem SB.dir {s : Int} {p o low high : P2} (h : SB s p o low high) : Dir (addP low high) := by
  have hd := h.d
  refine ⟨gcd_one (x := low.1) (y := low.2) ?_, .inl ?_⟩
  · unfold addP; unfold crs at hd; simp only; grind
  · show 0 < low.2 + high.2
    have h2 := h.q2
    have h4 := h.q4
    rcases Int.lt_or_eq_of_le h2 with z | z
    · omega
    · rcases Int.lt_or_eq_of_le h4 with w | w
      · omega
      · exfalso
        unfold crs at hd
        rw [← z, ← w] at hd
        simp at hd
theorem crs_add_l (p q r : P2) : crs (addP p q) r = crs p r + crs q r := by unfold crs addP; grind
theorem crs_add_r (p q r : P2) : crs r (addP p q) = crs r p + crs r q := by unfold crs addP; grind
theorem SB.up {s : Int} {p o low high : P2} (h : SB s p o low high) (hm : 0 ≤ crs (addP low high) p) : SB s p o (addP low high) high ∧ crs (addP low high) p < crs low p := by
  have e1 := crs_add_l low high p
  have e2 := crs_anti high p
  have e3 : crs (addP low high) o = crs low o + crs high o := crs_add_l ..
  have e4 := crs_anti high o
  have hph := h.ph
  have hd := h.d
  have hq1 := h.q1
  have hq3 := h.q3
  have hq2 := h.q2
  have hq4 := h.q4
  refine ⟨⟨h.s1, ?_, hm, h.h, h.po, hph, ?_, ?_, ?_, hq3, hq4⟩, by omega⟩
  · rw [crs_add_l, crs_self]; omega
  · -- p is past m, o past p: by p = crs(p, high) low + crs(low, p) high
    have key : crs p high * crs (addP low high) o = crs (addP low high) p * crs o high + crs p o * crs (addP low high) high := by
      unfold crs addP; grind
    have e5 : crs (addP low high) high = 1 := by rw [crs_add_l, crs_self]; omega
    rw [e5] at key
    have hpo := h.po
    have n := Int.mul_nonneg hm h.h
    have : 0 < crs p high * crs (addP low high) o := by omega
    exact (mul_pos' hph).mp this
  · show 0 ≤ s * (low.1 + high.1)
    rw [Int.mul_add]; omega
  · show 0 ≤ low.2 + high.2
    omega
theorem SB.down {s : Int} {p o low high : P2} (h : SB s p o low high) (hm : 0 ≤ crs o (addP low high)) : SB s p o low (addP low high) ∧ crs o (addP low high) < crs o high := by
  have e1 := crs_add_r low high o
  have e2 := crs_anti low o
  have hlo := h.lo
  have hd := h.d
  have hq1 := h.q1
  have hq3 := h.q3
  have hq2 := h.q2
  have hq4 := h.q4
  refine ⟨⟨h.s1, ?_, h.l, hm, h.po, ?_, hlo, hq1, hq2, ?_, ?_⟩, by omega⟩
  · rw [crs_add_r, crs_self]; omega
  · have key : crs low o * crs p (addP low high) = crs o (addP low high) * crs low p + crs p o * crs low (addP low high) := by
      unfold crs addP; grind
    have e5 : crs low (addP low high) = 1 := by rw [crs_add_r, crs_self]; omega
    rw [e5] at key
    have hpo := h.po
    have n := Int.mul_nonneg hm h.l
    have : 0 < crs low o * crs p (addP low high) := by omega
    exact (mul_pos' hlo).mp this
  · show 0 ≤ s * (low.1 + high.1)
    rw [Int.mul_add]; omega
  · show 0 ≤ low.2 + high.2
    omega
theorem wt_lin {s : Int} (hs : s = 1 ∨ s = -1) {v : P2} (h1 : 0 ≤ s * v.1) (h2 : 0 ≤ v.2) : wt v = s * v.1 + v.2 := by
  unfold wt absI
  rcases hs with e | e <;> subst e <;> omega
/-- of all within the arc none has less weight than the sum -/
theorem SB.least {s : Int} {p o low high v : P2} (h : SB s p o low high) (h1 : 0 < crs p v) (h2 : 0 < crs v o) : wt (addP low high) ≤ wt v := by
  have hd := h.d
  -- v is within the arc from low to high
  have a1 : 0 < crs low v := by
    have key : crs p o * crs low v = crs low p * crs v o + crs p v * crs low o := by unfold crs; grind
    have n1 := Int.mul_nonneg h.l (Int.le_of_lt h2)
    have n2 := Int.mul_pos h1 h.lo
    exact (mul_pos' h.po).mp (by omega)
  have a2 : 0 < crs v high := by
    have key : crs p o * crs v high = crs o high * crs p v + crs v o * crs p high := by unfold crs; grind
    have n1 := Int.mul_nonneg h.h (Int.le_of_lt h1)
    have n2 := Int.mul_pos h2 h.ph
    exact (mul_pos' h.po).mp (by omega)
  have ev1 : v.1 = crs v high * low.1 + crs low v * high.1 := by
    have : crs low high * v.1 = crs v high * low.1 + crs low v * high.1 := by unfold crs; grind
    rw [hd] at this; omega
  have ev2 : v.2 = crs v high * low.2 + crs low v * high.2 := by
    have : crs low high * v.2 = crs v high * low.2 + crs low v * high.2 := by unfold crs; grind
    rw [hd] at this; omega
  have hge : ∀ {a x : Int}, 0 < a → 0 ≤ x → x ≤ a * x := fun {a x} ha hx => by
    have := Int.mul_nonneg (a := a - 1) (b := x) (by omega) hx
    have e : (a - 1) * x = a * x - x := by grind
    omega
  have b1 := hge a2 h.q1
  have b2 := hge a2 h.q2
  have b3 := hge a1 h.q3
  have b4 := hge a1 h.q4
  have e1 : s * v.1 = crs v high * (s * low.1) + crs low v * (s * high.1) := by rw [ev1]; grind
  have hq1 := h.q1
  have hq2 := h.q2
  have hq3 := h.q3
  have hq4 := h.q4
  rw [wt_lin h.s1 (v := v) (by omega) (by omega), wt_lin h.s1 (v := addP low high) (by show 0 ≤ s * (low.1 + high.1); rw [Int.mul_add]; omega) (by show 0 ≤ low.2 + high.2; omega)]
  show s * (low.1 + high.1) + (low.2 + high.2) ≤ _
  rw [Int.mul_add]
  omega
/-- how large the search's pairs are -/
theorem SB.size {s : Int} {p o low high : P2} (h : SB s p o low high) (hp1 : 0 ≤ s * p.1) (hp2 : 0 ≤ p.2) (ho1 : 0 ≤ s * o.1) (ho2 : 0 ≤ o.2) : wt low ≤ wt p ∧ wt high ≤ wt o := by
  have hd := h.d
  have hge : ∀ {a x : Int}, 0 < a → 0 ≤ x → x ≤ a * x := fun {a x} ha hx => by
    have := Int.mul_nonneg (a := a - 1) (b := x) (by omega) hx
    have e : (a - 1) * x = a * x - x := by grind
    omega
  have ev : ∀ v : P2, v.1 = crs v high * low.1 + crs low v * high.1 ∧ v.2 = crs v high * low.2 + crs low v * high.2 := fun v => by
    have t1 : crs low high * v.1 = crs v high * low.1 + crs low v * high.1 := by unfold crs; grind
    have t2 : crs low high * v.2 = crs v high * low.2 + crs low v * high.2 := by unfold crs; grind
    rw [hd] at t1 t2
    exact ⟨by omega, by omega⟩
  have es : ∀ v : P2, s * v.1 = crs v high * (s * low.1) + crs low v * (s * high.1) := fun v => by rw [(ev v).1]; grind
  have hq1 := h.q1
  have hq2 := h.q2
  have hq3 := h.q3
  have hq4 := h.q4
  rw [wt_lin h.s1 hp1 hp2, wt_lin h.s1 ho1 ho2, wt_lin h.s1 hq1 hq2, wt_lin h.s1 hq3 hq4]
  constructor
  · have e1 := es p
    have e2 := (ev p).2
    have b1 := hge h.ph hq1
    have b2 := hge h.ph hq2
    have b3 := Int.mul_nonneg h.l hq3
    have b4 := Int.mul_nonneg h.l hq4
    omega
  · have e1 := es o
    have e2 := (ev o).2
    have b1 := hge h.lo hq3
    have b2 := hge h.lo hq4
    have b3 := Int.mul_nonneg h.h hq1
    have b4 := Int.mul_nonneg h.h hq2
    omega
end K96

/-! M8: plain numbers: what the search for the simplest begins with, and what it ends in. -/
namespace K96
open PySem DL
/-- the simplest amid -/
def Simp (p q v : P2) : Prop := Dir v ∧ amid p q v ∧ ∀ w, Dir w → amid p q w → wt v ≤ wt w
theorem wt_pos {v : P2} (h : Dir v) : 1 ≤ wt v := by
  have := dir_nz h
  unfold wt absI
  omega
theorem simp_of_one {p q v : P2} (hv : Dir v) (h : amid p q v) (hw : wt v = 1) : Simp p q v := ⟨hv, h, fun w dw _ => by have := wt_pos dw; omega⟩
theorem arc_of {p q : P2} (hp : Dir p) (hq : Dir q) (h1 : ¬ amid p q (1, 0)) (h2 : ¬ amid p q (0, 1)) : Arc p q ∧ (lt p (0, 1) → 0 ≤ crs (oth q) (0, 1)) := by
  have d1 : Dir (1, 0) := one_dir
  have d2 : Dir (0, 1) := north_dir
  rcases tri hp hq with z | z | z
  · refine ⟨.inl z, fun w => ?_⟩
    have hne : q ≠ (1, 0) := fun e => by subst e; exact not_lt_east hp z
    rw [amid_lt hp hq d2 z] at h2
    unfold oth; rw [if_neg hne]
    have h3 : ¬ lt (0, 1) q := fun w' => h2 ⟨w, w'⟩
    have := crs_anti (0, 1) q
    unfold lt at h3; omega
  · subst z
    exfalso
    rw [amid_same hp d1] at h1
    rw [amid_same hp d2] at h2
    have e1 : (1, 0) = p := Decidable.not_not.mp h1
    have e2 : (0, 1) = p := Decidable.not_not.mp h2
    rw [← e1] at e2
    exact absurd e2 (by decide)
  · rw [amid_gt hp hq d1 z] at h1
    have e : q = (1, 0) := by
      rcases tri hq d1 with w | w | w
      · exact absurd w (not_lt_east hq)
      · exact w
      · exact absurd (.inr w) h1
    subst e
    have hne : p ≠ (1, 0) := fun w => by subst w; exact lt_irr _ z
    refine ⟨.inr ⟨rfl, hne⟩, fun w => ?_⟩
    rw [amid_gt hp hq d2 z] at h2
    exact absurd (.inl w) h2
theorem oth_po {p q : P2} (hp : Dir p) (h : Arc p q) : 0 < crs p (oth q) := by
  rcases h with h | ⟨h, h'⟩
  · have hne : q ≠ (1, 0) := fun e => by subst e; exact not_lt_east hp h
    unfold oth; rw [if_neg hne]; exact h
  · unfold oth; rw [if_pos h]
    have := dir_snd_pos hp h'
    unfold crs; simp only; omega
theorem oth_snd {q : P2} (hq : Dir q) : 0 ≤ (oth q).2 := by
  unfold oth
  by_cases e : q = (1, 0)
  · rw [if_pos e]; exact Int.le_refl 0
  · rw [if_neg e]; exact snd_nn hq
theorem sb_first {p q : P2} (hp : Dir p) (hq : Dir q) (h1 : ¬ amid p q (1, 0)) (h2 : ¬ amid p q (0, 1)) (h : lt p (0, 1)) : SB 1 p (oth q) (1, 0) (0, 1) := by
  obtain ⟨ha, hb⟩ := arc_of hp hq h1 h2
  have hpo := oth_po hp ha
  have ho := hb h
  have hp2 := snd_nn hp
  refine ⟨.inl rfl, by decide, ?_, ho, hpo, h, ?_, by decide, by decide, by decide, by decide⟩
  · unfold crs; simp only; omega
  · -- oth q is past p, so its second is positive
    have h3 := oth_snd hq
    rcases Int.lt_or_eq_of_le h3 with z | z
    · unfold crs; simp only; omega
    · exfalso
      unfold lt crs at h; simp only at h
      unfold crs at hpo ho; simp only at ho
      rw [← z] at hpo
      have := Int.mul_nonneg hp2 (show (0 : Int) ≤ (oth q).1 by omega)
      omega
theorem sb_second {p q : P2} (hp : Dir p) (hq : Dir q) (h1 : ¬ amid p q (1, 0)) (h2 : ¬ amid p q (0, 1)) (h : ¬ lt p (0, 1)) : SB (-1) p (oth q) (0, 1) (-1, 0) := by
  obtain ⟨ha, hb⟩ := arc_of hp hq h1 h2
  have hpo := oth_po hp ha
  have hp1 : p.1 ≤ 0 := by unfold lt crs at h; simp only at h; omega
  have hp2 : 0 < p.2 := by
    rcases hp.2 with z | ⟨z, z'⟩
    · exact z
    · omega
  have h3 := oth_snd hq
  refine ⟨.inr rfl, by decide, ?_, ?_, hpo, ?_, ?_, by decide, by decide, by decide, by decide⟩
  · unfold crs; simp only; omega
  · unfold crs; simp only; omega
  · unfold crs; simp only; omega
  · unfold crs at hpo ⊢; simp only
    have n : p.1 * (oth q).2 ≤ 0 := Int.mul_nonpos_of_nonpos_of_nonneg hp1 h3
    have : 0 < p.2 * -(oth q).1 := by rw [Int.mul_neg]; omega
    have := (mul_pos' hp2).mp this
    omega
/-- the search's end -/
theorem sb_end {s : Int} {p q low high : P2} (hp : Dir p) (hq : Dir q) (ha : Arc p q) (h : SB s p (oth q) low high) (hm : amid p q (addP low high)) : Simp p q (addP low high) := by
  refine ⟨h.dir, hm, fun w dw aw => ?_⟩
  have := (amid_oth hp hq dw ha).mp aw
  exact h.least this.1 this.2
/-- the search's step -/
theorem sb_step {s : Int} {p q low high : P2} (hp : Dir p) (hq : Dir q) (ha : Arc p q) (h : SB s p (oth q) low high) (hm : ¬ amid p q (addP low high)) :
    if le' (addP low high) p then SB s p (oth q) (addP low high) high ∧ crs (addP low high) p + crs (oth q) high < crs low p + crs (oth q) high
    else SB s p (oth q) low (addP low high) ∧ crs low p + crs (oth q) (addP low high) < crs low p + crs (oth q) high := by
  have hd := h.dir
  by_cases hl : le' (addP low high) p
  · rw [if_pos hl]
    have : 0 ≤ crs (addP low high) p := by
      rcases hl with z | z
      · rw [z, crs_self]; omega
      · exact Int.le_of_lt z
    have := h.up this
    exact ⟨this.1, by omega⟩
  · rw [if_neg hl]
    have hgt : lt p (addP low high) := (lt_iff_not_le hd hp).mpr hl
    rw [amid_oth hp hq hd ha] at hm
    have : 0 ≤ crs (oth q) (addP low high) := by
      have := crs_anti (oth q) (addP low high)
      have : ¬ 0 < crs (addP low high) (oth q) := fun w => hm ⟨hgt, w⟩
      omega
    have := h.down this
    exact ⟨this.1, by omega⟩
theorem sb_nn {s : Int} {p o low high : P2} (h : SB s p o low high) : 0 ≤ crs low p + crs o high := by
  have := h.l
  have := h.h
  omega
end K96

/-! M9: plain numbers: turning points, maps: one map for all turns of a room. -/
namespace K96
open PySem DL
def CO (p q x : P2) : Prop := x = p ∨ amid p q x
/-- whether x is from one to the other is told by its room -/
theorem co_iff {l : List P2} {x : P2} (hs : Srt l) (hl : ∀ y ∈ l, Dir y) (hx : Dir x) {a b : Nat} (ha : a < l.length) (hb : b < l.length) :
    CO (tp l a) (tp l b) x ↔ (if a < b then a ≤ room l x ∧ room l x < b else if b < a then a ≤ room l x ∨ room l x < b else True) := by
  have da := hl _ (tp_mem ha)
  have db := hl _ (tp_mem hb)
  have ca := cnt_iff hs hl hx ha
  have cb := cnt_iff hs hl hx hb
  have hc := cnt_le l x
  unfold CO
  by_cases h : a < b
  · rw [if_pos h]
    have hlt := tp_lt hs h hb
    rw [amid_lt da db hx hlt, lt_iff_not_le db hx, cb]
    have e : (x = tp l a ∨ lt (tp l a) x ∧ ¬ b < cnt l x) ↔ (a < cnt l x ∧ ¬ b < cnt l x) := by
      constructor
      · rintro (w | ⟨w, w'⟩)
        · refine ⟨ca.mp (.inl w.symm), fun w' => ?_⟩
          rw [← cb] at w'
          rw [w] at w'
          exact (lt_iff_not_le db da).mp hlt w'
        · exact ⟨ca.mp (.inr w), w'⟩
      · rintro ⟨w, w'⟩
        rcases ca.mpr w with z | z
        · exact .inl z.symm
        · exact .inr ⟨z, w'⟩
    rw [e]
    unfold room
    split <;> omega
  · rw [if_neg h]
    by_cases h' : b < a
    · rw [if_pos h']
      have hlt := tp_lt hs h' ha
      rw [amid_gt da db hx hlt, lt_iff_not_le db hx, cb]
      have e : (x = tp l a ∨ lt (tp l a) x ∨ ¬ b < cnt l x) ↔ (a < cnt l x ∨ ¬ b < cnt l x) := by
        rw [← ca]
        constructor
        · rintro (w | w | w)
          · exact .inl (.inl w.symm)
          · exact .inl (.inr w)
          · exact .inr w
        · rintro ((w | w) | w)
          · exact .inl w.symm
          · exact .inr (.inl w)
          · exact .inr (.inr w)
      rw [e]
      unfold room
      split <;> omega
    · rw [if_neg h']
      have : a = b := by omega
      subst this
      rw [amid_same da hx]
      constructor
      · intro _; trivial
      · intro _
        by_cases w : x = tp l a
        · exact .inl w
        · exact .inr w
theorem mem_tp {l : List P2} {x : P2} (h : x ∈ l) : ∃ k, k < l.length ∧ tp l k = x := by
  obtain ⟨k, hk, he⟩ := List.getElem_of_mem h
  refine ⟨k, hk, ?_⟩
  unfold tp
  rw [List.getD_eq_getElem?_getD, List.getElem?_eq_getElem hk]
  exact he
/-- turns of one room of turning points lead alike -/
theorem room_same {l m : List P2} {r t t' : P2} (hs : Srt l) (hl : ∀ y ∈ l, Dir y) (h0 : 0 < l.length) (ms : Srt m) (ml : ∀ y ∈ m, Dir y) (hr : Dir r) (ht : Dir t) (ht' : Dir t')
    (hm : ∀ y ∈ l, turnB r y ∈ m) (he : room m t = room m t') : room l (put r t) = room l (put r t') := by
  have hg := room_lt (l := l) (put r t) h0
  have hg' : (room l (put r t) + 1) % l.length < l.length := Nat.mod_lt _ h0
  refine (inRoom_iff hs hl (put_dir hr ht') hg).mp ?_
  have h1 : InRoom l (put r t) (room l (put r t)) := (inRoom_iff hs hl (put_dir hr ht) hg).mpr rfl
  generalize room l (put r t) = g at *
  have dA := hl _ (tp_mem hg)
  have dB := hl _ (tp_mem hg')
  obtain ⟨a, ha, ea⟩ := mem_tp (hm _ (tp_mem hg))
  obtain ⟨b, hb, eb⟩ := mem_tp (hm _ (tp_mem hg'))
  have k : ∀ z, Dir z → (CO (tp m a) (tp m b) z ↔ InRoom l (put r z) g) := fun z dz => by
    unfold CO InRoom
    rw [ea, eb, amid_rest hr dA dB dz]
    rw [show (z = turnB r (tp l g)) ↔ (put r z = tp l g) from by
      constructor
      · intro w; rw [w, put_turn hr dA]
      · intro w; rw [← w, turn_put hr dz]]
  have h2 := (k t ht).mpr h1
  rw [co_iff ms ml ht ha hb, he, ← co_iff ms ml ht' ha hb] at h2
  exact (k t' ht').mp h2
abbrev Ring := List (P2 × P2)
def tops (R : Ring) : List P2 := R.map Prod.fst
def rsts (R : Ring) : List P2 := R.map Prod.snd
/-- the turning points: for each rest, to each top -/
def ptsRaw (R : Ring) : List P2 := (R.map (fun a => R.map (fun b => turnB a.2 b.1))).flatten
def pts (R : Ring) : List P2 := lawOrd (ptsRaw R)
def mapOf (R : Ring) (t : P2) : List Nat := R.map (fun a => room (tops R) (put a.2 t))
structure Good (R : Ring) : Prop where
  srt : Srt (tops R)
  dt : ∀ y ∈ tops R, Dir y
  dr : ∀ y ∈ rsts R, Dir y
  ne : 0 < R.length
theorem mem_pts {R : Ring} {x : P2} : x ∈ pts R ↔ ∃ r ∈ rsts R, ∃ y ∈ tops R, x = turnB r y := by
  unfold pts
  rw [mem_lawOrd]
  unfold ptsRaw rsts tops
  simp only [List.mem_flatten, List.mem_map]
  constructor
  · rintro ⟨l, ⟨a, ha, rfl⟩, hx⟩
    obtain ⟨b, hb, rfl⟩ := List.mem_map.mp hx
    exact ⟨a.2, ⟨a, ha, rfl⟩, b.1, ⟨b, hb, rfl⟩, rfl⟩
  · rintro ⟨r, ⟨a, ha, rfl⟩, y, ⟨b, hb, rfl⟩, rfl⟩
    exact ⟨_, ⟨a, ha, rfl⟩, List.mem_map.mpr ⟨b, hb, rfl⟩⟩
theorem Good.dp {R : Ring} (h : Good R) : ∀ y ∈ pts R, Dir y := by
  intro y hy
  obtain ⟨r, hr, z, hz, rfl⟩ := mem_pts.mp hy
  exact turn_dir (h.dr _ hr) (h.dt _ hz)
theorem Good.sp {R : Ring} (h : Good R) : Srt (pts R) := by
  refine srt_lawOrd (fun y hy => h.dp y ?_)
  exact mem_lawOrd.mpr hy
theorem Good.np {R : Ring} (h : Good R) : 0 < (pts R).length := by
  cases hR : R with
  | nil => have := h.ne; rw [hR] at this; exact absurd this (Nat.lt_irrefl 0)
  | cons a R' =>
    have : turnB a.2 a.1 ∈ pts R := mem_pts.mpr ⟨a.2, by rw [hR]; exact List.mem_cons_self .., a.1, by rw [hR]; exact List.mem_cons_self .., rfl⟩
    rw [← hR]
    exact List.length_pos_of_mem this
/-- one map for each room of turning points -/
theorem map_same {R : Ring} (h : Good R) {t t' : P2} (ht : Dir t) (ht' : Dir t') (he : room (pts R) t = room (pts R) t') : mapOf R t = mapOf R t' := by
  unfold mapOf
  refine List.map_congr_left (fun a ha => ?_)
  have hr : a.2 ∈ rsts R := List.mem_map.mpr ⟨a, ha, rfl⟩
  exact room_same h.srt h.dt (by unfold tops; rw [List.length_map]; exact h.ne) h.sp h.dp (h.dr _ hr) ht ht' (fun y hy => mem_pts.mpr ⟨_, hr, y, hy, rfl⟩) he
theorem room_self {m : List P2} (hs : Srt m) (hl : ∀ y ∈ m, Dir y) {k : Nat} (hk : k < m.length) : room m (tp m k) = k := ((inRoom_iff hs hl (hl _ (tp_mem hk)) hk).mp (.inl rfl)).symm
theorem room_betw {m : List P2} (hs : Srt m) (hl : ∀ y ∈ m, Dir y) {k : Nat} (hk : k < m.length) : room m (betw (tp m k) (tp m ((k + 1) % m.length))) = k := by
  have d1 := hl _ (tp_mem hk)
  have d2 := hl _ (tp_mem (l := m) (i := (k + 1) % m.length) (Nat.mod_lt _ (by omega)))
  exact ((inRoom_iff hs hl (betw_dir d1 d2) hk).mp (.inr (betw_amid d1 d2))).symm
/-- each turn's map is that of a turning point -/
theorem map_point {R : Ring} (h : Good R) {t : P2} (ht : Dir t) : ∃ k, k < (pts R).length ∧ mapOf R (tp (pts R) k) = mapOf R t := by
  have hk := room_lt (l := pts R) t h.np
  exact ⟨_, hk, map_same h (h.dp _ (tp_mem hk)) ht (room_self h.sp h.dp hk)⟩
/-- a little on from a turning point nothing changes -/
theorem map_on {R : Ring} (h : Good R) {k : Nat} (hk : k < (pts R).length) : mapOf R (betw (tp (pts R) k) (tp (pts R) ((k + 1) % (pts R).length))) = mapOf R (tp (pts R) k) := by
  have d1 := h.dp _ (tp_mem hk)
  have d2 := h.dp _ (tp_mem (l := pts R) (i := (k + 1) % (pts R).length) (Nat.mod_lt _ (by omega)))
  exact map_same h (betw_dir d1 d2) d1 (by rw [room_betw h.sp h.dp hk, room_self h.sp h.dp hk])
/-- a turn that is no turning point is firm -/
theorem firm {R : Ring} (h : Good R) {t : P2} (ht : Dir t) (hn : t ∉ pts R) : ∀ r ∈ rsts R, put r t ∉ tops R := by
  intro r hr hm
  apply hn
  refine mem_pts.mpr ⟨r, hr, put r t, hm, ?_⟩
  rw [turn_put (h.dr _ hr) ht]
end K96

/-! M10: plain numbers: turns that leave a ring as it is. -/
namespace K96
open PySem DL
def look (S : Ring) (x : P2) : P2 := ((S.find? (fun a => decide (a.1 = x))).map Prod.snd).getD (1, 0)
def mapR (R : Ring) (t : P2) : Ring := R.map (fun a => (put a.1 t, put a.2 t))
def turned (S : Ring) : Ring := (lawOrd (tops S)).map (fun x => (x, look S x))
/-- the same couples in both -/
def SameR (S R : Ring) : Prop := ∀ a, a ∈ S ↔ a ∈ R
theorem look_mem {S : Ring} (hn : (tops S).Nodup) {a : P2 × P2} (h : a ∈ S) : look S a.1 = a.2 := by
  induction S with
  | nil => exact absurd h List.not_mem_nil
  | cons b S ih =>
    unfold tops at hn
    rw [List.map_cons, List.nodup_cons] at hn
    by_cases e : b.1 = a.1
    · have : a = b := by
        rcases List.mem_cons.mp h with z | z
        · exact z
        · exact absurd (List.mem_map.mpr ⟨a, z, e.symm⟩) hn.1
      subst this
      unfold look
      rw [List.find?_cons_of_pos (by simp)]
      rfl
    · have hm : a ∈ S := by
        rcases List.mem_cons.mp h with z | z
        · subst z; exact absurd rfl e
        · exact z
      have := ih hn.2 hm
      unfold look at this ⊢
      rw [List.find?_cons_of_neg (by simpa using e)]
      exact this
theorem srt_nodup {l : List P2} (h : Srt l) : l.Nodup := by
  refine h.imp ?_
  intro a b w e
  subst e
  rw [crs_self] at w
  omega
theorem mem_turned {S : Ring} (hn : (tops S).Nodup) (a : P2 × P2) : a ∈ turned S ↔ a ∈ S := by
  unfold turned
  rw [List.mem_map]
  constructor
  · rintro ⟨x, hx, rfl⟩
    obtain ⟨b, hb, hbx⟩ := List.mem_map.mp (mem_lawOrd.mp hx)
    subst hbx
    rw [look_mem hn hb]
    exact hb
  · intro h
    exact ⟨a.1, mem_lawOrd.mpr (List.mem_map.mpr ⟨a, h, rfl⟩), by rw [look_mem hn h]⟩
/-- setting in order gives the ring again when the couples are the same -/
theorem turned_iff {S R : Ring} (hR : Srt (tops R)) (hn : (tops S).Nodup) (hd : ∀ y ∈ tops S, Dir y) : turned S = R ↔ SameR S R := by
  constructor
  · intro h a; rw [← mem_turned hn, h]
  · intro h
    have e : lawOrd (tops S) = tops R := by
      refine srt_uniq (srt_lawOrd hd) hR (fun x => ?_)
      rw [mem_lawOrd]
      unfold tops
      rw [List.mem_map, List.mem_map]
      constructor
      · rintro ⟨a, ha, e⟩; exact ⟨a, (h a).mp ha, e⟩
      · rintro ⟨a, ha, e⟩; exact ⟨a, (h a).mpr ha, e⟩
    unfold turned
    rw [e]
    unfold tops
    rw [List.map_map]
    conv => rhs; rw [← List.map_id R]
    refine List.map_congr_left (fun a ha => ?_)
    show (a.1, look S a.1) = a
    rw [look_mem hn ((h a).mpr ha)]
theorem put_inj' {p q t : P2} (hp : Dir p) (hq : Dir q) (ht : Dir t) (h : put p t = put q t) : p = q := by
  rw [put_comm p, put_comm q] at h
  exact put_inj ht hp hq h
theorem tops_mapR (R : Ring) (t : P2) : tops (mapR R t) = (tops R).map (fun x => put x t) := by
  unfold tops mapR
  rw [List.map_map, List.map_map]
  rfl
theorem nodup_put {l : List P2} {t : P2} (hn : l.Nodup) (hl : ∀ y ∈ l, Dir y) (ht : Dir t) : (l.map (fun x => put x t)).Nodup := by
  induction l with
  | nil => exact List.nodup_nil
  | cons a l ih =>
    rw [List.nodup_cons] at hn
    rw [List.map_cons, List.nodup_cons]
    refine ⟨?_, ih hn.2 (fun y hy => hl y (List.mem_cons_of_mem _ hy))⟩
    intro h
    obtain ⟨b, hb, e⟩ := List.mem_map.mp h
    have := put_inj' (hl b (List.mem_cons_of_mem _ hb)) (hl a (List.mem_cons_self ..)) ht e
    subst this
    exact hn.1 hb
theorem leaves_iff {R : Ring} (h : Good R) {t : P2} (ht : Dir t) : turned (mapR R t) = R ↔ SameR (mapR R t) R := by
  refine turned_iff h.srt ?_ ?_
  · rw [tops_mapR]; exact nodup_put (srt_nodup h.srt) h.dt ht
  · intro y hy
    rw [tops_mapR] at hy
    obtain ⟨x, hx, rfl⟩ := List.mem_map.mp hy
    exact put_dir (h.dt x hx) ht
theorem mapR_one {R : Ring} (h : Good R) : mapR R (1, 0) = R := by
  unfold mapR
  conv => rhs; rw [← List.map_id R]
  refine List.map_congr_left (fun a ha => ?_)
  show (put a.1 (1, 0), put a.2 (1, 0)) = a
  rw [put_one (h.dt _ (List.mem_map.mpr ⟨a, ha, rfl⟩)), put_one (h.dr _ (List.mem_map.mpr ⟨a, ha, rfl⟩))]
instance (S R : Ring) : Decidable (SameR S R) :=
  decidable_of_iff ((∀ a ∈ S, a ∈ R) ∧ (∀ a ∈ R, a ∈ S)) ⟨fun h a => ⟨h.1 a, h.2 a⟩, fun h => ⟨fun a => (h a).mp, fun a => (h a).mpr⟩⟩
def someT (R : Ring) : List P2 := (tops R).map (fun x => turnB (tp (tops R) 0) x)
def sameT (R : Ring) : List P2 := lawOrd ((someT R).filter (fun t => decide (SameR (mapR R t) R)))
def kinds (R : Ring) : Nat := R.length / (sameT R).length
theorem insC_len (l : List P2) (x : P2) : (insC l x).length = l.length + 1 := by
  unfold insC
  rw [List.length_append, List.length_cons, List.length_take, List.length_drop]
  omega
theorem lawOrd_len (l : List P2) : (lawOrd l).length ≤ l.length := by
  refine snoc_ind (Q := fun l => (lawOrd l).length ≤ l.length) (Nat.le_refl _) ?_ l
  intro l x ih
  rw [lawOrd_snoc, List.length_append]
  unfold lawStep
  show _ ≤ l.length + 1
  by_cases h : x ∈ lawOrd l
  · rw [if_pos h]; omega
  · rw [if_neg h, insC_len]; omega
theorem sameT_len {R : Ring} (h : Good R) : 0 < (sameT R).length ∧ (sameT R).length ≤ R.length := by
  have hl : (tops R).length = R.length := List.length_map ..
  constructor
  · refine List.length_pos_of_mem (a := (1, 0)) ?_
    unfold sameT
    rw [mem_lawOrd, List.mem_filter]
    refine ⟨?_, ?_⟩
    · have h0 : 0 < (tops R).length := by rw [hl]; exact h.ne
      refine List.mem_map.mpr ⟨tp (tops R) 0, tp_mem h0, turn_self (h.dt _ (tp_mem h0))⟩
    · rw [mapR_one h]
      simp only [decide_eq_true_eq]
      exact fun _ => Iff.rfl
  · unfold sameT
    refine Nat.le_trans (lawOrd_len _) (Nat.le_trans (List.length_filter_le ..) ?_)
    unfold someT
    rw [List.length_map, hl]
    exact Nat.le_refl _
theorem kinds_pos {R : Ring} (h : Good R) : 0 < kinds R ∧ kinds R ≤ R.length := by
  have h1 := sameT_len h
  exact ⟨Nat.div_pos h1.2 h1.1, Nat.div_le_self ..⟩
/-! ### The turn to a rest, a little past its top -/
theorem amid_trans {p q r v : P2} (hp : Dir p) (hq : Dir q) (hr : Dir r) (hv : Dir v) (h : amid p q r) (h' : amid p r v) : amid p q v := by
  unfold amid at h h' ⊢
  refine ⟨h'.1, ?_⟩
  rcases h.2 with z | z
  · exact .inl z
  · right
    rcases h'.2 with w | w
    · exact absurd w h.1
    · exact crs_trans (turn_dir hp hv) (turn_dir hp hr) (turn_dir hp hq) w z
end K96

/-! M11: plain numbers: the law's gcd by laps. -/
namespace K96
open PySem DL
/-- the law's gcd with n laps left -/
def gcdL : Nat → Nat → Nat → Nat
  | 0, a, _ => a
  | n + 1, a, b => if b = 0 then a else gcdL n b (a % b)
theorem half_mod {b c : Nat} (hc : 0 < c) (h : c < b) : 2 * (b % c) < b := by
  have h1 := Nat.mod_lt b hc
  have h2 := Nat.div_add_mod b c
  have h3 : 1 ≤ b / c := Nat.div_pos (Nat.le_of_lt h) hc
  have h4 : c * 1 ≤ c * (b / c) := Nat.mul_le_mul_left c h3
  omega
theorem gcdL_zero (n a : Nat) : gcdL n a 0 = a := by
  cases n with
  | zero => rfl
  | succ n => rfl
theorem gcdL_eq (k : Nat) : ∀ (n a b : Nat), b < 2 ^ k → 2 * k ≤ n → gcdL n a b = Nat.gcd a b := by
  induction k with
  | zero =>
    intro n a b hb _
    have : b = 0 := by simpa using hb
    subst this
    rw [gcdL_zero, Nat.gcd_zero_right]
  | succ k ih =>
    intro n a b hb hn
    obtain ⟨m, rfl⟩ : ∃ m, n = m + 1 + 1 := ⟨n - 2, by omega⟩
    by_cases h0 : b = 0
    · subst h0; rw [gcdL_zero, Nat.gcd_zero_right]
    · have e1 : gcdL (m + 1 + 1) a b = gcdL (m + 1) b (a % b) := by show (if b = 0 then a else _) = _; rw [if_neg h0]
      rw [e1]
      have eg : Nat.gcd a b = Nat.gcd b (a % b) := by rw [Nat.gcd_comm, Nat.gcd_rec, Nat.gcd_comm]
      rw [eg]
      by_cases h1 : a % b = 0
      · rw [h1, gcdL_zero, Nat.gcd_zero_right]
      · have e2 : gcdL (m + 1) b (a % b) = gcdL m (a % b) (b % (a % b)) := by show (if a % b = 0 then b else _) = _; rw [if_neg h1]
        have eg2 : Nat.gcd b (a % b) = Nat.gcd (a % b) (b % (a % b)) := by rw [Nat.gcd_comm, Nat.gcd_rec, Nat.gcd_comm]
        rw [e2, eg2]
        have hlt := Nat.mod_lt a (Nat.pos_of_ne_zero h0)
        have hh := half_mod (Nat.pos_of_ne_zero h1) hlt
        refine ih m _ _ ?_ (by omega)
        rw [Nat.pow_succ] at hb
        omega
end K96

/-! M12: plain numbers: the chain over sorted corners. -/
namespace K96
open PySem DL
def turn3 (a b c : P2) : Int := (b.1 - a.1) * (c.2 - b.2) - (b.2 - a.2) * (c.1 - b.1)
/-- the stack, its top first -/
def popS : List P2 → P2 → List P2
  | b :: a :: rest, p => if turn3 a b p ≤ 0 then popS (a :: rest) p else b :: a :: rest
  | st, _ => st
def chainR (l : List P2) : List P2 := l.foldl (fun st p => p :: popS st p) []
/-- past a low corner every low corner turns left and every other one does not -/
def Trip (low : P2 → Bool) (l : List P2) : Prop := ∀ a b c, [a, b, c].Sublist l → low a = true → (low b = true → 0 < turn3 a b c) ∧ (low b = false → turn3 a b c ≤ 0)
theorem chainR_snoc (l : List P2) (p : P2) : chainR (l ++ [p]) = p :: popS (chainR l) p := by unfold chainR; rw [List.foldl_append]; rfl
theorem Trip.left {low : P2 → Bool} {l : List P2} {p : P2} (h : Trip low (l ++ [p])) : Trip low l := fun a b c hs => h a b c (hs.trans (List.sublist_append_left ..))
theorem pop_low {low : P2 → Bool} {l : List P2} {p : P2} (h : Trip low (l ++ [p])) : popS (l.filter low).reverse p = (l.filter low).reverse := by
  generalize e : (l.filter low).reverse = st
  match st, e with
  | [], _ => rfl
  | [b], _ => rfl
  | b :: a :: rest, e =>
    have e' : l.filter low = rest.reverse ++ [a, b] := by
      have := congrArg List.reverse e
      rw [List.reverse_reverse] at this
      rw [this]; simp
    have ha : low a = true := by
      have : a ∈ l.filter low := by rw [e']; simp
      exact (List.mem_filter.mp this).2
    have hb : low b = true := by
      have : b ∈ l.filter low := by rw [e']; simp
      exact (List.mem_filter.mp this).2
    have hs : [a, b, p].Sublist (l ++ [p]) := by
      have h1 : [a, b].Sublist l := (by rw [e']; exact List.sublist_append_right .. : [a, b].Sublist (l.filter low)).trans (List.filter_sublist ..)
      exact List.Sublist.append h1 (List.Sublist.refl [p])
    have := (h a b p hs ha).1 hb
    show (if turn3 a b p ≤ 0 then _ else _) = _
    rw [if_neg (by omega)]
/-- the chain: the low ones, and the last on top -/
theorem chainR_eq {low : P2 → Bool} (f : P2) (hf : low f = true) (l : List P2) : Trip low (f :: l) → chainR (f :: l) = if low ((f :: l).getLast (List.cons_ne_nil _ _)) = true then ((f :: l).filter low).reverse else (f :: l).getLast (List.cons_ne_nil _ _) :: ((f :: l).filter low).reverse := by
  refine snoc_ind (Q := fun l => Trip low (f :: l) → chainR (f :: l) = if low ((f :: l).getLast (List.cons_ne_nil _ _)) = true then ((f :: l).filter low).reverse else (f :: l).getLast (List.cons_ne_nil _ _) :: ((f :: l).filter low).reverse) ?_ ?_ l
  · intro _
    simp [hf, chainR, popS]
  · intro l p ih ht
    have ht0 : Trip low ((f :: l) ++ [p]) := ht
    have ih := ih ht0.left
    have hp := pop_low ht0
    have hpop : popS (chainR (f :: l)) p = ((f :: l).filter low).reverse := by
      rw [ih]
      by_cases hl : low ((f :: l).getLast (List.cons_ne_nil _ _)) = true
      · rw [if_pos hl]; exact hp
      · rw [if_neg hl]
        generalize hb : (f :: l).getLast (List.cons_ne_nil _ _) = b at *
        generalize e : ((f :: l).filter low).reverse = st at *
        match st, e with
        | [], e =>
          have : f ∈ ((f :: l).filter low).reverse := by
            rw [List.mem_reverse, List.mem_filter]; exact ⟨List.mem_cons_self .., hf⟩
          rw [e] at this
          exact absurd this List.not_mem_nil
        | a :: rest, e =>
          have e' : (f :: l).filter low = rest.reverse ++ [a] := by
            have := congrArg List.reverse e
            rw [List.reverse_reverse] at this
            rw [this]; simp
          have ha : low a = true := by
            have : a ∈ (f :: l).filter low := by rw [e']; simp
            exact (List.mem_filter.mp this).2
          have hbf : low b = false := by simpa using hl
          -- a comes before the last
          have e2 : (f :: l) = (f :: l).dropLast ++ [b] := by rw [← hb]; exact (List.dropLast_concat_getLast _).symm
          have ham : a ∈ (f :: l).dropLast := by
            have h1 : a ∈ (f :: l) := by
              have : a ∈ (f :: l).filter low := by rw [e']; simp
              exact (List.mem_filter.mp this).1
            rw [e2, List.mem_append, List.mem_singleton] at h1
            rcases h1 with z | z
            · exact z
            · subst z; rw [ha] at hbf; exact absurd hbf (by decide)
          have hs : [a, b, p].Sublist ((f :: l) ++ [p]) := by
            have h1 : [a].Sublist ((f :: l).dropLast) := List.singleton_sublist.mpr ham
            have h2 : ([a] ++ [b]).Sublist (f :: l) := by rw [e2]; exact List.Sublist.append h1 (List.Sublist.refl [b])
            exact List.Sublist.append h2 (List.Sublist.refl [p])
          have := (ht0 a b p hs ha).2 hbf
          show (if turn3 a b p ≤ 0 then popS (a :: rest) p else _) = _
          rw [if_pos this]
          exact hp
    have e3 : f :: (l ++ [p]) = (f :: l) ++ [p] := rfl
    have e4 : ∀ h, (f :: (l ++ [p])).getLast h = p := fun h => by
      show ((f :: l) ++ [p]).getLast _ = p
      exact List.getLast_concat
    rw [e4, e3, chainR_snoc, hpop, List.filter_append]
    by_cases hlp : low p = true
    · rw [if_pos hlp, List.filter_cons_of_pos hlp]; simp
    · rw [if_neg hlp, List.filter_cons_of_neg hlp]; simp
end K96

/-! M13: plain numbers: corners above both neighbours; the farthest two; gaps of the sides' ways. -/
namespace K96
open PySem DL
def subP (p q : P2) : P2 := (p.1 - q.1, p.2 - q.2)
/-- what lies at a corner is told by its two sides -/
theorem cone (d V N P X : P2) : turn3 P V N * crs d (subP X V) = turn3 V X P * crs d (subP N V) + turn3 V N X * crs d (subP P V) := by
  unfold turn3 crs subP; simp only; grind
/-- above both neighbours: above all -/
theorem corner_top {d V N P X : P2} (hd : 0 < turn3 P V N) (h1 : 0 ≤ turn3 V X P) (h2 : 0 ≤ turn3 V N X) (h3 : 0 < turn3 V X P ∨ 0 < turn3 V N X) (hN : crs d (subP N V) < 0) (hP : crs d (subP P V) < 0) : crs d (subP X V) < 0 := by
  have e := cone d V N P X
  have n1 := Int.mul_nonpos_of_nonneg_of_nonpos h1 (Int.le_of_lt hN)
  have n2 := Int.mul_nonpos_of_nonneg_of_nonpos h2 (Int.le_of_lt hP)
  have hneg : turn3 P V N * crs d (subP X V) < 0 := by
    rcases h3 with z | z
    · have := Int.mul_neg_of_pos_of_neg z hN; omega
    · have := Int.mul_neg_of_pos_of_neg z hP; omega
  rcases Int.lt_trichotomy (crs d (subP X V)) 0 with z | z | z
  · exact z
  · rw [z, Int.mul_zero] at hneg; omega
  · have := Int.mul_pos hd z; omega
/-- below both neighbours: below all -/
theorem corner_low {d V N P X : P2} (hd : 0 < turn3 P V N) (h1 : 0 ≤ turn3 V X P) (h2 : 0 ≤ turn3 V N X) (h3 : 0 < turn3 V X P ∨ 0 < turn3 V N X) (hN : 0 < crs d (subP N V)) (hP : 0 < crs d (subP P V)) : 0 < crs d (subP X V) := by
  have neg : ∀ Y : P2, crs (-d.1, -d.2) Y = - crs d Y := fun Y => by unfold crs; simp only; grind
  have := corner_top (d := (-d.1, -d.2)) hd h1 h2 h3 (by rw [neg]; omega) (by rw [neg]; omega)
  rw [neg] at this; omega
def far2 (p q : P2) : Int := (q.1 - p.1) * (q.1 - p.1) + (q.2 - p.2) * (q.2 - p.2)
/-- past the farthest corner lies none -/
theorem far_dot {p q x : P2} (h : far2 p x ≤ far2 p q) (hne : x ≠ q) : dot (subP q p) (subP x q) < 0 := by
  have e : far2 p x = far2 p q + 2 * dot (subP q p) (subP x q) + far2 q x := by
    unfold far2 dot subP; simp only; grind
  have hpos : 0 < far2 q x := by
    have : ¬ ((subP x q).1 = 0 ∧ (subP x q).2 = 0) := by
      rintro ⟨a, b⟩
      unfold subP at a b
      simp only at a b
      exact hne (Prod.ext (by omega) (by omega))
    exact nrm_pos this
  omega
theorem far_comm (p q : P2) : far2 p q = far2 q p := by unfold far2; grind
theorem le_iff_lt {p q : P2} (h : p ≠ q) : le' p q ↔ lt p q := ⟨fun w => w.resolve_left h, .inr⟩
/-- two of one gap lie to one side of every way, or to opposite sides of every way -/
theorem gap_sides {W : List P2} {d d' : P2} (hs : Srt W) (hl : ∀ y ∈ W, Dir y) (hd : Dir d) (hd' : Dir d') (hn : d ∉ W) (hn' : d' ∉ W) (he : room W d = room W d') :
    (∀ w ∈ W, (lt w d ↔ lt w d')) ∨ (∀ w ∈ W, (lt w d ↔ lt d' w)) := by
  have c1 := cnt_le W d
  have c2 := cnt_le W d'
  have key : ∀ w ∈ W, ∃ k, k < W.length ∧ (lt w d ↔ k < cnt W d) ∧ (lt w d' ↔ k < cnt W d') ∧ (lt d' w ↔ ¬ k < cnt W d') := by
    intro w hw
    obtain ⟨k, hk, e⟩ := mem_tp hw
    have a := cnt_iff hs hl hd hk
    have b := cnt_iff hs hl hd' hk
    rw [e] at a b
    have n1 : w ≠ d := fun z => hn (z ▸ hw)
    have n2 : w ≠ d' := fun z => hn' (z ▸ hw)
    refine ⟨k, hk, ?_, ?_, ?_⟩
    · rw [← a, le_iff_lt n1]
    · rw [← b, le_iff_lt n2]
    · rw [← b]; exact lt_iff_not_le (hl w hw) hd'
  by_cases hc : cnt W d = cnt W d'
  · left
    intro w hw
    obtain ⟨k, hk, a, b, _⟩ := key w hw
    rw [a, b, hc]
  · right
    intro w hw
    obtain ⟨k, hk, a, b, c⟩ := key w hw
    rw [a, c]
    unfold room at he
    by_cases z1 : cnt W d = 0
    · rw [if_pos z1, if_neg (by omega)] at he
      omega
    · rw [if_neg z1] at he
      by_cases z2 : cnt W d' = 0
      · rw [if_pos z2] at he
        omega
      · rw [if_neg z2] at he
        omega
end K96

/-! M14: plain numbers: between two neighbouring tops lies a side's way. -/
namespace K96
open PySem DL
theorem gt_of {W : List P2} {u : P2} (hs : Srt W) (hl : ∀ y ∈ W, Dir y) (hu : Dir u) {k : Nat} (hk : k < W.length) (h : ¬ k < cnt W u) : lt u (tp W k) := by
  rw [← cnt_iff hs hl hu hk] at h
  exact (lt_iff_not_le (hl _ (tp_mem hk)) hu).mpr h
theorem lt_of {W : List P2} {u : P2} (hs : Srt W) (hl : ∀ y ∈ W, Dir y) (hu : Dir u) (hn : u ∉ W) {k : Nat} (hk : k < W.length) (h : k < cnt W u) : lt (tp W k) u := by
  rcases (cnt_iff hs hl hu hk).mpr h with z | z
  · exact absurd (z ▸ tp_mem hk) hn
  · exact z
theorem rest_some {W U : List P2} (ws : Srt W) (wl : ∀ y ∈ W, Dir y) (w0 : 0 < W.length) (us : Srt U) (ul : ∀ y ∈ U, Dir y) (hn : ∀ u ∈ U, u ∉ W)
    (hr : ∀ u ∈ U, ∀ u' ∈ U, room W u = room W u' → u = u') {k : Nat} (hk : k < U.length) : ∃ w ∈ W, amid (tp U k) (tp U ((k + 1) % U.length)) w := by
  have du := ul _ (tp_mem hk)
  have nu := hn _ (tp_mem hk)
  have c1 := cnt_le W (tp U k)
  have hn0 : 0 < U.length := by omega
  by_cases h1 : k + 1 < U.length
  · rw [Nat.mod_eq_of_lt h1]
    have du' := ul _ (tp_mem h1)
    have nu' := hn _ (tp_mem h1)
    have c2 := cnt_le W (tp U (k + 1))
    have hlt : lt (tp U k) (tp U (k + 1)) := tp_lt us (Nat.lt_succ_self k) h1
    have hne : tp U k ≠ tp U (k + 1) := fun e => by rw [e] at hlt; exact lt_irr _ hlt
    have hc : cnt W (tp U k) < cnt W (tp U (k + 1)) := by
      rcases Nat.lt_trichotomy (cnt W (tp U k)) (cnt W (tp U (k + 1))) with z | z | z
      · exact z
      · exact absurd (hr _ (tp_mem hk) _ (tp_mem h1) (by unfold room; rw [z])) hne
      · -- monotone
        exfalso
        have hk' : cnt W (tp U (k + 1)) < W.length := by omega
        have g1 := gt_of ws wl du' hk' (Nat.lt_irrefl _)
        have g2 := lt_of ws wl du nu hk' z
        have := crs_trans du' (wl _ (tp_mem hk')) du g1 g2
        have h4 := lt_asym hlt
        unfold lt at this
        omega
    have hw : cnt W (tp U k) < W.length := by omega
    refine ⟨_, tp_mem hw, ?_⟩
    rw [amid_lt du du' (wl _ (tp_mem hw)) hlt]
    exact ⟨gt_of ws wl du hw (Nat.lt_irrefl _), lt_of ws wl du' nu' hw hc⟩
  · have hkn : k + 1 = U.length := by omega
    rw [hkn, Nat.mod_self]
    by_cases hz : k = 0
    · subst hz
      refine ⟨_, tp_mem w0, ?_⟩
      rw [amid_same du (wl _ (tp_mem w0))]
      intro e
      exact nu (e ▸ tp_mem w0)
    · have du0 := ul _ (tp_mem hn0)
      have nu0 := hn _ (tp_mem hn0)
      have hlt := tp_lt us (i := 0) (j := k) (by omega) hk
      have hne : tp U 0 ≠ tp U k := fun e => by rw [e] at hlt; exact lt_irr _ hlt
      by_cases hw : cnt W (tp U k) < W.length
      · refine ⟨_, tp_mem hw, ?_⟩
        rw [amid_gt du du0 (wl _ (tp_mem hw)) hlt]
        exact .inl (gt_of ws wl du hw (Nat.lt_irrefl _))
      · have hc0 : 0 < cnt W (tp U 0) := by
          rcases Nat.eq_zero_or_pos (cnt W (tp U 0)) with z | z
          · exact absurd (hr _ (tp_mem hn0) _ (tp_mem hk) (by unfold room; rw [if_pos z, if_neg (by omega)]; omega)) hne
          · exact z
        refine ⟨_, tp_mem w0, ?_⟩
        rw [amid_gt du du0 (wl _ (tp_mem w0)) hlt]
        exact .inr (lt_of ws wl du0 nu0 w0 hc0)
/-- the pick of the widest is one of those gone through -/
theorem pick_mem {α : Type} (better : α → α → Bool) (l : List α) (a : α) : l.foldl (fun r w => if better r w = true then w else r) a ∈ a :: l := by
  induction l generalizing a with
  | nil => exact List.mem_cons_self ..
  | cons b l ih =>
    rw [List.foldl_cons]
    by_cases h : better a b = true
    · rw [if_pos h]; exact List.mem_cons_of_mem _ (ih b)
    · rw [if_neg h]
      rcases List.mem_cons.mp (ih a) with z | z
      · rw [z]; exact List.mem_cons_self ..
      · exact List.mem_cons_of_mem _ (List.mem_cons_of_mem _ z)
end K96

/-! M15: plain numbers: the ring made of tops and rests is Good, as soon as it has one top. -/
namespace K96
open PySem DL
/-- the tops found, f k for the gap k -/
def upsRaw (W : List P2) (f : Nat → P2) : List P2 := ((List.range W.length).filter (fun k => decide (amid (tp W k) (tp W ((k + 1) % W.length)) (f k)))).map f
def ups (W : List P2) (f : Nat → P2) : List P2 := lawOrd (upsRaw W f)
theorem mem_ups {W : List P2} {f : Nat → P2} {u : P2} : u ∈ ups W f ↔ ∃ k, k < W.length ∧ amid (tp W k) (tp W ((k + 1) % W.length)) (f k) ∧ f k = u := by
  unfold ups
  rw [mem_lawOrd]
  unfold upsRaw
  rw [List.mem_map]
  constructor
  · rintro ⟨k, hk, e⟩
    rw [List.mem_filter, List.mem_range, decide_eq_true_eq] at hk
    exact ⟨k, hk.1, hk.2, e⟩
  · rintro ⟨k, hk, ha, e⟩
    exact ⟨k, by rw [List.mem_filter, List.mem_range, decide_eq_true_eq]; exact ⟨hk, ha⟩, e⟩
theorem up_room {W : List P2} {x : P2} (ws : Srt W) (wl : ∀ y ∈ W, Dir y) (hx : Dir x) {k : Nat} (hk : k < W.length) (h : amid (tp W k) (tp W ((k + 1) % W.length)) x) : room W x = k ∧ x ∉ W := by
  have e := ((inRoom_iff ws wl hx hk).mp (.inr h)).symm
  refine ⟨e, fun hm => ?_⟩
  obtain ⟨j, hj, ej⟩ := mem_tp hm
  have := room_self ws wl hj
  rw [ej, e] at this
  subst this
  rw [← ej] at h
  exact amid_not_low (wl _ (tp_mem hk)) h
/-- a ring over the tops, each with a way amid it and the next -/
structure RingOf (W : List P2) (f : Nat → P2) (R : Ring) : Prop where
  tp1 : tops R = ups W f
  rs : ∀ k, k < R.length → ∃ r, (R.map Prod.snd)[k]? = some r ∧ r ∈ W ∧ amid (tp (tops R) k) (tp (tops R) ((k + 1) % R.length)) r
theorem ups_rest {W : List P2} {f : Nat → P2} (ws : Srt W) (wl : ∀ y ∈ W, Dir y) (w0 : 0 < W.length) (hf : ∀ k, k < W.length → Dir (f k)) {k : Nat} (hk : k < (ups W f).length) :
    ∃ w ∈ W, amid (tp (ups W f) k) (tp (ups W f) ((k + 1) % (ups W f).length)) w := by
  have ud : ∀ y ∈ ups W f, Dir y := fun y hy => by
    obtain ⟨k, hk, _, e⟩ := mem_ups.mp hy
    exact e ▸ hf k hk
  have us : Srt (ups W f) := srt_lawOrd (fun y hy => ud y (mem_lawOrd.mpr hy))
  refine rest_some ws wl w0 us ud ?_ ?_ hk
  · intro u hu
    obtain ⟨j, hj, ha, e⟩ := mem_ups.mp hu
    subst e
    exact (up_room ws wl (hf j hj) hj ha).2
  · intro u hu u' hu' h
    obtain ⟨j, hj, ha, e⟩ := mem_ups.mp hu
    obtain ⟨j', hj', ha', e'⟩ := mem_ups.mp hu'
    subst e e'
    rw [(up_room ws wl (hf j hj) hj ha).1, (up_room ws wl (hf j' hj') hj' ha').1] at h
    rw [h]
theorem ring_good {W : List P2} {f : Nat → P2} {R : Ring} (ws : Srt W) (wl : ∀ y ∈ W, Dir y) (hf : ∀ k, k < W.length → Dir (f k)) (h : RingOf W f R) (h1 : 0 < (ups W f).length) : Good R := by
  have ud : ∀ y ∈ ups W f, Dir y := fun y hy => by
    obtain ⟨k, hk, _, e⟩ := mem_ups.mp hy
    exact e ▸ hf k hk
  have hl : (tops R).length = R.length := List.length_map ..
  refine ⟨?_, ?_, ?_, ?_⟩
  · rw [h.tp1]; exact srt_lawOrd (fun y hy => ud y (mem_lawOrd.mpr hy))
  · rw [h.tp1]; exact ud
  · intro y hy
    obtain ⟨k, hk, e⟩ := List.getElem_of_mem hy
    have hk' : k < R.length := by unfold rsts at hk; rwa [List.length_map] at hk
    obtain ⟨r, e1, hr, _⟩ := h.rs k hk'
    have e2 : (rsts R)[k]? = some y := by rw [List.getElem?_eq_getElem hk, e]
    unfold rsts at e2
    rw [e1] at e2
    cases e2
    exact wl _ hr
  · rw [← hl, h.tp1]; exact h1
end K96

/-! M16: plain numbers: convex corners. -/
namespace K96
open PySem DL
def Cvx (l : List P2) : Prop := ∀ i j k, i < j → j < k → k < l.length → 0 < turn3 (tp l i) (tp l j) (tp l k)
theorem turn3_rot (a b c : P2) : turn3 a b c = turn3 b c a := by unfold turn3; grind
theorem turn3_same (a b : P2) : turn3 a b b = 0 ∧ turn3 a a b = 0 ∧ turn3 a b a = 0 := by unfold turn3; grind
theorem Cvx.cyc {l : List P2} (h : Cvx l) {i j k : Nat} (hi : i < l.length) (hj : j < l.length) (hk : k < l.length) (hc : (i < j ∧ j < k) ∨ (j < k ∧ k < i) ∨ (k < i ∧ i < j)) : 0 < turn3 (tp l i) (tp l j) (tp l k) := by
  rcases hc with ⟨a, b⟩ | ⟨a, b⟩ | ⟨a, b⟩
  · exact h i j k a b hk
  · rw [turn3_rot]; exact h j k i a b hi
  · rw [turn3_rot, turn3_rot]; exact h k i j a b hj
def nx (n i : Nat) : Nat := if i + 1 = n then 0 else i + 1
def pv (n i : Nat) : Nat := if i = 0 then n - 1 else i - 1
theorem nx_lt {n i : Nat} (h : i < n) : nx n i < n := by unfold nx; split <;> omega
theorem pv_lt {n i : Nat} (h : i < n) : pv n i < n := by unfold pv; split <;> omega
theorem nx_eq {n i : Nat} (h : i < n) : nx n i = (i + 1) % n := by
  unfold nx
  by_cases e : i + 1 = n
  · rw [if_pos e, e, Nat.mod_self]
  · rw [if_neg e, Nat.mod_eq_of_lt (by omega)]
/-- the conditions of corner_top, at each corner -/
theorem Cvx.at {l : List P2} (h : Cvx l) (h3 : 3 ≤ l.length) {i j : Nat} (hi : i < l.length) (hj : j < l.length) (hne : j ≠ i) :
    0 < turn3 (tp l (pv l.length i)) (tp l i) (tp l (nx l.length i)) ∧ 0 ≤ turn3 (tp l i) (tp l j) (tp l (pv l.length i)) ∧ 0 ≤ turn3 (tp l i) (tp l (nx l.length i)) (tp l j) ∧
      (0 < turn3 (tp l i) (tp l j) (tp l (pv l.length i)) ∨ 0 < turn3 (tp l i) (tp l (nx l.length i)) (tp l j)) := by
  have hp := pv_lt hi
  have hn := nx_lt hi
  have c1 : 0 < turn3 (tp l (pv l.length i)) (tp l i) (tp l (nx l.length i)) := h.cyc hp hi hn (by unfold pv nx; split <;> split <;> omega)
  have c2 : j ≠ pv l.length i → 0 < turn3 (tp l i) (tp l j) (tp l (pv l.length i)) := fun e => h.cyc hi hj hp (by unfold pv at e ⊢; split at e <;> simp_all <;> omega)
  have c3 : j ≠ nx l.length i → 0 < turn3 (tp l i) (tp l (nx l.length i)) (tp l j) := fun e => h.cyc hi hn hj (by unfold nx at e ⊢; split at e <;> simp_all <;> omega)
  refine ⟨c1, ?_, ?_, ?_⟩
  · by_cases e : j = pv l.length i
    · rw [← e, (turn3_same _ _).1]; omega
    · exact Int.le_of_lt (c2 e)
  · by_cases e : j = nx l.length i
    · rw [← e, (turn3_same _ _).1]; omega
    · exact Int.le_of_lt (c3 e)
  · by_cases e : j = pv l.length i
    · right
      apply c3
      intro e'
      rw [e] at e'
      unfold pv nx at e'
      split at e' <;> split at e' <;> omega
    · exact .inl (c2 e)
/-- above both neighbours: above all -/
theorem Cvx.top {l : List P2} (h : Cvx l) (h3 : 3 ≤ l.length) {d : P2} {i j : Nat} (hi : i < l.length) (hj : j < l.length) (hne : j ≠ i)
    (hN : crs d (subP (tp l (nx l.length i)) (tp l i)) < 0) (hP : crs d (subP (tp l (pv l.length i)) (tp l i)) < 0) : crs d (subP (tp l j) (tp l i)) < 0 := by
  obtain ⟨a, b, c, e⟩ := h.at h3 hi hj hne
  exact corner_top a b c e hN hP
theorem Cvx.low {l : List P2} (h : Cvx l) (h3 : 3 ≤ l.length) {d : P2} {i j : Nat} (hi : i < l.length) (hj : j < l.length) (hne : j ≠ i)
    (hN : 0 < crs d (subP (tp l (nx l.length i)) (tp l i))) (hP : 0 < crs d (subP (tp l (pv l.length i)) (tp l i))) : 0 < crs d (subP (tp l j) (tp l i)) := by
  obtain ⟨a, b, c, e⟩ := h.at h3 hi hj hne
  exact corner_low a b c e hN hP
end K96

/-! M17: plain numbers: the farthest two corners' line is along no side. -/
namespace K96
open PySem DL
theorem three (d s y : P2) : dot d s * crs d y - crs d s * dot d y = (d.1 * d.1 + d.2 * d.2) * crs s y := by unfold dot crs; grind
theorem turn3_crs (a n x : P2) : turn3 a n x = crs (subP n a) (subP x n) := rfl
theorem crs_sub_anti (d p q : P2) : crs d (subP p q) = - crs d (subP q p) := by unfold crs subP; grind
theorem crs_sub_add (d p q r : P2) : crs d (subP p r) = crs d (subP p q) + crs d (subP q r) := by unfold crs subP; grind
/-- a way with one strictly highest and one strictly lowest corner is along no side -/
theorem no_flat {l : List P2} (h : Cvx l) (h3 : 3 ≤ l.length) {d : P2} {i m a : Nat} (hi : i < l.length) (hm : m < l.length) (him : i ≠ m) (ha : a < l.length)
    (hd : ¬ (d.1 = 0 ∧ d.2 = 0))
    (ht : ∀ j, j < l.length → j ≠ i → crs d (subP (tp l j) (tp l i)) < 0) (hb : ∀ j, j < l.length → j ≠ m → 0 < crs d (subP (tp l j) (tp l m))) :
    crs d (subP (tp l (nx l.length a)) (tp l a)) ≠ 0 := by
  intro e
  have hn := nx_lt ha
  have hna : nx l.length a ≠ a := by unfold nx; split <;> omega
  have e' : crs d (subP (tp l a) (tp l (nx l.length a))) = 0 := by rw [crs_sub_anti]; omega
  have i1 : i ≠ a := fun z => by subst z; have := ht _ hn hna; omega
  have i2 : i ≠ nx l.length a := fun z => by have := ht a ha (by omega); rw [z] at this; omega
  have m1 : m ≠ a := fun z => by subst z; have := hb _ hn hna; omega
  have m2 : m ≠ nx l.length a := fun z => by have := hb a ha (by omega); rw [z] at this; omega
  have t : ∀ x, x < l.length → x ≠ a → x ≠ nx l.length a → 0 < turn3 (tp l a) (tp l (nx l.length a)) (tp l x) := fun x hx x1 x2 => h.cyc ha hn hx (by unfold nx at x2 ⊢; split at x2 <;> simp_all <;> omega)
  have key : ∀ x, x < l.length → x ≠ a → x ≠ nx l.length a → 0 < dot d (subP (tp l (nx l.length a)) (tp l a)) * crs d (subP (tp l x) (tp l (nx l.length a))) := fun x hx x1 x2 => by
    have e3 := three d (subP (tp l (nx l.length a)) (tp l a)) (subP (tp l x) (tp l (nx l.length a)))
    rw [e, Int.zero_mul, Int.sub_zero] at e3
    rw [e3]
    exact Int.mul_pos (nrm_pos hd) (t x hx x1 x2)
  have ki := key i hi i1 i2
  have km := key m hm m1 m2
  have pi : 0 < crs d (subP (tp l i) (tp l (nx l.length a))) := by
    have := ht _ hn (fun z => i2 z.symm)
    rw [crs_sub_anti]; omega
  have pm : crs d (subP (tp l m) (tp l (nx l.length a))) < 0 := by
    have := hb _ hn (fun z => m2 z.symm)
    rw [crs_sub_anti]; omega
  generalize dot d (subP (tp l (nx l.length a)) (tp l a)) = D at *
  rcases Int.lt_trichotomy D 0 with z | z | z
  · have := Int.mul_neg_of_neg_of_pos z pi; omega
  · rw [z] at ki; simp at ki
  · have := Int.mul_neg_of_pos_of_neg z pm; omega
end K96

/-! M18: plain numbers: ways of one gap have the same highest and lowest corner. -/
namespace K96
open PySem DL
def sd (l : List P2) (a : Nat) : P2 := subP (tp l (nx l.length a)) (tp l a)
def Top (l : List P2) (d : P2) (i : Nat) : Prop := ∀ j, j < l.length → j ≠ i → crs d (subP (tp l j) (tp l i)) < 0
def Low (l : List P2) (d : P2) (i : Nat) : Prop := ∀ j, j < l.length → j ≠ i → 0 < crs d (subP (tp l j) (tp l i))
def ngP (d : P2) : P2 := (-d.1, -d.2)
theorem crs_ng (d x : P2) : crs (ngP d) x = - crs d x := by unfold crs ngP; simp only; grind
theorem low_ng {l : List P2} {d : P2} {i : Nat} : Low l d i ↔ Top l (ngP d) i := by
  unfold Low Top
  simp only [crs_ng]
  exact ⟨fun h j a b => by have := h j a b; omega, fun h j a b => by have := h j a b; omega⟩
theorem top_ng {l : List P2} {d : P2} {i : Nat} : Top l d i ↔ Low l (ngP d) i := by
  unfold Low Top
  simp only [crs_ng]
  exact ⟨fun h j a b => by have := h j a b; omega, fun h j a b => by have := h j a b; omega⟩
theorem nx_pv {n i : Nat} (h : i < n) : nx n (pv n i) = i := by unfold nx pv; split <;> split <;> omega
theorem pv_ne {n i : Nat} (h : i < n) (h2 : 2 ≤ n) : pv n i ≠ i := by unfold pv; split <;> omega
theorem nx_ne {n i : Nat} (h : i < n) (h2 : 2 ≤ n) : nx n i ≠ i := by unfold nx; split <;> omega
theorem top_move {l : List P2} (h : Cvx l) (h3 : 3 ≤ l.length) {d d' : P2} {i : Nat} (hi : i < l.length) (n2 : ∀ a, a < l.length → crs d' (sd l a) ≠ 0)
    (hs : ∀ a, a < l.length → (0 < crs d (sd l a) ↔ 0 < crs d' (sd l a))) (ht : Top l d i) : Top l d' i := by
  intro j hj hne
  refine h.top h3 hi hj hne ?_ ?_
  · have h1 := ht _ (nx_lt hi) (nx_ne hi (by omega))
    have h2 := hs i hi
    have h4 := n2 i hi
    unfold sd at h2 h4
    omega
  · have h1 := ht _ (pv_lt hi) (pv_ne hi (by omega))
    have h2 := hs _ (pv_lt hi)
    have h4 := n2 _ (pv_lt hi)
    unfold sd at h2 h4
    rw [nx_pv hi] at h2 h4
    have e1 := crs_sub_anti d (tp l i) (tp l (pv l.length i))
    have e2 := crs_sub_anti d' (tp l i) (tp l (pv l.length i))
    omega
theorem low_move {l : List P2} (h : Cvx l) (h3 : 3 ≤ l.length) {d d' : P2} {i : Nat} (hi : i < l.length) (n1 : ∀ a, a < l.length → crs d (sd l a) ≠ 0) (n2 : ∀ a, a < l.length → crs d' (sd l a) ≠ 0)
    (hs : ∀ a, a < l.length → (0 < crs d (sd l a) ↔ 0 < crs d' (sd l a))) (ht : Low l d i) : Low l d' i := by
  rw [low_ng] at ht ⊢
  refine top_move h h3 hi ?_ ?_ ht
  · intro a ha; rw [crs_ng]; have := n2 a ha; omega
  · intro a ha
    rw [crs_ng, crs_ng]
    have := hs a ha
    have := n1 a ha
    have := n2 a ha
    omega
/-- highest and lowest are the same two, or exchanged -/
theorem ends_move {l : List P2} (h : Cvx l) (h3 : 3 ≤ l.length) {d d' : P2} {i m : Nat} (hi : i < l.length) (hm : m < l.length) (n1 : ∀ a, a < l.length → crs d (sd l a) ≠ 0) (n2 : ∀ a, a < l.length → crs d' (sd l a) ≠ 0)
    (hs : (∀ a, a < l.length → (0 < crs d (sd l a) ↔ 0 < crs d' (sd l a))) ∨ (∀ a, a < l.length → (0 < crs d (sd l a) ↔ crs d' (sd l a) < 0)))
    (ht : Top l d i) (hl : Low l d m) : (Top l d' i ∧ Low l d' m) ∨ (Low l d' i ∧ Top l d' m) := by
  rcases hs with hs | hs
  · exact .inl ⟨top_move h h3 hi n2 hs ht, low_move h h3 hm n1 n2 hs hl⟩
  · right
    have n3 : ∀ a, a < l.length → crs (ngP d') (sd l a) ≠ 0 := fun a ha => by rw [crs_ng]; have := n2 a ha; omega
    have hs' : ∀ a, a < l.length → (0 < crs d (sd l a) ↔ 0 < crs (ngP d') (sd l a)) := fun a ha => by rw [crs_ng, hs a ha]; omega
    exact ⟨low_ng.mpr (top_move h h3 hi n3 hs' ht), top_ng.mpr (low_move h h3 hm n1 n3 hs' hl)⟩
/-- the two farthest are highest and lowest along their line's perpendicular -/
theorem far_ends {l : List P2} {p q : Nat} (hp : p < l.length) (hq : q < l.length) (hinj : ∀ a b, a < l.length → b < l.length → tp l a = tp l b → a = b)
    (hf : ∀ a b, a < l.length → b < l.length → far2 (tp l a) (tp l b) ≤ far2 (tp l p) (tp l q)) {d : P2} {k : Int} (hk : 0 < k)
    (hd : ∀ x : P2, k * crs d x = - dot (subP (tp l q) (tp l p)) x) : Low l d q ∧ Top l d p := by
  constructor
  · intro j hj hne
    have h1 := far_dot (p := tp l p) (q := tp l q) (x := tp l j) (hf p j hp hj) (fun e => hne (hinj _ _ hj hq e))
    have h2 := hd (subP (tp l j) (tp l q))
    exact (mul_pos' hk).mp (by omega)
  · intro j hj hne
    have h1 := far_dot (p := tp l q) (q := tp l p) (x := tp l j) (by rw [far_comm (tp l q) (tp l p)]; exact hf q j hq hj) (fun e => hne (hinj _ _ hj hp e))
    have h2 := hd (subP (tp l j) (tp l p))
    have h4 : dot (subP (tp l p) (tp l q)) (subP (tp l j) (tp l p)) = - dot (subP (tp l q) (tp l p)) (subP (tp l j) (tp l p)) := by unfold dot subP; grind
    have h5 : 0 < k * - crs d (subP (tp l j) (tp l p)) := by rw [Int.mul_neg]; omega
    have := (mul_pos' hk).mp h5
    omega
end K96

/-! M19: plain numbers: the sides' ways, and the sides by them. -/
namespace K96
open PySem DL
/-- all ways of the sides, in order -/
def ways (l : List P2) : List P2 := lawOrd ((List.range l.length).map (fun a => dirn (sd l a).1 (sd l a).2))
theorem mem_ways {l : List P2} {w : P2} : w ∈ ways l ↔ ∃ a, a < l.length ∧ dirn (sd l a).1 (sd l a).2 = w := by
  unfold ways
  rw [mem_lawOrd, List.mem_map]
  constructor
  · rintro ⟨a, ha, e⟩; exact ⟨a, List.mem_range.mp ha, e⟩
  · rintro ⟨a, ha, e⟩; exact ⟨a, List.mem_range.mpr ha, e⟩
def Inj (l : List P2) : Prop := ∀ a b, a < l.length → b < l.length → tp l a = tp l b → a = b
theorem sd_nz {l : List P2} (h3 : 3 ≤ l.length) (hi : Inj l) {a : Nat} (ha : a < l.length) : ¬ ((sd l a).1 = 0 ∧ (sd l a).2 = 0) := by
  rintro ⟨e1, e2⟩
  unfold sd subP at e1 e2
  simp only at e1 e2
  exact nx_ne ha (by omega) (hi _ _ (nx_lt ha) ha (Prod.ext (by omega) (by omega)))
theorem ways_dir {l : List P2} (h3 : 3 ≤ l.length) (hi : Inj l) : ∀ w ∈ ways l, Dir w := by
  intro w hw
  obtain ⟨a, ha, rfl⟩ := mem_ways.mp hw
  exact dirn_dir (sd_nz h3 hi ha)
theorem ways_srt {l : List P2} (h3 : 3 ≤ l.length) (hi : Inj l) : Srt (ways l) := srt_lawOrd (fun y hy => ways_dir h3 hi y (mem_lawOrd.mpr hy))
theorem ways_pos {l : List P2} (h3 : 3 ≤ l.length) : 0 < (ways l).length := List.length_pos_of_mem (mem_ways.mpr ⟨0, by omega, rfl⟩)
/-- a side is a multiple of its way -/
theorem sd_way {l : List P2} (h3 : 3 ≤ l.length) (hi : Inj l) {a : Nat} (ha : a < l.length) : ∃ w ∈ ways l, ∃ m : Int, m ≠ 0 ∧ ∀ d, crs d (sd l a) = m * crs d w := by
  obtain ⟨_, m, hm, e1, e2, _⟩ := dirn_spec (sd_nz h3 hi ha)
  refine ⟨_, mem_ways.mpr ⟨a, ha, rfl⟩, m, hm, fun d => ?_⟩
  generalize dirn (sd l a).1 (sd l a).2 = w at *
  have : crs d (sd l a) = d.1 * (sd l a).2 - d.2 * (sd l a).1 := rfl
  rw [this, e1, e2]
  unfold crs; grind
theorem not_way_nz {l : List P2} (h3 : 3 ≤ l.length) (hi : Inj l) {d : P2} (hd : Dir d) (hn : d ∉ ways l) {a : Nat} (ha : a < l.length) : crs d (sd l a) ≠ 0 := by
  obtain ⟨w, hw, m, hm, e⟩ := sd_way h3 hi ha
  rw [e]
  intro z
  rcases Int.mul_eq_zero.mp z with z | z
  · exact hm z
  · exact hn (dir_uniq hd (ways_dir h3 hi w hw) z ▸ hw)
theorem nz_not_way {l : List P2} (h3 : 3 ≤ l.length) (hi : Inj l) {d : P2} (h : ∀ a, a < l.length → crs d (sd l a) ≠ 0) : d ∉ ways l := by
  intro hm
  obtain ⟨a, ha, e⟩ := mem_ways.mp hm
  obtain ⟨_, m, hm', e1, e2, _⟩ := dirn_spec (sd_nz h3 hi ha)
  rw [e] at e1 e2
  apply h a ha
  have : crs d (sd l a) = d.1 * (sd l a).2 - d.2 * (sd l a).1 := rfl
  rw [this, e1, e2]; grind
theorem sign_mul {m x y : Int} (hm : m ≠ 0) (hx : x ≠ 0) (hy : y ≠ 0) (h : 0 < x ↔ 0 < y) : 0 < m * x ↔ 0 < m * y := by
  rcases Int.lt_or_gt_of_ne hm with z | z
  · have a : ∀ t : Int, t ≠ 0 → (0 < m * t ↔ ¬ 0 < t) := fun t ht => by
      rcases Int.lt_or_gt_of_ne ht with w | w
      · have := Int.mul_pos_of_neg_of_neg z w; omega
      · have := Int.mul_neg_of_neg_of_pos z w; omega
    rw [a x hx, a y hy, h]
  · rw [mul_pos' z, mul_pos' z, h]
/-- ways of one gap: the sides rise and fall alike, or the other way round -/
theorem gap_sd {l : List P2} (h3 : 3 ≤ l.length) (hi : Inj l) {d d' : P2} (hd : Dir d) (hd' : Dir d') (hn : d ∉ ways l) (hn' : d' ∉ ways l) (he : room (ways l) d = room (ways l) d') :
    (∀ a, a < l.length → (0 < crs d (sd l a) ↔ 0 < crs d' (sd l a))) ∨ (∀ a, a < l.length → (0 < crs d (sd l a) ↔ crs d' (sd l a) < 0)) := by
  rcases gap_sides (ways_srt h3 hi) (ways_dir h3 hi) hd hd' hn hn' he with h | h
  · left
    intro a ha
    obtain ⟨w, hw, m, hm, e⟩ := sd_way h3 hi ha
    have z1 := not_way_nz h3 hi hd hn ha
    have z2 := not_way_nz h3 hi hd' hn' ha
    rw [e] at z1 z2 ⊢
    rw [e]
    have y1 : crs d w ≠ 0 := fun z => z1 (by rw [z, Int.mul_zero])
    have y2 : crs d' w ≠ 0 := fun z => z2 (by rw [z, Int.mul_zero])
    refine sign_mul hm y1 y2 ?_
    have := h w hw
    unfold lt at this
    have a1 := crs_anti w d
    have a2 := crs_anti w d'
    omega
  · right
    intro a ha
    obtain ⟨w, hw, m, hm, e⟩ := sd_way h3 hi ha
    have z1 := not_way_nz h3 hi hd hn ha
    have z2 := not_way_nz h3 hi hd' hn' ha
    rw [e] at z1 z2 ⊢
    rw [e]
    have y1 : crs d w ≠ 0 := fun z => z1 (by rw [z, Int.mul_zero])
    have y2 : crs d' w ≠ 0 := fun z => z2 (by rw [z, Int.mul_zero])
    have h5 : 0 < m * crs d w ↔ 0 < m * -crs d' w := by
      refine sign_mul hm y1 (by omega) ?_
      have := h w hw
      unfold lt at this
      have a1 := crs_anti w d
      have a2 := crs_anti w d'
      omega
    rw [h5, Int.mul_neg]; omega
end K96

/-! M20: plain numbers: a ring has a top. -/
namespace K96
open PySem DL
theorem max1 (g : Nat → Int) : ∀ n, 0 < n → ∃ p, p < n ∧ ∀ a, a < n → g a ≤ g p := by
  intro n
  induction n with
  | zero => intro h; omega
  | succ n ih =>
    intro _
    by_cases h0 : n = 0
    · subst h0; exact ⟨0, by omega, fun a ha => by have : a = 0 := by omega
                                                   subst this; exact Int.le_refl _⟩
    · obtain ⟨p, hp, h⟩ := ih (by omega)
      by_cases hg : g p ≤ g n
      · refine ⟨n, by omega, fun a ha => ?_⟩
        by_cases e : a = n
        · subst e; exact Int.le_refl _
        · exact Int.le_trans (h a (by omega)) hg
      · refine ⟨p, by omega, fun a ha => ?_⟩
        by_cases e : a = n
        · subst e; omega
        · exact h a (by omega)
theorem max2 (g : Nat → Nat → Int) (n : Nat) (hn : 0 < n) : ∃ p q, p < n ∧ q < n ∧ ∀ a b, a < n → b < n → g a b ≤ g p q := by
  have h1 : ∀ a, ∃ q, q < n ∧ ∀ b, b < n → g a b ≤ g a q := fun a => max1 (g a) n hn
  obtain ⟨p, hp, h⟩ := max1 (fun a => g a (Classical.choose (h1 a))) n hn
  refine ⟨p, Classical.choose (h1 p), hp, (Classical.choose_spec (h1 p)).1, fun a b ha hb => ?_⟩
  exact Int.le_trans ((Classical.choose_spec (h1 a)).2 b hb) (h a ha)
/-- the two farthest, lowest and highest along one direction -/
theorem far_two {l : List P2} (h3 : 3 ≤ l.length) (hi : Inj l) : ∃ d p q, Dir d ∧ p < l.length ∧ q < l.length ∧ p ≠ q ∧ Top l d p ∧ Low l d q ∧
    ¬ ((tp l q).2 - (tp l p).2 = 0 ∧ (tp l p).1 - (tp l q).1 = 0) ∧ crs ((tp l q).2 - (tp l p).2, (tp l p).1 - (tp l q).1) d = 0 := by
  obtain ⟨p, q, hp, hq, hf⟩ := max2 (fun a b => far2 (tp l a) (tp l b)) l.length (by omega)
  have hne : tp l p ≠ tp l q := by
    intro e
    have h1 := hf 0 1 (by omega) (by omega)
    have h2 : far2 (tp l p) (tp l q) = 0 := by rw [e]; unfold far2; grind
    have h4 : 0 < far2 (tp l 0) (tp l 1) := by
      have : ¬ ((subP (tp l 1) (tp l 0)).1 = 0 ∧ (subP (tp l 1) (tp l 0)).2 = 0) := by
        rintro ⟨a, b⟩
        unfold subP at a b
        (try simp only at a b)
        have := hi 1 0 (by omega) (by omega) (Prod.ext (by omega) (by omega))
        omega
      exact nrm_pos this
    (try simp only at h1)
    omega
  have hpq : p ≠ q := fun e => hne (by rw [e])
  have hnz : ¬ ((tp l q).2 - (tp l p).2 = 0 ∧ (tp l p).1 - (tp l q).1 = 0) := by
    rintro ⟨a, b⟩; exact hne (Prod.ext (by omega) (by omega))
  obtain ⟨hd, m, hm, e1, e2, _⟩ := dirn_spec hnz
  generalize hdd : dirn ((tp l q).2 - (tp l p).2) ((tp l p).1 - (tp l q).1) = d at *
  have hc : crs ((tp l q).2 - (tp l p).2, (tp l p).1 - (tp l q).1) d = 0 := by unfold crs; simp only [e1, e2]; grind
  have hx : ∀ x : P2, m * crs d x = dot (subP (tp l q) (tp l p)) x := fun x => by
    have : m * crs d x = (m * d.1) * x.2 - (m * d.2) * x.1 := by unfold crs; grind
    rw [this, ← e1, ← e2]; unfold dot subP; grind
  rcases Int.lt_or_gt_of_ne hm with z | z
  · obtain ⟨a, b⟩ := far_ends hp hq hi (fun a b ha hb => hf a b ha hb) (d := d) (k := -m) (by omega) (fun x => by rw [Int.neg_mul, hx])
    exact ⟨d, p, q, hd, hp, hq, hpq, b, a, hnz, hc⟩
  · obtain ⟨a, b⟩ := far_ends hq hp hi (fun a b ha hb => by rw [far_comm (tp l q)]; exact hf a b ha hb) (d := d) (k := m) z (fun x => by rw [hx]; unfold dot subP; grind)
    refine ⟨d, q, p, hd, hq, hp, fun e => hpq e.symm, b, a, ?_, ?_⟩
    · rintro ⟨c1, c2⟩; exact hnz ⟨by omega, by omega⟩
    · unfold crs at hc ⊢; (try simp only at hc ⊢); grind
/-- some gap's top is amid it -/
theorem top_some {l : List P2} (h : Cvx l) (h3 : 3 ≤ l.length) (hi : Inj l) (f : Nat → P2)
    (hf : ∀ k, k < (ways l).length → ∀ i m, i < l.length → m < l.length → Top l (betw (tp (ways l) k) (tp (ways l) ((k + 1) % (ways l).length))) i → Low l (betw (tp (ways l) k) (tp (ways l) ((k + 1) % (ways l).length))) m → f k = dirn ((tp l m).2 - (tp l i).2) ((tp l i).1 - (tp l m).1)) :
    0 < (ups (ways l) f).length := by
  obtain ⟨d, p, q, hd, hp, hq, hpq, ht, hl, hnz, hc⟩ := far_two h3 hi
  have ws := ways_srt h3 hi
  have wl := ways_dir h3 hi
  have w0 := ways_pos h3
  have n1 : ∀ a, a < l.length → crs d (sd l a) ≠ 0 := fun a ha => no_flat h h3 hp hq hpq ha (dir_nz hd) ht hl
  have hn := nz_not_way h3 hi n1
  have hk := room_lt (l := ways l) d w0
  have hin := (inRoom_iff ws wl hd hk).mpr rfl
  generalize hkk : room (ways l) d = k at *
  have hk1 : (k + 1) % (ways l).length < (ways l).length := Nat.mod_lt _ w0
  have am : amid (tp (ways l) k) (tp (ways l) ((k + 1) % (ways l).length)) d := by
    rcases hin with z | z
    · exact absurd (z ▸ tp_mem hk) hn
    · exact z
  have d1 := wl _ (tp_mem hk)
  have d2 := wl _ (tp_mem hk1)
  have hm := betw_dir d1 d2
  obtain ⟨r1, r2⟩ := up_room ws wl hm hk (betw_amid d1 d2)
  have n2 : ∀ a, a < l.length → crs (betw (tp (ways l) k) (tp (ways l) ((k + 1) % (ways l).length))) (sd l a) ≠ 0 := fun a ha => not_way_nz h3 hi hm r2 ha
  have hg := gap_sd h3 hi hd hm hn r2 (by rw [r1, hkk])
  have hfd : f k = d := by
    rcases ends_move h h3 hp hq n1 n2 hg ht hl with ⟨a, b⟩ | ⟨a, b⟩
    · rw [hf k hk p q hp hq a b]
      exact dirn_eq hnz hd hc
    · rw [hf k hk q p hq hp b a]
      refine dirn_eq (fun c => hnz ⟨by omega, by omega⟩) hd ?_
      unfold crs at hc ⊢; (try simp only at hc ⊢); grind
  exact List.length_pos_of_mem (mem_ups.mpr ⟨k, hk, by rw [hfd]; exact am, rfl⟩)
end K96

/-! M21: plain numbers: convex corners are distinct. -/
namespace K96
open PySem DL
theorem Cvx.ne {l : List P2} (h : Cvx l) (h3 : 3 ≤ l.length) {a b : Nat} (hab : a < b) (hb : b < l.length) : tp l a ≠ tp l b := by
  intro e
  obtain ⟨c, hc, hca, hcb⟩ : ∃ c, c < l.length ∧ c ≠ a ∧ c ≠ b := by
    by_cases h0 : a = 0
    · by_cases h1 : b = 1
      · exact ⟨2, by omega, by omega, by omega⟩
      · exact ⟨1, by omega, by omega, by omega⟩
    · exact ⟨0, by omega, by omega, by omega⟩
  have z := turn3_same (tp l b) (tp l c)
  have z' := turn3_same (tp l c) (tp l b)
  rcases Nat.lt_trichotomy c a with w | w | w
  · have := h c a b w hab hb
    rw [e, z'.1] at this; omega
  · exact hca w
  · rcases Nat.lt_trichotomy c b with v | v | v
    · have := h a c b w v hb
      rw [e, z.2.2] at this; omega
    · exact hcb v
    · have := h a b c hab v hc
      rw [e, z.2.1] at this; omega
theorem Cvx.inj {l : List P2} (h : Cvx l) (h3 : 3 ≤ l.length) : Inj l := by
  intro a b ha hb e
  rcases Nat.lt_trichotomy a b with w | w | w
  · exact absurd e (h.ne h3 w hb)
  · exact w
  · exact absurd e.symm (h.ne h3 w ha)
end K96

/-! M22: plain numbers: gift wrapping. -/
namespace K96
open PySem DL
def n1 (v : P2) : Int := (v.1.natAbs : Int) + (v.2.natAbs : Int)
/-- whether a spot is taken instead of the goal -/
def betterG (h g s : P2) : Bool := decide (crs (subP g h) (subP s h) < 0) || (decide (crs (subP g h) (subP s h) = 0) && (decide (n1 (subP s h) > n1 (subP g h)) && decide (dot (subP g h) (subP s h) > 0)))
def scanG (h : P2) : P2 → List P2 → P2
  | g, [] => g
  | g, s :: r => scanG h (if betterG h g s = true then s else g) r
def firstG (rows : List P2) (h : P2) : P2 := if h ≠ tp rows 0 then tp rows 0 else tp rows 1
def wrapG (rows : List P2) : Nat → P2 → List P2 → List P2
  | 0, _, found => found
  | n + 1, h, found => if scanG h (firstG rows h) rows = tp rows 0 then found ++ [h] else wrapG rows n (scanG h (firstG rows h) rows) (found ++ [h])

/-- strictly extreme along d -/
def Ext (S : List P2) (d h : P2) : Prop := ∀ s ∈ S, s ≠ h → 0 < dot d (subP s h)
theorem half (d u v w : P2) : dot d v * crs u w = dot d w * crs u v + dot d u * crs v w := by
  unfold dot crs; grind
theorem half_nn {d u v w : P2} (hu : 0 < dot d u) (hv : 0 < dot d v) (hw : 0 < dot d w) (h1 : 0 ≤ crs u v) (h2 : 0 ≤ crs v w) : 0 ≤ crs u w := by
  have e := half d u v w
  have a := Int.mul_nonneg (Int.le_of_lt hw) h1
  have b := Int.mul_nonneg (Int.le_of_lt hu) h2
  apply Int.not_lt.mp
  intro c
  have := Int.mul_neg_of_pos_of_neg hv c
  omega
theorem half_pos {d u v w : P2} (hu : 0 < dot d u) (hv : 0 < dot d v) (hw : 0 < dot d w) (h1 : 0 ≤ crs u v) (h2 : 0 ≤ crs v w) (h3 : 0 < crs u v ∨ 0 < crs v w) : 0 < crs u w := by
  have e := half d u v w
  have a := Int.mul_nonneg (Int.le_of_lt hw) h1
  have b := Int.mul_nonneg (Int.le_of_lt hu) h2
  have c : 0 < dot d v * crs u w := by
    rcases h3 with h | h
    · have := Int.mul_pos hw h; omega
    · have := Int.mul_pos hu h; omega
  exact Int.pos_of_mul_pos_left (by rw [Int.mul_comm]; exact c) hv
/-- parallel and to one side: the longer one's size -/
theorem par_dot {d u v : P2} (hu : 0 < dot d u) (hv : 0 < dot d v) (h : crs u v = 0) : 0 < dot u v := by
  -- u * (d.v) = v * (d.u)
  have e1 : dot d v * u.1 = dot d u * v.1 := by
    have : dot d v * u.1 - dot d u * v.1 = d.2 * (u.1 * v.2 - u.2 * v.1) := by unfold dot; grind
    unfold crs at h; rw [h] at this; omega
  have e2 : dot d v * u.2 = dot d u * v.2 := by
    have : dot d v * u.2 - dot d u * v.2 = - (d.1 * (u.1 * v.2 - u.2 * v.1)) := by unfold dot; grind
    unfold crs at h; rw [h] at this; omega
  have e : dot d v * dot u v = dot d u * (v.1 * v.1 + v.2 * v.2) := by
    unfold dot at e1 e2 ⊢; grind
  have hn : 0 < v.1 * v.1 + v.2 * v.2 := by
    have s : ∀ x : Int, 0 ≤ x * x := fun x => by
      rcases Int.le_total 0 x with z | z
      · exact Int.mul_nonneg z z
      · have := Int.mul_nonneg_of_nonpos_of_nonpos z z; exact this
    have s1 := s v.1
    have s2 := s v.2
    by_cases z : v.1 * v.1 + v.2 * v.2 = 0
    · have z1 : v.1 = 0 := by
        rcases Int.mul_eq_zero.mp (show v.1 * v.1 = 0 by omega) with h | h <;> exact h
      have z2 : v.2 = 0 := by
        rcases Int.mul_eq_zero.mp (show v.2 * v.2 = 0 by omega) with h | h <;> exact h
      unfold dot at hv; rw [z1, z2] at hv; simp at hv
    · omega
  have := Int.mul_pos hu hn
  rw [← e] at this
  exact Int.pos_of_mul_pos_left (by rw [Int.mul_comm]; exact this) hv
/-- sizes of parallels go by d -/
theorem par_n1 {d u v : P2} (hu : 0 < dot d u) (hv : 0 < dot d v) (h : crs u v = 0) : dot d v * n1 u = dot d u * n1 v := by
  have e1 : dot d v * u.1 = dot d u * v.1 := by
    have : dot d v * u.1 - dot d u * v.1 = d.2 * (u.1 * v.2 - u.2 * v.1) := by unfold dot; grind
    unfold crs at h; rw [h] at this; omega
  have e2 : dot d v * u.2 = dot d u * v.2 := by
    have : dot d v * u.2 - dot d u * v.2 = - (d.1 * (u.1 * v.2 - u.2 * v.1)) := by unfold dot; grind
    unfold crs at h; rw [h] at this; omega
  have a : ∀ (k x : Int), 0 < k → k * (x.natAbs : Int) = ((k * x).natAbs : Int) := fun k x hk => by
    rw [Int.natAbs_mul]
    rw [Int.natCast_mul, show (k.natAbs : Int) = k by omega]
  unfold n1
  rw [Int.mul_add, Int.mul_add, a _ _ hv, a _ _ hv, a _ _ hu, a _ _ hu, e1, e2]
/-- what the goal is worth behind a scan -/
def BestG (h g : P2) (s : P2) : Prop := 0 ≤ crs (subP g h) (subP s h) ∧ (crs (subP g h) (subP s h) = 0 → n1 (subP s h) ≤ n1 (subP g h))
theorem best_self (h g : P2) : BestG h g g := ⟨by unfold crs; grind, fun _ => Int.le_refl _⟩
theorem best_trans {d h g s t : P2} (hg : 0 < dot d (subP g h)) (hs : 0 < dot d (subP s h)) (ht : 0 < dot d (subP t h)) (h1 : BestG h s g) (h2 : BestG h g t) : BestG h s t := by
  refine ⟨half_nn hs hg ht h1.1 h2.1, fun e => ?_⟩
  have z1 : crs (subP s h) (subP g h) = 0 := by
    apply Int.le_antisymm _ h1.1
    apply Int.not_lt.mp; intro c
    have := half_pos hs hg ht h1.1 h2.1 (.inl c); omega
  have z2 : crs (subP g h) (subP t h) = 0 := by
    apply Int.le_antisymm _ h2.1
    apply Int.not_lt.mp; intro c
    have := half_pos hs hg ht h1.1 h2.1 (.inr c); omega
  have := h1.2 z1; have := h2.2 z2; omega
theorem best_step {d h g s : P2} (hg : 0 < dot d (subP g h)) (hs : 0 < dot d (subP s h)) : (betterG h g s = true → BestG h s g) ∧ (betterG h g s = false → BestG h g s) := by
  have an : crs (subP s h) (subP g h) = - crs (subP g h) (subP s h) := by unfold crs; grind
  have hp := fun e => par_dot hg hs e
  unfold betterG BestG
  constructor
  · intro b
    simp only [Bool.or_eq_true, Bool.and_eq_true, decide_eq_true_eq] at b
    rw [an]
    constructor
    · omega
    · intro e; omega
  · intro b
    simp only [Bool.or_eq_false_iff, Bool.and_eq_false_iff, decide_eq_false_iff_not] at b
    refine ⟨by omega, fun e => ?_⟩
    have := hp e
    omega
theorem scan_best {d h : P2} : ∀ (l : List P2) (g : P2), (∀ s ∈ l, s ≠ h → 0 < dot d (subP s h)) → 0 < dot d (subP g h) →
    (scanG h g l = g ∨ scanG h g l ∈ l) ∧ 0 < dot d (subP (scanG h g l) h) ∧ BestG h (scanG h g l) g ∧ ∀ s ∈ l, s ≠ h → BestG h (scanG h g l) s
  | [], g, _, hg => ⟨.inl rfl, hg, best_self h g, fun s hs => by cases hs⟩
  | s :: r, g, hl, hg => by
    unfold scanG
    by_cases hsh : s = h
    · have nb : betterG h g s = false := by
        subst hsh
        unfold betterG
        have z : subP s s = (0, 0) := by unfold subP; simp
        rw [z]
        have : crs (subP g s) (0, 0) = 0 := by unfold crs; grind
        have : dot (subP g s) (0, 0) = 0 := by unfold dot; grind
        simp [*]
      rw [nb, if_neg (by decide)]
      obtain ⟨a, b, c, e⟩ := scan_best r g (fun x hx => hl x (List.mem_cons_of_mem _ hx)) hg
      refine ⟨a.imp id (List.mem_cons_of_mem _), b, c, fun x hx hne => ?_⟩
      rcases List.mem_cons.mp hx with z | z
      · exact absurd (z.trans hsh) hne
      · exact e x z hne
    · have hs := hl s (List.mem_cons_self ..) hsh
      obtain ⟨b1, b2⟩ := best_step (s := s) hg hs
      by_cases hb : betterG h g s = true
      · rw [if_pos hb]
        obtain ⟨a, b, c, e⟩ := scan_best r s (fun x hx => hl x (List.mem_cons_of_mem _ hx)) hs
        refine ⟨.inr ?_, b, best_trans hs b hg c (b1 hb), fun x hx hne => ?_⟩
        · rcases a with z | z
          · rw [z]; exact List.mem_cons_self ..
          · exact List.mem_cons_of_mem _ z
        · rcases List.mem_cons.mp hx with z | z
          · rw [z]; exact c
          · exact e x z hne
      · rw [if_neg hb]
        obtain ⟨a, b, c, e⟩ := scan_best r g (fun x hx => hl x (List.mem_cons_of_mem _ hx)) hg
        refine ⟨a.imp id (List.mem_cons_of_mem _), b, c, fun x hx hne => ?_⟩
        rcases List.mem_cons.mp hx with z | z
        · rw [z]; exact best_trans hg b hs c (b2 (by simpa using hb))
        · exact e x z hne
/-- an upper bound of some ints -/
theorem bound (f : P2 → Int) : ∀ S : List P2, ∃ M : Int, 0 < M ∧ ∀ s ∈ S, f s < M
  | [] => ⟨1, by decide, fun s hs => by cases hs⟩
  | x :: S => by
    obtain ⟨M, h1, h2⟩ := bound f S
    refine ⟨M + (f x).natAbs + 1, by omega, fun s hs => ?_⟩
    rcases List.mem_cons.mp hs with z | z
    · rw [z]; omega
    · have := h2 s z; omega
/-- the goal is strictly extreme, too -/
theorem next_ext {S : List P2} {d h g : P2} (hd : Ext S d h) (hg : 0 < dot d (subP g h)) (hb : ∀ s ∈ S, s ≠ h → BestG h g s) : ∃ d', Ext S d' g := by
  obtain ⟨M, hM, hS⟩ := bound (fun s => dot (subP g h) (subP s g)) S
  -- d' = M * perp(e) - e
  refine ⟨(-(M * (subP g h).2) - (subP g h).1, M * (subP g h).1 - (subP g h).2), fun s hs hne => ?_⟩
  have e : dot (-(M * (subP g h).2) - (subP g h).1, M * (subP g h).1 - (subP g h).2) (subP s g) = M * crs (subP g h) (subP s h) - dot (subP g h) (subP s g) := by
    unfold dot crs subP; grind
  rw [e]
  by_cases hsh : s = h
  · have z : crs (subP g h) (subP s h) = 0 := by rw [hsh]; unfold crs subP; grind
    have : dot (subP g h) (subP s g) = - ((subP g h).1 * (subP g h).1 + (subP g h).2 * (subP g h).2) := by rw [hsh]; unfold dot subP; grind
    have hn : 0 < dot (subP g h) (subP g h) := par_dot hg hg (by unfold crs; grind)
    unfold dot at hn
    rw [z, this]; omega
  · have b := hb s hs hsh
    have hs0 := hd s hs hsh
    rcases Int.lt_or_eq_of_le b.1 with z | z
    · have h1 := hS s hs
      have h2 : M * 1 ≤ M * crs (subP g h) (subP s h) := Int.mul_le_mul_of_nonneg_left (by omega) (Int.le_of_lt hM)
      omega
    · rw [← z]
      have hn := b.2 z.symm
      have hp := par_n1 hg hs0 z.symm
      -- dot d s <= dot d g
      have g1 : 0 < n1 (subP g h) := by
        have : subP g h ≠ (0, 0) := fun q => by rw [q] at hg; unfold dot at hg; simp at hg
        have : ¬ ((subP g h).1 = 0 ∧ (subP g h).2 = 0) := fun q => this (Prod.ext q.1 q.2)
        unfold n1; omega
      have le : dot d (subP s h) ≤ dot d (subP g h) := by
        apply Int.not_lt.mp; intro c
        have l1 : dot d (subP g h) * n1 (subP s h) ≤ dot d (subP g h) * n1 (subP g h) := Int.mul_le_mul_of_nonneg_left hn (Int.le_of_lt hg)
        have l2 : dot d (subP g h) * n1 (subP g h) < dot d (subP s h) * n1 (subP g h) := Int.mul_lt_mul_of_pos_right c g1
        omega
      -- (s - g) is a multiple of (g - h), backwards
      have ex : dot d (subP g h) * dot (subP g h) (subP s g) = (dot d (subP s h) - dot d (subP g h)) * dot (subP g h) (subP g h) := by
        have z' := z.symm
        unfold crs at z'
        have : dot d (subP g h) * dot (subP g h) (subP s g) - (dot d (subP s h) - dot d (subP g h)) * dot (subP g h) (subP g h) = (d.1 * (subP g h).2 - d.2 * (subP g h).1) * ((subP g h).1 * (subP s h).2 - (subP g h).2 * (subP s h).1) := by
          unfold dot subP; grind
        rw [z', Int.mul_zero] at this; omega
      have hnn : 0 < dot (subP g h) (subP g h) := par_dot hg hg (by unfold crs; grind)
      have lt : dot d (subP s h) ≠ dot d (subP g h) := fun q => by
        -- then s = g
        apply hne
        have e1 : dot d (subP g h) * ((subP s h).1 - (subP g h).1) = 0 := by
          have : dot d (subP g h) * (subP s h).1 - dot d (subP s h) * (subP g h).1 = d.2 * ((subP g h).2 * (subP s h).1 - (subP g h).1 * (subP s h).2) := by unfold dot; grind
          have z' := z.symm
          unfold crs at z'
          rw [show (subP g h).2 * (subP s h).1 - (subP g h).1 * (subP s h).2 = 0 by omega, q] at this
          rw [Int.mul_sub]; omega
        have e2 : dot d (subP g h) * ((subP s h).2 - (subP g h).2) = 0 := by
          have : dot d (subP g h) * (subP s h).2 - dot d (subP s h) * (subP g h).2 = d.1 * ((subP g h).1 * (subP s h).2 - (subP g h).2 * (subP s h).1) := by unfold dot; grind
          have z' := z.symm
          unfold crs at z'
          rw [z', q] at this
          rw [Int.mul_sub]; omega
        have f1 := (Int.mul_eq_zero.mp e1).resolve_left (by omega)
        have f2 := (Int.mul_eq_zero.mp e2).resolve_left (by omega)
        unfold subP at f1 f2
        simp only at f1 f2
        exact Prod.ext (by omega) (by omega)
      have : dot d (subP g h) * dot (subP g h) (subP s g) < 0 := by
        rw [ex]; exact Int.mul_neg_of_neg_of_pos (by omega) hnn
      have : dot (subP g h) (subP s g) < 0 := by
        apply Int.not_le.mp; intro c
        have := Int.mul_nonneg (Int.le_of_lt hg) c
        omega
      omega
end K96

/-! M23: plain numbers: gift wrapping gives convex corners. -/
namespace K96
open PySem DL
def lexL (p q : P2) : Prop := p.1 < q.1 ∨ (p.1 = q.1 ∧ p.2 < q.2)
theorem tp_snoc_lt {l : List P2} {x : P2} {i : Nat} (h : i < l.length) : tp (l ++ [x]) i = tp l i := by
  unfold tp; rw [List.getD_eq_getElem?_getD, List.getD_eq_getElem?_getD, List.getElem?_append_left h]
theorem tp_snoc_eq {l : List P2} {x : P2} {i : Nat} (h : i = l.length) : tp (l ++ [x]) i = x := by
  subst h; unfold tp; rw [List.getD_eq_getElem?_getD, List.getElem?_append_right (Nat.le_refl _)]; simp
theorem tp_mem' {l : List P2} {i : Nat} (h : i < l.length) : tp l i ∈ l := by
  unfold tp; rw [List.getD_eq_getElem?_getD, List.getElem?_eq_getElem h]; exact List.getElem_mem h
theorem mem_tp' {l : List P2} {x : P2} (h : x ∈ l) : ∃ k, k < l.length ∧ tp l k = x := by
  obtain ⟨k, hk, e⟩ := List.getElem_of_mem h
  refine ⟨k, hk, ?_⟩
  unfold tp; rw [List.getD_eq_getElem?_getD, List.getElem?_eq_getElem hk]; exact e
structure Walk (S : List P2) (l : List P2) : Prop where
  ext : ∀ x ∈ l, x ∈ S ∧ ∃ d, Ext S d x
  edge : ∀ i, i + 1 < l.length → tp l (i + 1) ≠ tp l i ∧ ∀ s ∈ S, s ≠ tp l i → BestG (tp l i) (tp l (i + 1)) s
  fst : ∀ i, 0 < i → i < l.length → tp l i ≠ tp l 0
theorem Walk.side {S l : List P2} (w : Walk S l) {i j : Nat} (hi : i < l.length) (hj : j + 1 < l.length) (h1 : tp l j ≠ tp l i) (h2 : tp l (j + 1) ≠ tp l i) :
    0 < crs (subP (tp l j) (tp l i)) (subP (tp l (j + 1)) (tp l i)) := by
  obtain ⟨mi, di, hdi⟩ := w.ext _ (tp_mem' hi)
  obtain ⟨mj, dj, hdj⟩ := w.ext _ (tp_mem' (show j < l.length by omega))
  obtain ⟨mk, _⟩ := w.ext _ (tp_mem' hj)
  obtain ⟨hne, hb⟩ := w.edge j hj
  have b := hb _ mi (Ne.symm h1)
  have a1 := hdi _ mj h1
  have a2 := hdi _ mk h2
  have c1 := hdj _ mi (Ne.symm h1)
  have c2 := hdj _ mk hne
  generalize tp l i = p at *
  generalize tp l j = q at *
  generalize tp l (j + 1) = r at *
  have e : crs (subP q p) (subP r p) = crs (subP r q) (subP p q) := by unfold crs subP; grind
  rw [e]
  rcases Int.lt_or_eq_of_le b.1 with z | z
  · exact z
  exfalso
  have z := z.symm
  have n := b.2 z
  have pn := par_n1 c2 c1 z
  have le : dot dj (subP p q) ≤ dot dj (subP r q) := by
    apply Int.not_lt.mp; intro c
    have g1 : 0 < n1 (subP r q) := by
      have : subP r q ≠ (0, 0) := fun q => by rw [q] at c2; unfold dot at c2; simp at c2
      have : ¬ ((subP r q).1 = 0 ∧ (subP r q).2 = 0) := fun q => this (Prod.ext q.1 q.2)
      unfold n1; omega
    have l1 : dot dj (subP r q) * n1 (subP p q) ≤ dot dj (subP r q) * n1 (subP r q) := Int.mul_le_mul_of_nonneg_left n (Int.le_of_lt c2)
    have l2 : dot dj (subP r q) * n1 (subP r q) < dot dj (subP p q) * n1 (subP r q) := Int.mul_lt_mul_of_pos_right c g1
    omega
  have e1 : dot dj (subP p q) * (subP r q).1 = dot dj (subP r q) * (subP p q).1 := by
    have : dot dj (subP p q) * (subP r q).1 - dot dj (subP r q) * (subP p q).1 = dj.2 * ((subP r q).1 * (subP p q).2 - (subP r q).2 * (subP p q).1) := by unfold dot; grind
    unfold crs at z; rw [z] at this; omega
  have e2 : dot dj (subP p q) * (subP r q).2 = dot dj (subP r q) * (subP p q).2 := by
    have : dot dj (subP p q) * (subP r q).2 - dot dj (subP r q) * (subP p q).2 = - (dj.1 * ((subP r q).1 * (subP p q).2 - (subP r q).2 * (subP p q).1)) := by unfold dot; grind
    unfold crs at z; rw [z] at this; omega
  have e3 : dot dj (subP p q) * dot di (subP r q) = dot dj (subP r q) * dot di (subP p q) := by
    have : dot dj (subP p q) * dot di (subP r q) = di.1 * (dot dj (subP p q) * (subP r q).1) + di.2 * (dot dj (subP p q) * (subP r q).2) := by unfold dot; grind
    rw [this, e1, e2]; unfold dot; grind
  have e4 : dot di (subP r q) = dot di (subP r p) - dot di (subP q p) := by unfold dot subP; grind
  have e5 : dot di (subP p q) = - dot di (subP q p) := by unfold dot subP; grind
  rw [e4, e5, Int.mul_sub] at e3
  have m1 := Int.mul_pos c1 a2
  have m2 : 0 ≤ (dot dj (subP r q) - dot dj (subP p q)) * dot di (subP q p) := Int.mul_nonneg (by omega) (Int.le_of_lt a1)
  rw [Int.sub_mul] at m2
  rw [Int.mul_neg] at e3
  omega
theorem Walk.fan {S l : List P2} (w : Walk S l) {i : Nat} (hd : ∀ j, i < j → j < l.length → tp l j ≠ tp l i) {j : Nat} (hij : i < j) : ∀ m, j + m + 1 < l.length → 0 < crs (subP (tp l j) (tp l i)) (subP (tp l (j + m + 1)) (tp l i))
  | 0, h => w.side (by omega) h (hd j hij (by omega)) (hd (j + 1) (by omega) h)
  | m + 1, h => by
    have ih := Walk.fan w hd hij m (by omega)
    have st := w.side (i := i) (j := j + m + 1) (by omega) (by omega) (hd _ (by omega) (by omega)) (hd _ (by omega) (by omega))
    obtain ⟨mi, di, hdi⟩ := w.ext _ (tp_mem' (show i < l.length by omega))
    have f := fun k (h1 : i < k) (h2 : k < l.length) => hdi _ (w.ext _ (tp_mem' h2)).1 (hd k h1 h2)
    exact half_pos (f j hij (by omega)) (f (j + m + 1) (by omega) (by omega)) (f (j + (m + 1) + 1) (by omega) h) (Int.le_of_lt ih) (Int.le_of_lt st) (.inl ih)
theorem Walk.ne {S l : List P2} (w : Walk S l) {i j : Nat} (hij : i < j) (hj : j < l.length) : tp l j ≠ tp l i := by
  by_cases h0 : i = 0
  · subst h0; exact w.fst j hij hj
  · intro e
    have := w.fan (i := 0) (fun k h1 h2 => w.fst k h1 h2) (j := i) (by omega) (j - i - 1) (by omega)
    rw [show i + (j - i - 1) + 1 = j by omega, e] at this
    unfold crs at this; grind
theorem Walk.cvx {S l : List P2} (w : Walk S l) : Cvx l := by
  intro i j k hij hjk hk
  have := w.fan (i := i) (fun a h1 h2 => w.ne h1 h2) hij (k - j - 1) (by omega)
  rw [show j + (k - j - 1) + 1 = k by omega] at this
  have e : turn3 (tp l i) (tp l j) (tp l k) = crs (subP (tp l j) (tp l i)) (subP (tp l k) (tp l i)) := by unfold turn3 crs subP; grind
  rw [e]; exact this
theorem Walk.nodup {S l : List P2} (w : Walk S l) : l.Nodup := by
  rw [List.nodup_iff_pairwise_ne, List.pairwise_iff_getElem]
  intro i j hi hj hij e
  apply w.ne hij hj
  unfold tp
  rw [List.getD_eq_getElem?_getD, List.getD_eq_getElem?_getD, List.getElem?_eq_getElem hi, List.getElem?_eq_getElem hj]
  simp only [Option.getD_some]; exact e.symm
theorem len_sub : ∀ {l m : List P2}, l.Nodup → (∀ x ∈ l, x ∈ m) → l.length ≤ m.length
  | [], m, _, _ => Nat.zero_le _
  | x :: l, m, hn, h => by
    have hx := h x (List.mem_cons_self ..)
    have hn := List.nodup_cons.mp hn
    have ih := len_sub (l := l) (m := m.erase x) hn.2 (fun y hy => (List.mem_erase_of_ne (fun e => hn.1 (by rw [← e]; exact hy))).mpr (h y (List.mem_cons_of_mem _ hy)))
    rw [List.length_erase_of_mem hx] at ih
    have : 0 < m.length := List.length_pos_of_mem hx
    simp only [List.length_cons]; omega
theorem Walk.step {S l : List P2} {h : P2} (w : Walk S (l ++ [h])) {g : P2} (hg : g ∈ S) (ge : ∃ d, Ext S d g) (hne : g ≠ h) (hb : ∀ s ∈ S, s ≠ h → BestG h g s) (h0 : g ≠ tp (l ++ [h]) 0) : Walk S (l ++ [h] ++ [g]) := by
  have hl : (l ++ [h]).length = l.length + 1 := by simp
  refine ⟨fun x hx => ?_, fun i hi => ?_, fun i h1 h2 => ?_⟩
  · rcases List.mem_append.mp hx with z | z
    · exact w.ext x z
    · rw [List.mem_singleton.mp z]; exact ⟨hg, ge⟩
  · simp only [List.length_append, List.length_singleton] at hi
    by_cases hlt : i + 1 < l.length + 1
    · rw [tp_snoc_lt (l := l ++ [h]) (by omega), tp_snoc_lt (l := l ++ [h]) (by omega)]
      exact w.edge i (by omega)
    · rw [tp_snoc_lt (l := l ++ [h]) (i := i) (by omega), tp_snoc_eq (l := l ++ [h]) (i := i + 1) (by omega), tp_snoc_eq (l := l) (i := i) (by omega)]
      exact ⟨hne, hb⟩
  · rw [tp_snoc_lt (l := l ++ [h]) (i := 0) (by omega)]
    simp only [List.length_append, List.length_singleton] at h2
    by_cases hlt : i < l.length + 1
    · rw [tp_snoc_lt (by omega)]; exact w.fst i h1 (by omega)
    · rw [tp_snoc_eq (by omega)]; exact h0
theorem first_ext {S : List P2} {r : P2} (h : ∀ s ∈ S, s ≠ r → lexL r s) : ∃ d, Ext S d r := by
  obtain ⟨M, hM, hS⟩ := bound (fun s => r.2 - s.2) S
  refine ⟨(M, 1), fun s hs hne => ?_⟩
  have := hS s hs
  have e : dot (M, 1) (subP s r) = M * (s.1 - r.1) + (s.2 - r.2) := by unfold dot subP; grind
  rw [e]
  rcases h s hs hne with z | ⟨z, z'⟩
  · have : M * 1 ≤ M * (s.1 - r.1) := Int.mul_le_mul_of_nonneg_left (by omega) (Int.le_of_lt hM)
    omega
  · rw [← z, Int.sub_self, Int.mul_zero]; omega
theorem wrap_walk {S : List P2} (hs : S.Nodup) (h2 : 2 ≤ S.length) : ∀ (n : Nat) (h : P2) (l : List P2), Walk S (l ++ [h]) → tp (l ++ [h]) 0 = tp S 0 → l.length + n = S.length + 1 →
    Walk S (wrapG S n h l) ∧ tp (wrapG S n h l) 0 = tp S 0
  | 0, h, l, w, _, hl => by
    have := len_sub w.nodup (fun x hx => (w.ext x hx).1)
    simp only [List.length_append, List.length_singleton] at this
    omega
  | n + 1, h, l, w, h0, hl => by
    obtain ⟨hS, d, hd⟩ := w.ext h (by simp)
    have hf : firstG S h ≠ h ∧ firstG S h ∈ S := by
      unfold firstG
      by_cases e : h = tp S 0
      · rw [if_neg (by simpa using e)]
        refine ⟨fun z => ?_, tp_mem' (by omega)⟩
        rw [List.nodup_iff_pairwise_ne, List.pairwise_iff_getElem] at hs
        apply hs 0 1 (by omega) (by omega) (by omega)
        have z := (z.trans e).symm
        unfold tp at z
        rw [List.getD_eq_getElem?_getD, List.getD_eq_getElem?_getD, List.getElem?_eq_getElem (show 0 < S.length by omega), List.getElem?_eq_getElem (show 1 < S.length by omega)] at z
        simpa using z
      · rw [if_pos e]; exact ⟨fun z => e z.symm, tp_mem' (by omega)⟩
    have hpos := hd _ hf.2 hf.1
    obtain ⟨a, b, c, e⟩ := scan_best (h := h) S (firstG S h) hd hpos
    have gS : scanG h (firstG S h) S ∈ S := a.elim (fun z => by rw [z]; exact hf.2) id
    have gne : scanG h (firstG S h) S ≠ h := fun z => by
      rw [z] at b; unfold dot subP at b; simp at b
    have ge := next_ext hd b e
    unfold wrapG
    by_cases hr : scanG h (firstG S h) S = tp S 0
    · rw [if_pos hr]; exact ⟨w, h0⟩
    · rw [if_neg hr]
      have w' := w.step gS ge gne e (by rw [h0]; exact hr)
      refine wrap_walk hs h2 n _ (l ++ [h]) w' ?_ (by simp; omega)
      rw [tp_snoc_lt (by simp)]; exact h0
/-- gift wrapping -/
theorem wrap_cvx {S : List P2} (hs : S.Pairwise lexL) (h2 : 2 ≤ S.length) : Cvx (wrapG S (S.length + 1) (tp S 0) []) ∧ tp (wrapG S (S.length + 1) (tp S 0) []) 0 = tp S 0 ∧ ∀ x ∈ wrapG S (S.length + 1) (tp S 0) [], x ∈ S := by
  have nd : S.Nodup := by
    rw [List.nodup_iff_pairwise_ne]
    refine hs.imp fun {a b} h e => ?_
    subst e; unfold lexL at h; omega
  have least : ∀ s ∈ S, s ≠ tp S 0 → lexL (tp S 0) s := fun s hs' hne => by
    obtain ⟨k, hk, e⟩ := mem_tp' hs'
    have hk0 : 0 < k := by
      rcases Nat.eq_zero_or_pos k with z | z
      · subst z; exact absurd e.symm hne
      · exact z
    rw [List.pairwise_iff_getElem] at hs
    have := hs 0 k (by omega) hk hk0
    rw [← e]
    unfold tp
    rw [List.getD_eq_getElem?_getD, List.getD_eq_getElem?_getD, List.getElem?_eq_getElem (show 0 < S.length by omega), List.getElem?_eq_getElem hk]
    exact this
  have w0 : Walk S ([] ++ [tp S 0]) := by
    refine ⟨fun x hx => ?_, fun i hi => by simp at hi, fun i h1 h2 => by simp at h2; omega⟩
    rw [List.mem_singleton.mp hx]
    exact ⟨tp_mem' (by omega), first_ext least⟩
  obtain ⟨w, e⟩ := wrap_walk nd h2 (S.length + 1) (tp S 0) [] w0 rfl (by simp)
  exact ⟨w.cvx, e, fun x hx => (w.ext x hx).1⟩
end K96

/-! M24: plain numbers: the hull of a convex part's corners is the part. -/
namespace K96
open PySem DL
theorem turn3_rot' (a b c : P2) : turn3 a b c = turn3 b c a := by unfold turn3; grind
theorem turn3_swap (a b c : P2) : turn3 a b c = - turn3 a c b := by unfold turn3; grind
theorem turn3_crs' (a b c : P2) : turn3 a b c = crs (subP b a) (subP c a) := by unfold turn3 crs subP; grind
theorem lexL_asym {p q : P2} (h : lexL p q) : ¬ lexL q p := by unfold lexL at *; omega
theorem lexL_tri {p q : P2} (h : p ≠ q) : lexL p q ∨ lexL q p := by
  have : ¬ (p.1 = q.1 ∧ p.2 = q.2) := fun e => h (Prod.ext e.1 e.2)
  unfold lexL; omega
theorem lexL_trans {p q r : P2} (h : lexL p q) (h' : lexL q r) : lexL p r := by unfold lexL at *; omega
theorem pw_uniq {R : P2 → P2 → Prop} (asym : ∀ a b, R a b → ¬ R b a) : ∀ {l m : List P2}, l.Pairwise R → m.Pairwise R → (∀ x, x ∈ l ↔ x ∈ m) → l = m
  | [], [], _, _, _ => rfl
  | [], y :: m, _, _, h => absurd ((h y).mpr (List.mem_cons_self ..)) List.not_mem_nil
  | x :: l, [], _, _, h => absurd ((h x).mp (List.mem_cons_self ..)) List.not_mem_nil
  | x :: l, y :: m, hl, hm, h => by
    have irr : ∀ a, ¬ R a a := fun a w => asym a a w w
    rw [List.pairwise_cons] at hl hm
    have e : x = y := by
      rcases List.mem_cons.mp ((h x).mp (List.mem_cons_self ..)) with z | z
      · exact z
      · rcases List.mem_cons.mp ((h y).mpr (List.mem_cons_self ..)) with w | w
        · exact w.symm
        · exact absurd (hl.1 y w) (asym _ _ (hm.1 x z))
    subst e
    congr 1
    refine pw_uniq asym hl.2 hm.2 fun z => ?_
    constructor
    · intro hz
      rcases List.mem_cons.mp ((h z).mp (List.mem_cons_of_mem _ hz)) with w | w
      · subst w; exact absurd (hl.1 z hz) (irr z)
      · exact w
    · intro hz
      rcases List.mem_cons.mp ((h z).mpr (List.mem_cons_of_mem _ hz)) with w | w
      · subst w; exact absurd (hm.1 z hz) (irr z)
      · exact w
/-- a linear reading that goes by the order, for some points -/
theorem lex_lin (S : List P2) : ∃ d : P2, ∀ p ∈ S, ∀ q ∈ S, lexL p q → 0 < dot d (subP q p) := by
  have b : ∀ (f : P2 → P2 → Int) (T : List P2), ∃ M : Int, 0 < M ∧ ∀ p ∈ T, ∀ q ∈ S, f p q < M := fun f T => by
    induction T with
    | nil => exact ⟨1, by decide, fun p hp => by cases hp⟩
    | cons x T ih =>
      obtain ⟨M, h1, h2⟩ := ih
      obtain ⟨N, g1, g2⟩ := bound (f x) S
      refine ⟨M + N, by omega, fun p hp q hq => ?_⟩
      rcases List.mem_cons.mp hp with z | z
      · subst z; have := g2 q hq; omega
      · have := h2 p z q hq; omega
  obtain ⟨M, hM, hS⟩ := b (fun p q => p.2 - q.2) S
  refine ⟨(M, 1), fun p hp q hq h => ?_⟩
  have := hS p hp q hq
  have e : dot (M, 1) (subP q p) = M * (q.1 - p.1) + (q.2 - p.2) := by unfold dot subP; grind
  rw [e]
  rcases h with z | ⟨z, z'⟩
  · have : M * 1 ≤ M * (q.1 - p.1) := Int.mul_le_mul_of_nonneg_left (by omega) (Int.le_of_lt hM)
    omega
  · rw [← z, Int.sub_self, Int.mul_zero]; omega
section
variable {l : List P2} (h : Cvx l) (h3 : 3 ≤ l.length) {m : Nat} (hm : m < l.length)
  (inj : ∀ a b, a < l.length → b < l.length → tp l a = tp l b → a = b)
  (lo : ∀ i, 0 < i → i < l.length → lexL (tp l 0) (tp l i)) (hi : ∀ i, i ≠ m → i < l.length → lexL (tp l i) (tp l m))
include h inj lo hi hm
theorem low_up {i j : Nat} (hij : i < j) (hj : j ≤ m) : lexL (tp l i) (tp l j) := by
  by_cases h0 : i = 0
  · subst h0; exact lo j hij (by omega)
  by_cases h1 : j = m
  · subst h1; exact hi i (by omega) (by omega)
  rcases lexL_tri (p := tp l i) (q := tp l j) (fun e => by have := inj _ _ (by omega) (by omega) e; omega) with z | z
  · exact z
  · exfalso
    obtain ⟨d, hd⟩ := lex_lin l
    have mem : ∀ a, a < l.length → tp l a ∈ l := fun a ha => tp_mem' ha
    have f1 := hd _ (mem j (by omega)) _ (mem i (by omega)) z
    have f2 := hd _ (mem j (by omega)) _ (mem m hm) (hi j h1 (by omega))
    have f3 := hd _ (mem 0 (by omega)) _ (mem j (by omega)) (lo j (by omega) (by omega))
    have t1 := h 0 i j (by omega) hij (by omega)
    have t2 := h 0 j m (by omega) (by omega) hm
    have t3 := h i j m hij (by omega) hm
    rw [turn3_rot', turn3_rot', turn3_crs'] at t1
    rw [turn3_rot', turn3_crs'] at t2 t3
    have e := half d (subP (tp l m) (tp l j)) (subP (tp l i) (tp l j)) (subP (tp l 0) (tp l j))
    have a1 := Int.mul_pos f1 t2
    have f3' : dot d (subP (tp l 0) (tp l j)) < 0 := by
      have : dot d (subP (tp l 0) (tp l j)) = - dot d (subP (tp l j) (tp l 0)) := by unfold dot subP; grind
      omega
    have a2 := Int.mul_neg_of_neg_of_pos f3' t3
    have t1' : crs (subP (tp l i) (tp l j)) (subP (tp l 0) (tp l j)) < 0 := by
      have : crs (subP (tp l i) (tp l j)) (subP (tp l 0) (tp l j)) = - crs (subP (tp l 0) (tp l j)) (subP (tp l i) (tp l j)) := by unfold crs; grind
      omega
    have a3 := Int.mul_neg_of_pos_of_neg f2 t1'
    omega
theorem up_down {i j : Nat} (him : m ≤ i) (hij : i < j) (hj : j < l.length) : lexL (tp l j) (tp l i) := by
  by_cases h1 : i = m
  · subst h1; exact hi j (by omega) hj
  have hm0 : 0 < m := by
    rcases Nat.eq_zero_or_pos m with z | z
    · subst z
      have a := hi j (by omega) hj
      have b := lo j (by omega) hj
      exact absurd a (lexL_asym b)
    · exact z
  rcases lexL_tri (p := tp l j) (q := tp l i) (fun e => by have := inj _ _ (by omega) (by omega) e; omega) with z | z
  · exact z
  · exfalso
    obtain ⟨d, hd⟩ := lex_lin l
    have mem : ∀ a, a < l.length → tp l a ∈ l := fun a ha => tp_mem' ha
    have f1 := hd _ (mem i (by omega)) _ (mem j (by omega)) z
    have f2 := hd _ (mem i (by omega)) _ (mem m hm) (hi i h1 (by omega))
    have f3 := hd _ (mem 0 (by omega)) _ (mem i (by omega)) (lo i (by omega) (by omega))
    have t1 := h 0 m i hm0 (by omega) (by omega)
    have t2 := h 0 i j (by omega) hij hj
    have t3 := h m i j (by omega) hij hj
    rw [turn3_rot', turn3_rot', turn3_crs'] at t1
    rw [turn3_rot', turn3_crs'] at t2 t3
    have e := half d (subP (tp l j) (tp l i)) (subP (tp l m) (tp l i)) (subP (tp l 0) (tp l i))
    have a1 := Int.mul_pos f2 t2
    have f3' : dot d (subP (tp l 0) (tp l i)) < 0 := by
      have : dot d (subP (tp l 0) (tp l i)) = - dot d (subP (tp l i) (tp l 0)) := by unfold dot subP; grind
      omega
    have a2 := Int.mul_neg_of_neg_of_pos f3' t3
    have t1' : crs (subP (tp l m) (tp l i)) (subP (tp l 0) (tp l i)) < 0 := by
      have : crs (subP (tp l m) (tp l i)) (subP (tp l 0) (tp l i)) = - crs (subP (tp l 0) (tp l i)) (subP (tp l m) (tp l i)) := by unfold crs; grind
      omega
    have a3 := Int.mul_neg_of_pos_of_neg f1 t1'
    omega
/-- the order of a lower corner and any other one -/
theorem ord_low {j k : Nat} (hj : j ≤ m) (hk : k < l.length) (hkj : lexL (tp l j) (tp l k)) : j < k := by
  apply Nat.lt_of_not_le
  intro c
  rcases Nat.lt_or_eq_of_le c with z | z
  · exact lexL_asym hkj (low_up h hm inj lo hi z hj)
  · subst z; exact lexL_asym hkj hkj
theorem ord_up {j k : Nat} (hj : m ≤ j) (hjl : j < l.length) (hk : k < l.length) (hkj : lexL (tp l k) (tp l j)) : k < m ∨ j < k := by
  apply Classical.byContradiction
  intro c
  have c : m ≤ k ∧ k ≤ j := by omega
  rcases Nat.lt_or_eq_of_le c.2 with z | z
  · exact lexL_asym hkj (up_down h hm inj lo hi c.1 z hjl)
  · subst z; exact lexL_asym hkj hkj
end
theorem seg_pair {l : List P2} {R : P2 → P2 → Prop} {a b : Nat} (hb : b ≤ l.length) (h : ∀ i j, a ≤ i → i < j → j < b → R (tp l i) (tp l j)) : ((l.take b).drop a).Pairwise R := by
  rw [List.pairwise_iff_getElem]
  intro i j hi hj hij
  simp only [List.length_drop, List.length_take] at hi hj
  have e : ∀ k (hk : k < ((l.take b).drop a).length), ((l.take b).drop a)[k] = tp l (a + k) := fun k hk => by
    simp only [List.length_drop, List.length_take] at hk
    rw [List.getElem_drop, List.getElem_take]
    unfold tp
    rw [List.getD_eq_getElem?_getD, List.getElem?_eq_getElem (by omega)]
    rfl
  rw [e, e]
  exact h _ _ (by omega) (by omega) (by omega)
theorem mem_seg {l : List P2} {a b : Nat} (hb : b ≤ l.length) {x : P2} : x ∈ (l.take b).drop a ↔ ∃ k, a ≤ k ∧ k < b ∧ tp l k = x := by
  constructor
  · intro hx
    obtain ⟨k, hk, e⟩ := List.getElem_of_mem hx
    simp only [List.length_drop, List.length_take] at hk
    rw [List.getElem_drop, List.getElem_take] at e
    refine ⟨a + k, by omega, by omega, ?_⟩
    unfold tp
    rw [List.getD_eq_getElem?_getD, List.getElem?_eq_getElem (by omega)]
    exact e
  · rintro ⟨k, h1, h2, e⟩
    have : ((l.take b).drop a)[k - a]? = some x := by
      rw [List.getElem?_drop, List.getElem?_take, if_pos (by omega), show a + (k - a) = k by omega, List.getElem?_eq_getElem (by omega), ← e]
      unfold tp
      rw [List.getD_eq_getElem?_getD, List.getElem?_eq_getElem (by omega)]
      rfl
    exact List.mem_of_getElem? this
def hullP (rows : List P2) : List P2 := (chainR rows).reverse.dropLast ++ (chainR rows.reverse).reverse.dropLast
theorem lex_max (l : List P2) : l ≠ [] → ∃ x ∈ l, ∀ y ∈ l, y ≠ x → lexL y x := by
  induction l with
  | nil => intro h; exact absurd rfl h
  | cons a l ih =>
    intro _
    by_cases hl : l = []
    · subst hl; exact ⟨a, by simp, fun y hy hne => absurd (List.mem_singleton.mp hy) hne⟩
    · obtain ⟨x, hx, hm⟩ := ih hl
      by_cases hax : a = x
      · subst hax
        refine ⟨a, by simp, fun y hy hne => ?_⟩
        rcases List.mem_cons.mp hy with z | z
        · exact absurd z hne
        · exact hm y z hne
      · rcases lexL_tri hax with z | z
        · refine ⟨x, List.mem_cons_of_mem _ hx, fun y hy hne => ?_⟩
          rcases List.mem_cons.mp hy with w | w
          · rw [w]; exact z
          · exact hm y w hne
        · refine ⟨a, by simp, fun y hy hne => ?_⟩
          rcases List.mem_cons.mp hy with w | w
          · exact absurd w hne
          · by_cases hyx : y = x
            · rw [hyx]; exact z
            · exact lexL_trans (hm y w hyx) z
theorem sub_pair {R : P2 → P2 → Prop} {l : List P2} (h : l.Pairwise R) {a b c : P2} (s : [a, b, c].Sublist l) : R a b ∧ R b c ∧ R a c := by
  have := h.sublist s
  simp at this
  exact ⟨this.1.1, this.2, this.1.2⟩
theorem hull_eq {l rows : List P2} (h : Cvx l) (h3 : 3 ≤ l.length) (inj : ∀ a b, a < l.length → b < l.length → tp l a = tp l b → a = b)
    (lo : ∀ i, 0 < i → i < l.length → lexL (tp l 0) (tp l i)) (hs : rows.Pairwise lexL) (hm : ∀ x, x ∈ rows ↔ x ∈ l) : hullP rows = l := by
  obtain ⟨x, hx, hmax⟩ := lex_max l (fun e => by rw [e] at h3; simp at h3)
  obtain ⟨m, hml, em⟩ := mem_tp' hx
  subst em
  have hi : ∀ i, i ≠ m → i < l.length → lexL (tp l i) (tp l m) := fun i hne hil => hmax _ (tp_mem' hil) (fun e => hne (inj _ _ hil hml e))
  have hm0 : 0 < m := by
    rcases Nat.eq_zero_or_pos m with z | z
    · subst z; exact absurd (hi 1 (by omega) (by omega)) (lexL_asym (lo 1 (by omega) (by omega)))
    · exact z
  have idx : ∀ {y}, y ∈ rows → ∃ k, k < l.length ∧ tp l k = y := fun hy => mem_tp' ((hm _).mp hy)
  have r0 : rows ≠ [] := fun e => by
    have := (hm (tp l 0)).mpr (tp_mem' (by omega)); rw [e] at this; cases this
  -- the lower side
  have hseg1 : (l.take (m + 1)).Pairwise lexL := by
    have := seg_pair (l := l) (R := lexL) (a := 0) (b := m + 1) (by omega) (fun i j _ h1 h2 => low_up h hml inj lo hi h1 (by omega))
    simpa using this
  have msg1 : ∀ y, y ∈ l.take (m + 1) ↔ ∃ k, k ≤ m ∧ tp l k = y := fun y => by
    have := mem_seg (l := l) (a := 0) (b := m + 1) (by omega) (x := y)
    rw [List.drop_zero] at this
    rw [this]
    constructor
    · rintro ⟨k, _, a, b⟩; exact ⟨k, by omega, b⟩
    · rintro ⟨k, a, b⟩; exact ⟨k, by omega, by omega, b⟩
  have lw : ∀ k, k < l.length → ((l.take (m + 1)).contains (tp l k) = true ↔ k ≤ m) := fun k hk => by
    rw [List.contains_iff_mem, msg1]
    constructor
    · rintro ⟨k', a, b⟩; rw [← inj _ _ (by omega) hk b]; exact a
    · intro a; exact ⟨k, a, rfl⟩
  have t1 : Trip (fun y => (l.take (m + 1)).contains y) rows := by
    intro a b c hsub ha
    obtain ⟨l1, l2, l3⟩ := sub_pair hs hsub
    have ma : a ∈ rows := hsub.subset (by simp)
    have mb : b ∈ rows := hsub.subset (by simp)
    have mc : c ∈ rows := hsub.subset (by simp)
    obtain ⟨i, hil, ei⟩ := idx ma
    obtain ⟨j, hjl, ej⟩ := idx mb
    obtain ⟨k, hkl, ek⟩ := idx mc
    subst ei ej ek
    have him := (lw i hil).mp ha
    have hij := ord_low h hml inj lo hi him hjl l1
    have hik := ord_low h hml inj lo hi him hkl l3
    constructor
    · intro hb
      have hjm := (lw j hjl).mp hb
      exact h i j k hij (ord_low h hml inj lo hi hjm hkl l2) hkl
    · intro hb
      have hjm : m < j := by
        apply Nat.lt_of_not_le; intro c
        have hb : (l.take (m + 1)).contains (tp l j) = false := hb
        rw [(lw j hjl).mpr c] at hb; cases hb
      have hkj : k < j := by
        by_cases hkm : k ≤ m
        · omega
        · rcases ord_up h hml inj lo hi (j := k) (by omega) hkl hjl l2 with z | z <;> omega
      rw [turn3_swap]
      have := h i k j hik hkj hjl
      omega
  have f1 : rows.filter (fun y => (l.take (m + 1)).contains y) = l.take (m + 1) := by
    refine pw_uniq (fun _ _ => lexL_asym) (hs.sublist (List.filter_sublist ..)) hseg1 fun y => ?_
    rw [List.mem_filter, List.contains_iff_mem]
    constructor
    · exact fun w => w.2
    · intro w; exact ⟨(hm y).mpr (List.mem_of_mem_take w), w⟩
  -- the first of the rows, the last of them
  have hfst : ∀ (y : P2) (r : List P2), rows = y :: r → y = tp l 0 := fun y r e => by
    have my : y ∈ rows := by rw [e]; simp
    obtain ⟨k, hk, ek⟩ := idx my
    by_cases hk0 : k = 0
    · rw [← ek, hk0]
    · have m0 : tp l 0 ∈ rows := (hm _).mpr (tp_mem' (by omega))
      rw [e] at m0 hs
      rcases List.mem_cons.mp m0 with z | z
      · exact z.symm
      · have := (List.pairwise_cons.mp hs).1 _ z
        rw [← ek] at this
        exact absurd this (lexL_asym (lo k (by omega) hk))
  have hlst : ∀ hne, rows.getLast hne = tp l m := fun hne => by
    obtain ⟨k, hk, ek⟩ := idx (List.getLast_mem hne)
    by_cases hkm : k = m
    · rw [← ek, hkm]
    · have mm : tp l m ∈ rows := (hm _).mpr (tp_mem' hml)
      have e2 : rows = rows.dropLast ++ [rows.getLast hne] := (List.dropLast_concat_getLast _).symm
      rw [e2] at mm hs
      rcases List.mem_append.mp mm with z | z
      · have := (List.pairwise_append.mp hs).2.2 _ z (rows.getLast hne) (by simp)
        rw [← ek] at this
        exact absurd this (lexL_asym (hi k hkm hk))
      · exact (List.mem_singleton.mp z).symm
  have c1 : (chainR rows).reverse.dropLast = l.take m := by
    obtain ⟨y, r, e⟩ := List.exists_cons_of_ne_nil r0
    have hy := hfst y r e
    have hl := hlst r0
    have hyl : (l.take (m + 1)).contains y = true := by rw [hy]; exact (lw 0 (by omega)).mpr (by omega)
    have ce := chainR_eq (low := fun y => (l.take (m + 1)).contains y) y hyl r (by rw [← e]; exact t1)
    have hgl : (y :: r).getLast (List.cons_ne_nil _ _) = tp l m := by
      rw [← hl]; simp only [e]
    have : (l.take (m + 1)).contains ((y :: r).getLast (List.cons_ne_nil _ _)) = true := by rw [hgl]; exact (lw m hml).mpr (Nat.le_refl _)
    rw [if_pos this, ← e, f1] at ce
    rw [ce, List.reverse_reverse, List.dropLast_eq_take, List.length_take, List.take_take]
    congr 1
    omega
  -- the upper side
  have hsr : rows.reverse.Pairwise (fun p q => lexL q p) := by rw [List.pairwise_reverse]; exact hs
  have uw : ∀ k, k < l.length → (((l.drop m) ++ [tp l 0]).contains (tp l k) = true ↔ (m ≤ k ∨ k = 0)) := fun k hk => by
    have hmd : ∀ y, y ∈ l.drop m ↔ ∃ k, m ≤ k ∧ k < l.length ∧ tp l k = y := fun y => by
      have := mem_seg (l := l) (a := m) (b := l.length) (Nat.le_refl _) (x := y)
      rw [List.take_length] at this; exact this
    rw [List.contains_iff_mem, List.mem_append, List.mem_singleton, hmd]
    constructor
    · rintro (⟨k', a, b, e⟩ | e)
      · left; rw [← inj _ _ b hk e]; exact a
      · right; exact inj _ _ hk (by omega) e
    · rintro (a | a)
      · exact .inl ⟨k, a, hk, rfl⟩
      · exact .inr (by rw [a])
  have t2 : Trip (fun y => ((l.drop m) ++ [tp l 0]).contains y) rows.reverse := by
    intro a b c hsub ha
    obtain ⟨l1, l2, l3⟩ := sub_pair hsr hsub
    have ma : a ∈ rows := List.mem_reverse.mp (hsub.subset (by simp))
    have mb : b ∈ rows := List.mem_reverse.mp (hsub.subset (by simp))
    have mc : c ∈ rows := List.mem_reverse.mp (hsub.subset (by simp))
    obtain ⟨i, hil, ei⟩ := idx ma
    obtain ⟨j, hjl, ej⟩ := idx mb
    obtain ⟨k, hkl, ek⟩ := idx mc
    subst ei ej ek
    have nz : ∀ {p q}, q < l.length → lexL (tp l q) (tp l p) → p ≠ 0 := fun {p q} hq w z => by
      subst z
      by_cases q0 : q = 0
      · subst q0; exact lexL_asym w w
      · exact lexL_asym w (lo q (by omega) hq)
    have i0 := nz hjl l1
    have j0 := nz hkl l2
    have him : m ≤ i := ((uw i hil).mp ha).resolve_right i0
    constructor
    · intro hb
      have hjm : m ≤ j := ((uw j hjl).mp hb).resolve_right j0
      have hij : i < j := by rcases ord_up h hml inj lo hi him hil hjl l1 with z | z <;> omega
      rcases ord_up h hml inj lo hi hjm hjl hkl l2 with z | z
      · rw [turn3_rot', turn3_rot']; exact h k i j (by omega) hij hjl
      · exact h i j k hij z hkl
    · intro hb
      have hjm : j < m := by
        apply Nat.lt_of_not_le; intro c
        have hb : ((l.drop m) ++ [tp l 0]).contains (tp l j) = false := hb
        rw [(uw j hjl).mpr (.inl c)] at hb; cases hb
      have hkij : k < j ∨ i < k := by
        by_cases hkm : m ≤ k
        · rcases ord_up h hml inj lo hi him hil hkl l3 with z | z <;> omega
        · left; exact ord_low h hml inj lo hi (j := k) (by omega) hjl l2
      rw [turn3_swap]
      rcases hkij with z | z
      · have := h k j i z (by omega) hil
        rw [turn3_rot', turn3_swap, turn3_swap, ← turn3_rot'] at this
        have e : turn3 (tp l i) (tp l k) (tp l j) = turn3 (tp l k) (tp l j) (tp l i) := by rw [turn3_rot']
        have := h k j i z (by omega) hil
        omega
      · have e : turn3 (tp l i) (tp l k) (tp l j) = turn3 (tp l j) (tp l i) (tp l k) := by rw [← turn3_rot']
        have := h j i k (by omega) z hkl
        omega
  have hseg2 : ((l.drop m) ++ [tp l 0]).Pairwise (fun p q => lexL q p) := by
    rw [List.pairwise_append]
    refine ⟨?_, by simp, fun y hy z hz => ?_⟩
    · have := seg_pair (l := l) (R := fun p q => lexL q p) (a := m) (b := l.length) (Nat.le_refl _) (fun i j a b c => up_down h hml inj lo hi a b c)
      rw [List.take_length] at this; exact this
    · rw [List.mem_singleton.mp hz]
      have := mem_seg (l := l) (a := m) (b := l.length) (Nat.le_refl _) (x := y)
      rw [List.take_length] at this
      obtain ⟨k, a, b, e⟩ := this.mp hy
      rw [← e]; exact lo k (by omega) b
  have f2 : rows.reverse.filter (fun y => ((l.drop m) ++ [tp l 0]).contains y) = (l.drop m) ++ [tp l 0] := by
    refine pw_uniq (R := fun p q => lexL q p) (fun _ _ a b => lexL_asym a b) (hsr.sublist (List.filter_sublist ..)) hseg2 fun y => ?_
    rw [List.mem_filter, List.contains_iff_mem]
    constructor
    · exact fun w => w.2
    · intro w
      refine ⟨List.mem_reverse.mpr ((hm y).mpr ?_), w⟩
      rcases List.mem_append.mp w with z | z
      · exact List.mem_of_mem_drop z
      · rw [List.mem_singleton.mp z]; exact tp_mem' (by omega)
  have c2 : (chainR rows.reverse).reverse.dropLast = l.drop m := by
    have e0 : rows = rows.dropLast ++ [tp l m] := by
      rw [← hlst r0]; exact (List.dropLast_concat_getLast _).symm
    have er : rows.reverse = tp l m :: rows.dropLast.reverse := by
      conv => lhs; rw [e0]
      simp
    have hyl : ((l.drop m) ++ [tp l 0]).contains (tp l m) = true := (uw m hml).mpr (.inl (Nat.le_refl _))
    have ce := chainR_eq (low := fun y => ((l.drop m) ++ [tp l 0]).contains y) (tp l m) hyl rows.dropLast.reverse (by rw [← er]; exact t2)
    have hgl : (tp l m :: rows.dropLast.reverse).getLast (List.cons_ne_nil _ _) = tp l 0 := by
      obtain ⟨y, r, e⟩ := List.exists_cons_of_ne_nil r0
      have hy := hfst y r e
      have : (tp l m :: rows.dropLast.reverse).getLast (List.cons_ne_nil _ _) = rows.reverse.getLast (by simpa using r0) := by simp only [er]
      rw [this, List.getLast_reverse]
      simp only [e, List.head_cons, hy]
    have : ((l.drop m) ++ [tp l 0]).contains ((tp l m :: rows.dropLast.reverse).getLast (List.cons_ne_nil _ _)) = true := by rw [hgl]; exact (uw 0 (by omega)).mpr (.inr rfl)
    rw [if_pos this, ← er, f2] at ce
    rw [ce, List.reverse_reverse, List.dropLast_concat]
  unfold hullP
  rw [c1, c2, List.take_append_drop]
end K96

/-! KL: readings told as plain conditions; loops by invariants; sizes. -/
namespace K96
open PySem L2 DL
/-! ### sizes -/
def Bd (k : Nat) (x : Int) : Prop := x.natAbs < 2 ^ k
def Sz (k : Nat) (p : P2) : Prop := Bd k p.1 ∧ Bd k p.2
theorem Bd.mono {k l : Nat} {x : Int} (h : Bd k x) (hl : k ≤ l) : Bd l x := Nat.lt_of_lt_of_le h (Nat.pow_le_pow_right (by decide) hl)
theorem Bd.neg {k : Nat} {x : Int} (h : Bd k x) : Bd k (-x) := by unfold Bd at *; rw [Int.natAbs_neg]; exact h
theorem Bd.add {k : Nat} {x y : Int} (h : Bd k x) (h' : Bd k y) : Bd (k + 1) (x + y) := by
  unfold Bd at *; rw [Nat.pow_succ]; omega
theorem Bd.sub {k : Nat} {x y : Int} (h : Bd k x) (h' : Bd k y) : Bd (k + 1) (x - y) := by
  unfold Bd at *; rw [Nat.pow_succ]; omega
theorem Bd.mul {k l : Nat} {x y : Int} (h : Bd k x) (h' : Bd l y) : Bd (k + l) (x * y) := wide_lt h h'
theorem Bd.zero (k : Nat) : Bd k 0 := by unfold Bd; exact Nat.pow_pos (by decide)
theorem Bd.of {k : Nat} {x : Int} (a : Nat) (h : x.natAbs ≤ a) (h2 : a < 2 ^ k) : Bd k x := Nat.lt_of_le_of_lt h h2
theorem Bd.mulW {k l : Nat} {x y : Int} (h : Bd k x) (h' : Bd l y) (h2 : k + l ≤ 999000) : CMulW x y :=
  wide_mul (h.mono (Nat.le_succ k)) (h'.mono (Nat.le_succ l)) (by omega) (by omega) (by omega)
theorem Bd.log {k : Nat} {x : Int} (h : Bd k x) : x.natAbs.log2 ≤ k := by
  have := PySem.Flt.log2_lt_of (n := x.natAbs) (k := k + 1) (by omega) (h.mono (Nat.le_succ k)); omega
theorem Bd.le {k : Nat} {x y : Int} (h : Bd k y) (h2 : x.natAbs ≤ y.natAbs) : Bd k x := Nat.lt_of_le_of_lt h2 h
theorem Sz.mono {k l : Nat} {x : P2} (h : Sz k x) (hl : k ≤ l) : Sz l x := ⟨h.1.mono hl, h.2.mono hl⟩
theorem dirn_le {a b : Int} (h : ¬ (a = 0 ∧ b = 0)) : (dirn a b).1.natAbs ≤ a.natAbs ∧ (dirn a b).2.natAbs ≤ b.natAbs := by
  obtain ⟨_, m, hm, e1, e2, _⟩ := dirn_spec h
  have h1 : 1 ≤ m.natAbs := by omega
  constructor
  · conv => rhs; rw [e1, Int.natAbs_mul]
    exact Nat.le_mul_of_pos_left _ h1
  · conv => rhs; rw [e2, Int.natAbs_mul]
    exact Nat.le_mul_of_pos_left _ h1
theorem dirn_sz {k : Nat} {a b : Int} (h : ¬ (a = 0 ∧ b = 0)) (ha : Bd k a) (hb : Bd k b) : Sz k (dirn a b) := ⟨ha.le (dirn_le h).1, hb.le (dirn_le h).2⟩
theorem put_sz {i j : Nat} {p q : P2} (hp : Dir p) (hq : Dir q) (h1 : Sz i p) (h2 : Sz j q) : Sz (i + j + 1) (put p q) :=
  dirn_sz (mul_nz (dir_nz hp) (dir_nz hq)) ((h1.1.mul h2.1).sub (h1.2.mul h2.2)) ((h1.1.mul h2.2).add (h1.2.mul h2.1))
theorem back_sz {i : Nat} {p : P2} (hp : Dir p) (h1 : Sz i p) : Sz i (back p) := dirn_sz (fun h => dir_nz hp ⟨h.1, by omega⟩) h1.1 h1.2.neg
theorem turn_sz {i j : Nat} {p q : P2} (hp : Dir p) (hq : Dir q) (h1 : Sz i p) (h2 : Sz j q) : Sz (i + j + 1) (turnB p q) := by
  have := put_sz hq (back_dir hp) h2 (back_sz hp h1)
  exact this.mono (by omega)
theorem absI_bd {k : Nat} {x : Int} (h : Bd k x) : Bd k (absI x) := by unfold absI Bd at *; omega
theorem betw_sz {i j : Nat} {p q : P2} (hp : Dir p) (hq : Dir q) (h1 : Sz i p) (h2 : Sz j q) : Sz (i + (i + j + 3) + 1) (betw p q) := by
  unfold betw
  have ht := turn_sz hp hq h1 h2
  have td := turn_dir hp hq
  by_cases e : turnB p q = (1, 0)
  · rw [if_pos e]
    exact (put_sz hp north_dir h1 (show Sz (i + j + 3) (0, 1) from ⟨Bd.zero _, by unfold Bd; exact Nat.one_lt_two_pow (by omega)⟩))
  · rw [if_neg e]
    refine put_sz hp (mid_spec td e).1 h1 (dirn_sz ?_ ?_ ?_)
    · have := dir_snd_pos td e; omega
    · exact ((ht.1.mono (Nat.le_succ _)).add ((absI_bd ht.1).add (absI_bd ht.2)))
    · exact ht.2.mono (by omega)
/-! ### readings -/
@[simp] theorem eta2 (p : P2) : (p.1, p.2) = p := rfl
def as2 (ds : List D) (X : D → D → Prop) : Prop := ∃ d e, ds = [d, e] ∧ X d e
@[simp] theorem as2_b {d e : D} {X : D → D → Prop} : as2 [d, e] X ↔ X d e := by
  constructor
  · rintro ⟨d', e', e, h⟩; cases e; exact h
  · intro h; exact ⟨d, e, rfl, h⟩
def as1 (ds : List D) (X : D → Prop) : Prop := ∃ d, ds = [d] ∧ X d
@[simp] theorem as1_b {d : D} {X : D → Prop} : as1 [d] X ↔ X d := by
  constructor
  · rintro ⟨d', e, h⟩; cases e; exact h
  · intro h; exact ⟨d, rfl, h⟩
def as3 (ds : List D) (X : D → D → D → Prop) : Prop := ∃ d e f, ds = [d, e, f] ∧ X d e f
@[simp] theorem as3_b {d e f : D} {X : D → D → D → Prop} : as3 [d, e, f] X ↔ X d e f := by
  constructor
  · rintro ⟨d', e', f', e, h⟩; cases e; exact h
  · intro h; exact ⟨d, e, f, rfl, h⟩
def asP (d : D) (X : P2 → Prop) : Prop := ∃ p, d = pD p ∧ X p
@[simp] theorem asP_b {i j : Int} {X : P2 → Prop} : asP (.tuple [.int i, .int j]) X ↔ X (i, j) := by
  constructor
  · rintro ⟨⟨a, b⟩, e, h⟩; cases e; exact h
  · intro h; exact ⟨(i, j), rfl, h⟩
theorem pD_inj {p q : P2} (h : pD p = pD q) : p = q := by
  unfold pD at h
  injection h with h; injection h with h1 h2; injection h1 with h1; injection h2 with h2; injection h2 with h2
  exact Prod.ext h1 h2
theorem map_inj' {α β : Type} {f : α → β} (hf : ∀ a b, f a = f b → a = b) : ∀ {l m : List α}, l.map f = m.map f → l = m
  | [], [], _ => rfl
  | [], _ :: _, h => by cases h
  | _ :: _, [], h => by cases h
  | a :: l, b :: m, h => by
    rw [List.map_cons, List.map_cons] at h
    injection h with h1 h2
    rw [hf _ _ h1, map_inj' hf h2]
def asLP (d : D) (X : List P2 → Prop) : Prop := ∃ l : List P2, d = .list (l.map pD) ∧ X l
@[simp] theorem asLP_b {l : List P2} {X : List P2 → Prop} : asLP (.list (l.map pD)) X ↔ X l := by
  constructor
  · rintro ⟨m, e, h⟩; injection e with e; rw [map_inj' (fun _ _ => pD_inj) e]; exact h
  · intro h; exact ⟨l, rfl, h⟩
@[simp] theorem asLP_nil {X : List P2 → Prop} : asLP (.list []) X ↔ X [] := asLP_b (l := [])
def tP (l : List P2) : D := .tuple (l.map pD)
def asTP (d : D) (X : List P2 → Prop) : Prop := ∃ l : List P2, d = tP l ∧ X l
@[simp] theorem asTP_b {l : List P2} {X : List P2 → Prop} : asTP (tP l) X ↔ X l := by
  constructor
  · rintro ⟨m, e, h⟩; unfold tP at e; injection e with e; rw [map_inj' (fun _ _ => pD_inj) e]; exact h
  · intro h; exact ⟨l, rfl, h⟩
/-- a top and its rest -/
def cD (a : P2 × P2) : D := .tuple [pD a.1, pD a.2]
theorem cD_inj {a b : P2 × P2} (h : cD a = cD b) : a = b := by
  unfold cD at h
  injection h with h; injection h with h1 h2; injection h2 with h2
  exact Prod.ext (pD_inj h1) (pD_inj h2)
def rD (R : Ring) : D := .tuple (R.map cD)
def asR (d : D) (X : Ring → Prop) : Prop := ∃ R : Ring, d = rD R ∧ X R
@[simp] theorem asR_b {R : Ring} {X : Ring → Prop} : asR (rD R) X ↔ X R := by
  constructor
  · rintro ⟨m, e, h⟩; unfold rD at e; injection e with e; rw [map_inj' (fun _ _ => cD_inj) e]; exact h
  · intro h; exact ⟨R, rfl, h⟩
def asTI (d : D) (X : List Int → Prop) : Prop := ∃ ns : List Int, d = .tuple (ns.map .int) ∧ X ns
@[simp] theorem asTI_b {i j : Int} {X : List Int → Prop} : asTI (.tuple [.int i, .int j]) X ↔ X [i, j] := by
  constructor
  · rintro ⟨ns, e, h⟩
    injection e with e
    have : ns = [i, j] := map_inj' (f := PyData.int) (fun _ _ h => by injection h) (by rw [← e]; rfl)
    rw [← this]; exact h
  · intro h; exact ⟨[i, j], rfl, h⟩
@[simp] theorem asTI_m {ns : List Int} {X : List Int → Prop} : asTI (.tuple (ns.map .int)) X ↔ X ns := by
  constructor
  · rintro ⟨ms, e, h⟩
    injection e with e
    rw [map_inj' (f := PyData.int) (fun _ _ h => by injection h) e]; exact h
  · intro h; exact ⟨ns, rfl, h⟩
def asC (ds : List D) (X : D → List D → Prop) : Prop := ∃ d r, ds = d :: r ∧ X d r
@[simp] theorem asC_b {d : D} {r : List D} {X : D → List D → Prop} : asC (d :: r) X ↔ X d r := by
  constructor
  · rintro ⟨d', e', e, h⟩; cases e; exact h
  · intro h; exact ⟨d, r, rfl, h⟩
def asI (d : D) (X : Int → Prop) : Prop := ∃ i, d = .int i ∧ X i
@[simp] theorem asI_b {i : Int} {X : Int → Prop} : asI (.int i) X ↔ X i := by
  constructor
  · rintro ⟨i', e, h⟩; cases e; exact h
  · intro h; exact ⟨i, rfl, h⟩
def asI1 (ds : List D) (X : Int → Prop) : Prop := ∃ i, ds = [.int i] ∧ X i
@[simp] theorem asI1_b {i : Int} {X : Int → Prop} : asI1 [.int i] X ↔ X i := by
  constructor
  · rintro ⟨i', e, h⟩; cases e; exact h
  · intro h; exact ⟨i, rfl, h⟩
def asI2 (ds : List D) (X : Int → Int → Prop) : Prop := ∃ i j, ds = [.int i, .int j] ∧ X i j
@[simp] theorem asI2_b {i j : Int} {X : Int → Int → Prop} : asI2 [.int i, .int j] X ↔ X i j := by
  constructor
  · rintro ⟨i', j', e, h⟩; cases e; exact h
  · intro h; exact ⟨i, j, rfl, h⟩
def asL (d : D) (X : List D → Prop) : Prop := ∃ ds, d = .list ds ∧ X ds
@[simp] theorem asL_b {ds : List D} {X : List D → Prop} : asL (.list ds) X ↔ X ds := by
  constructor
  · rintro ⟨i', e, h⟩; cases e; exact h
  · intro h; exact ⟨ds, rfl, h⟩
def asT (d : D) (X : List D → Prop) : Prop := ∃ ds, d = .tuple ds ∧ X ds
@[simp] theorem asT_b {ds : List D} {X : List D → Prop} : asT (.tuple ds) X ↔ X ds := by
  constructor
  · rintro ⟨i', e, h⟩; cases e; exact h
  · intro h; exact ⟨ds, rfl, h⟩
def asS (d : D) (X : Str → Prop) : Prop := ∃ z, d = .str z ∧ X z
@[simp] theorem asS_b {z : Str} {X : Str → Prop} : asS (.str z) X ↔ X z := by
  constructor
  · rintro ⟨i', e, h⟩; cases e; exact h
  · intro h; exact ⟨z, rfl, h⟩
def asO (o : Option Sl) (X : Addr → List D → Prop) : Prop := ∃ p ds, o = some (.own p (.list ds)) ∧ X p ds
@[simp] theorem asO_b {p : Addr} {ds : List D} {X : Addr → List D → Prop} : asO (some (.own p (.list ds))) X ↔ X p ds := by
  constructor
  · rintro ⟨p', d', e, h⟩; cases e; exact h
  · intro h; exact ⟨p, ds, rfl, h⟩
def asOA (o : Option Sl) (X : Addr → D → Prop) : Prop := ∃ p ds, o = some (.own p ds) ∧ X p ds
@[simp] theorem asOA_b {p : Addr} {ds : D} {X : Addr → D → Prop} : asOA (some (.own p ds)) X ↔ X p ds := by
  constructor
  · rintro ⟨p', d', e, h⟩; cases e; exact h
  · intro h; exact ⟨p, ds, rfl, h⟩
def asOD (o : Option Sl) (X : Addr → List (List Int × D) → Prop) : Prop := ∃ p acc, o = some (.own p (dicD acc)) ∧ X p acc
@[simp] theorem asOD_b {p : Addr} {acc : List (List Int × D)} {X : Addr → List (List Int × D) → Prop} : asOD (some (.own p (dicD acc))) X ↔ X p acc := by
  constructor
  · rintro ⟨p', d', e, h⟩
    have e := Option.some.inj e
    injection e with e1 e2
    rw [e1, dicD_inj e2]; exact h
  · intro h; exact ⟨p, acc, rfl, h⟩
def asV (o : Option Sl) (X : D → Prop) : Prop := ∃ d, o = some (.dat d) ∧ X d
@[simp] theorem asV_b {d : D} {X : D → Prop} : asV (some (.dat d)) X ↔ X d := by
  constructor
  · rintro ⟨d', e, h⟩; cases e; exact h
  · intro h; exact ⟨d, rfl, h⟩
def asK (d : D) (X : List (List Int × D) → Prop) : Prop := ∃ acc, d = dicD acc ∧ X acc
theorem dicD_inj' {a b : List (List Int × D)} (h : dicD a = dicD b) : a = b := dicD_inj h
@[simp] theorem asK_b {acc : List (List Int × D)} {X : List (List Int × D) → Prop} : asK (dicD acc) X ↔ X acc := by
  constructor
  · rintro ⟨a', e, h⟩; rw [dicD_inj' e]; exact h
  · intro h; exact ⟨acc, rfl, h⟩
def asB (d : D) (X : Bool → Prop) : Prop := ∃ k, d = .bool k ∧ X k
@[simp] theorem asB_b {k : Bool} {X : Bool → Prop} : asB (.bool k) X ↔ X k := by
  constructor
  · rintro ⟨k', e, h⟩; cases e; exact h
  · intro h; exact ⟨k, rfl, h⟩
section
variable {ρ : DL.Env} {b : Bag} {Φ : D → Bag → Prop} {Ψ : Out → Prop} {Θ : List D → Bag → Prop} {Τ : Bool → Bag → Prop} {Γ : DL.Env → Prop}
@[simp] theorem rVar {i : Nat} : wVar i ρ b Φ ↔ asV (ρ[i]?) fun d => Φ d b := Iff.rfl
@[simp] theorem rC {d : D} : wC d ρ b Φ ↔ Φ d b := Iff.rfl
@[simp] theorem rNil : wNil ρ b Θ ↔ Θ [] b := Iff.rfl
@[simp] theorem rCons {w : WE} {r : WA} : wCons w r ρ b Θ ↔ w ρ b fun d b1 => r ρ b1 fun ds b2 => Θ (d :: ds) b2 := Iff.rfl
@[simp] theorem rTup {w : WA} : wTup w ρ b Φ ↔ w ρ b fun ds b1 => ds.length ≤ sizeLine ∧ Φ (.tuple ds) b1 := Iff.rfl
@[simp] theorem rLst {w : WA} : wLst w ρ b Φ ↔ w ρ b fun ds b1 => ds.length ≤ sizeLine ∧ Φ (.list ds) b1 := Iff.rfl
@[simp] theorem rw2 {o : Op2} {u v : WE} : w2 o u v ρ b Φ ↔ u ρ b fun d b1 => v ρ b1 fun e b2 => o d e fun f => Φ f b2 := Iff.rfl
@[simp] theorem rB {w : WE} : wB w ρ b Τ ↔ w ρ b fun d b1 => asB d fun k => Τ k b1 := Iff.rfl
@[simp] theorem rAnd {t u : WT} : wAnd t u ρ b Τ ↔ t ρ b fun k b1 => if k = true then u ρ b1 Τ else Τ false b1 := Iff.rfl
@[simp] theorem rOr {t u : WT} : wOr t u ρ b Τ ↔ t ρ b fun k b1 => if k = true then Τ true b1 else u ρ b1 Τ := Iff.rfl
@[simp] theorem rNot {t : WT} : wNot t ρ b Τ ↔ t ρ b fun k b1 => Τ (!k) b1 := Iff.rfl
@[simp] theorem rAndV {t u : WE} : wAndV t u ρ b Φ ↔ t ρ b fun d b1 => asB d fun k => if k = true then u ρ b1 Φ else Φ (.bool false) b1 := Iff.rfl
@[simp] theorem rOrV {t u : WE} : wOrV t u ρ b Φ ↔ t ρ b fun d b1 => asB d fun k => if k = true then Φ (.bool true) b1 else u ρ b1 Φ := Iff.rfl
@[simp] theorem rNotV {t : WE} : wNotV t ρ b Φ ↔ t ρ b fun d b1 => asB d fun k => Φ (.bool (!k)) b1 := Iff.rfl
@[simp] theorem rIfE {t : WT} {u w : WE} : wIfE t u w ρ b Φ ↔ t ρ b fun k b1 => if k = true then u ρ b1 Φ else w ρ b1 Φ := Iff.rfl
@[simp] theorem rFn {o : OpF} {w : WA} : wFn o w ρ b Φ ↔ w ρ b fun ds b1 => o ds fun d => Φ d b1 := Iff.rfl
@[simp] theorem rCall {S : SpF} {w : WA} : wCall S w ρ b Φ ↔ w ρ b fun ds b1 => S ds fun d => Φ d b1 := Iff.rfl
@[simp] theorem rCallB {i : Nat} {S : SpB} {w : WA} : wCallB i S w ρ b Φ ↔ ρ[i]? = some .bag ∧ w ρ b fun ds b1 => S b1 ds Φ := Iff.rfl
@[simp] theorem rCallV {i : Nat} {f : Addr} {S : SpF} {w : WA} : wCallV i f S w ρ b Φ ↔ ρ[i]? = some (.fn f) ∧ w ρ b fun ds b1 => S ds fun d => Φ d b1 := Iff.rfl
@[simp] theorem rCallT {S : SpT} {w : WE} : wCallT S w ρ b Φ ↔ w ρ b fun d b1 => S d fun d' => Φ d' b1 := Iff.rfl
@[simp] theorem rPn {Τ : Option Int → Bag → Prop} : wPn ρ b Τ ↔ Τ none b := Iff.rfl
@[simp] theorem rPs {w : WE} {Τ : Option Int → Bag → Prop} : wPs w ρ b Τ ↔ w ρ b fun d b1 => asI d fun i => Τ (some i) b1 := Iff.rfl
@[simp] theorem rSl {w : WE} {lo hi : WO} : wSl w lo hi ρ b Φ ↔ w ρ b fun d b1 => lo ρ b1 fun l b2 => hi ρ b2 fun u b3 => oSl l u d fun f => Φ f b3 := Iff.rfl
@[simp] theorem rLend {i : Nat} {w : WE} : wLend i w ρ b Φ ↔ asO (ρ[i]?) fun p ds => w ((bare ρ).set i (.dat (.list ds))) b fun d _ => flat d = true ∧ Φ d b := Iff.rfl
@[simp] theorem rLendT {i : Nat} {w : WT} : wLendT i w ρ b Τ ↔ asO (ρ[i]?) fun p ds => w ((bare ρ).set i (.dat (.list ds))) b fun k _ => Τ k b := Iff.rfl
@[simp] theorem rIsN {w : WE} : wIsN w ρ b Φ ↔ w ρ b fun d b1 => Φ (.bool (isNone d)) b1 := Iff.rfl
@[simp] theorem rNotN {w : WE} : wNotN w ρ b Φ ↔ w ρ b fun d b1 => Φ (.bool (!isNone d)) b1 := Iff.rfl
@[simp] theorem rStar {w : WE} {r : WA} : wStar w r ρ b Θ ↔ w ρ b fun d b1 => itD d fun xs => r ρ b1 fun ds b2 => Θ (xs ++ ds) b2 := Iff.rfl
@[simp] theorem rIsT {T : String} {w : WE} : wIsT T w ρ b Φ ↔ w ρ b fun d b1 => isDict d = false ∧ Φ (.bool (isT T d)) b1 := Iff.rfl
@[simp] theorem rNeg {w : WE} : wNeg w ρ b Φ ↔ w ρ b fun d b1 => asI d fun i => Φ (.int (-i)) b1 := Iff.rfl
@[simp] theorem rRev {w : WE} : wRev w ρ b Φ ↔ w ρ b fun d b1 => asL d fun ds => Φ (.list ds.reverse) b1 := Iff.rfl
@[simp] theorem rBagI {i k : Nat} : wBagI i k ρ b Φ ↔ ρ[i]? = some .bag ∧ Φ (bagD b k) b := Iff.rfl
@[simp] theorem rSortSet {w : WE} : wSortSet w ρ b Φ ↔ w ρ b fun d b1 => oSortSet [d] fun e => Φ e b1 := Iff.rfl
@[simp] theorem rSort2 {wk wv wl wm : WE} : wSort2 wk wv wl wm ρ b Φ ↔ wk ρ b fun k b1 => wv ρ b1 fun _ b2 => wl ρ b2 fun l b3 => wm ρ b3 fun _ b4 => ∃ m n : Int, k = .int m ∧ l = .int n ∧ Φ (.list ((srt2 m n).map .int)) b4 := Iff.rfl
@[simp] theorem rIxK {w u : WE} : wIxK w u ρ b Φ ↔ w ρ b fun d b1 => u ρ b1 fun k b2 => asK d fun acc => asTI k fun ns => ∃ q : List Int × D, (acc.find? fun r => decide (r.1 = ns)) = some q ∧ Φ q.2 b2 := by
  have e : ∀ (d k : D) (b2 : Bag), (∃ (acc : List (List Int × D)) (ns : List Int) (q : List Int × D), d = dicD acc ∧ k = .tuple (ns.map .int) ∧ (acc.find? fun r => decide (r.1 = ns)) = some q ∧ Φ q.2 b2) = (asK d fun acc => asTI k fun ns => ∃ q : List Int × D, (acc.find? fun r => decide (r.1 = ns)) = some q ∧ Φ q.2 b2) := fun d k b2 => propext
    ⟨fun ⟨acc, ns, q, h1, h2, h3⟩ => ⟨acc, h1, ns, h2, q, h3⟩, fun ⟨acc, h1, ns, h2, q, h3⟩ => ⟨acc, ns, q, h1, h2, h3⟩⟩
  unfold wIxK
  simp only [e]
@[simp] theorem rNotInK {u w : WE} : wNotInK u w ρ b Τ ↔ u ρ b fun k b1 => w ρ b1 fun d b2 => asK d fun acc => asTI k fun ns => Τ (!(acc.find? fun r => decide (r.1 = ns)).isSome) b2 := by
  have e : ∀ (d k : D) (b2 : Bag), (∃ (acc : List (List Int × D)) (ns : List Int), d = dicD acc ∧ k = .tuple (ns.map .int) ∧ Τ (!(acc.find? fun r => decide (r.1 = ns)).isSome) b2) = (asK d fun acc => asTI k fun ns => Τ (!(acc.find? fun r => decide (r.1 = ns)).isSome) b2) := fun d k b2 => propext
    ⟨fun ⟨acc, ns, h1, h2, h3⟩ => ⟨acc, h1, ns, h2, h3⟩, fun ⟨acc, h1, ns, h2, h3⟩ => ⟨acc, ns, h1, h2, h3⟩⟩
  unfold wNotInK
  simp only [e]
@[simp] theorem rItems {w : WE} : wItems w ρ b Θ ↔ w ρ b fun d b1 => asK d fun acc => Θ (itemsD acc) b1 := Iff.rfl
@[simp] theorem rDicK {w : WE} : wDicK w ρ b Θ ↔ w ρ b fun d b1 => asK d fun acc => Θ (keysD acc) b1 := Iff.rfl
@[simp] theorem rIt {w : WE} : wIt w ρ b Θ ↔ w ρ b fun d b1 => itD d fun ds => Θ ds b1 := Iff.rfl
@[simp] theorem rItS {w : WE} : wItS w ρ b Θ ↔ w ρ b fun d b1 => asS d fun x => Θ (strD x) b1 := Iff.rfl
@[simp] theorem rRg1 {w : WA} : wRg1 w ρ b Θ ↔ w ρ b fun ds b1 => asI1 ds fun j => -(2 ^ 62) ≤ j ∧ j < 2 ^ 62 ∧ Θ (rgD 0 j) b1 := Iff.rfl
@[simp] theorem rRg2 {w : WA} : wRg2 w ρ b Θ ↔ w ρ b fun ds b1 => asI2 ds fun i j => (-(2 ^ 62) ≤ i ∧ i < 2 ^ 62 ∧ -(2 ^ 62) ≤ j ∧ j < 2 ^ 62) ∧ Θ (rgD i j) b1 := Iff.rfl
@[simp] theorem rRg3 {w : WA} : wRg3 w ρ b Θ ↔ w ρ b fun ds b1 => ∃ (i j c : Int) (n : Nat), ds = [.int i, .int j, .int c] ∧ RgC i j c n ∧ Θ (rgC i c n) b1 := Iff.rfl
@[simp] theorem rZip {w : WA} : wZip w ρ b Θ ↔ w ρ b fun ds b1 => zipDD ds fun es => Θ es b1 := Iff.rfl
@[simp] theorem rEnum {w : WE} : wEnum w ρ b Θ ↔ w ρ b fun d b1 => itD d fun ds => Θ (enumD ds) b1 := Iff.rfl
@[simp] theorem rYes : wYes ρ b Τ ↔ Τ true b := Iff.rfl
@[simp] theorem rLc {wi : WA} {g : WG} {t : WT} {w : WE} {vs : List Nat} : wLc wi g t w vs ρ b Φ ↔ wi ρ b fun ds b1 => runLc g t w (wipeE (deown ρ) vs) ds [] b1 fun acc b2 => Φ (.list acc) b2 := Iff.rfl
@[simp] theorem rLc2 {wi wi1 : WA} {g g1 : WG} {w : WE} {vs vs1 : List Nat} : wLc2 wi g wi1 g1 w vs vs1 ρ b Φ ↔ wi ρ b fun ds b1 => runLc2 g wi1 g1 w vs1 (wipeE (deown ρ) vs) ds [] b1 fun acc b2 => Φ (.list acc) b2 := Iff.rfl
@[simp] theorem rDc {wi : WA} {g : WG} {wk wv : WE} {vs : List Nat} : wDc wi g wk wv vs ρ b Φ ↔ wi ρ b fun ds b1 => runDc g wk wv (wipeE (deown ρ) vs) ds [] b1 fun acc b2 => Φ (dicD acc) b2 := Iff.rfl
@[simp] theorem rgN {i : Nat} {d : D} : gN i d ρ Γ ↔ i < ρ.length ∧ Γ (ρ.set i (.dat d)) := Iff.rfl
@[simp] theorem rgNl {ds : List D} : gNl ds ρ Γ ↔ ds = [] ∧ Γ ρ := Iff.rfl
@[simp] theorem rgCs {w : WG} {u : WGs} {ds : List D} : gCs w u ds ρ Γ ↔ asC ds fun d r => w d ρ fun ρ' => u r ρ' Γ := Iff.rfl
@[simp] theorem rgT {n : Nat} {u : WGs} {d : D} : gT n u d ρ Γ ↔ asT d fun ds => ds.length = n ∧ u ds ρ Γ := Iff.rfl
@[simp] theorem rAsg {w : WE} {g : WG} : sAsg w g ρ b Ψ ↔ w ρ b fun d b1 => g d ρ fun ρ' => Ψ (.nx ρ' b1) := Iff.rfl
@[simp] theorem rSet {i : Nat} {w : WE} : sSet i w ρ b Ψ ↔ w ρ b fun d b1 => i < ρ.length ∧ Ψ (.nx (ρ.set i (.dat d)) b1) := Iff.rfl
@[simp] theorem rOwn {i : Nat} : sOwn i ρ b Ψ ↔ i < ρ.length ∧ ∀ p, Ψ (.nx (ρ.set i (.own p (.list []))) b) := Iff.rfl
@[simp] theorem rOwnD {i : Nat} : sOwnD i ρ b Ψ ↔ i < ρ.length ∧ ∀ p, Ψ (.nx (ρ.set i (.own p (dicD []))) b) := Iff.rfl
@[simp] theorem rParO {i j : Nat} {w : WE} : sParO i j w ρ b Ψ ↔ w ρ b fun d b1 => i < ρ.length ∧ j < ρ.length ∧ ∀ p, Ψ (.nx ((ρ.set i (.dat d)).set j (.own p (.list []))) b1) := Iff.rfl
@[simp] theorem rPar {i j : Nat} {w : WA} : sPar i j w ρ b Ψ ↔ w ρ b fun ds b1 => as2 ds fun d e => i < ρ.length ∧ j < ρ.length ∧ Ψ (.nx ((ρ.set i (.dat d)).set j (.dat e)) b1) := Iff.rfl
@[simp] theorem rFrz {i : Nat} {w : WS} : sFrz i w ρ b Ψ ↔ asOA (ρ[i]?) fun p ds => w (ρ.set i (.dat ds)) b Ψ := Iff.rfl
@[simp] theorem rRet {w : WE} : sRet w ρ b Ψ ↔ w ρ b fun d b1 => Ψ (.rt d b1) := Iff.rfl
@[simp] theorem rDrop {w : WE} : sDrop w ρ b Ψ ↔ w ρ b fun _ b1 => Ψ (.nx ρ b1) := Iff.rfl
@[simp] theorem rIf {t : WT} {u w : WS} : sIf t u w ρ b Ψ ↔ t ρ b fun k b1 => if k = true then u ρ b1 Ψ else w ρ b1 Ψ := Iff.rfl
@[simp] theorem rNever : sNever ρ b Ψ ↔ False := Iff.rfl
@[simp] theorem rBreak : sBreak ρ b Ψ ↔ Ψ (.bk ρ b) := Iff.rfl
@[simp] theorem rPass : sPass ρ b Ψ ↔ Ψ (.nx ρ b) := Iff.rfl
@[simp] theorem rSkip : sSkip ρ b Ψ ↔ Ψ (.nx ρ b) := Iff.rfl
@[simp] theorem rSeq {w u : WS} : sSeq w u ρ b Ψ ↔ w ρ b (bSeq u Ψ) := Iff.rfl
@[simp] theorem rFor {wi : WA} {g : WG} {w : WS} : sFor wi g w ρ b Ψ ↔ wi ρ b fun ds b1 => runFor g w ds ρ b1 Ψ := Iff.rfl
@[simp] theorem rMt {i : Nat} {o : OpM} {w : WA} : sMt i o w ρ b Ψ ↔ asO (ρ[i]?) fun p ds => w ρ b fun es b1 => o ds es fun ds' _ => Ψ (.nx (ρ.set i (.own p (.list ds'))) b1) := Iff.rfl
@[simp] theorem rAug {i : Nat} {w : WE} : sAug i w ρ b Ψ ↔ ∃ m, ρ[i]? = some (.dat (.int m)) ∧ w ρ b fun d b1 => asI d fun n => Ψ (.nx (ρ.set i (.dat (.int (m + n)))) b1) := Iff.rfl
@[simp] theorem rBagS {i k : Nat} {w : WE} : sBagS i k w ρ b Ψ ↔ ρ[i]? = some .bag ∧ w ρ b fun d b1 => asI d fun m => Ψ (.nx ρ (bagS b1 m k)) := Iff.rfl
@[simp] theorem rBagA {i k : Nat} {w : WE} : sBagA i k w ρ b Ψ ↔ ρ[i]? = some .bag ∧ ∃ n, bagD b k = .int n ∧ w ρ b fun d b1 => asI d fun m => Ψ (.nx ρ (bagS b1 (n + m) k)) := Iff.rfl
@[simp] theorem rSetd {i : Nat} {wk wv : WE} : sSetd i wk wv ρ b Ψ ↔ asOD (ρ[i]?) fun p acc => wk ρ b fun dk b1 => asTI dk fun ns => wv ρ b1 fun dv b2 => acc.length < sizeLine ∧ okV dv = true ∧ Ψ (.nx (ρ.set i (.own p (dicD (setP acc ns dv)))) b2) := Iff.rfl
@[simp] theorem bNx {u : WS} : bSeq u Ψ (.nx ρ b) ↔ u ρ b Ψ := Iff.rfl
@[simp] theorem bRt {u : WS} {d : D} : bSeq u Ψ (.rt d b) ↔ Ψ (.rt d b) := Iff.rfl
@[simp] theorem bBk {u : WS} : bSeq u Ψ (.bk ρ b) ↔ Ψ (.bk ρ b) := Iff.rfl
@[simp] theorem bCt {u : WS} : bSeq u Ψ (.ct ρ b) ↔ Ψ (.ct ρ b) := Iff.rfl
@[simp] theorem fRt {d : D} {Ω : D → Bag → Prop} : fin Ω (.rt d b) ↔ Ω d b := Iff.rfl
@[simp] theorem fNx {Ω : D → Bag → Prop} : fin Ω (.nx ρ b) ↔ Ω .none b := Iff.rfl
@[simp] theorem lNx {I : DL.Env → Bag → Prop} : lpK I Ψ (.nx ρ b) ↔ I ρ b := Iff.rfl
@[simp] theorem lCt {I : DL.Env → Bag → Prop} : lpK I Ψ (.ct ρ b) ↔ I ρ b := Iff.rfl
@[simp] theorem lBk {I : DL.Env → Bag → Prop} : lpK I Ψ (.bk ρ b) ↔ Ψ (.nx ρ b) := Iff.rfl
@[simp] theorem lRt {I : DL.Env → Bag → Prop} {d : D} : lpK I Ψ (.rt d b) ↔ Ψ (.rt d b) := Iff.rfl
end
/-! ### operations -/
section
variable {Φ : D → Prop} {i j : Int} {ds es : List D}
@[simp] theorem pAdd : oAddA (.int i) (.int j) Φ ↔ Φ (.int (i + j)) := Iff.rfl
@[simp] theorem pAddL : oAddA (.list ds) (.list es) Φ ↔ ds.length + es.length ≤ sizeLine ∧ Φ (.list (ds ++ es)) := Iff.rfl
@[simp] theorem pAddT : oAddA (.tuple ds) (.tuple es) Φ ↔ ds ≠ [] ∧ ds.length + es.length ≤ sizeLine ∧ Φ (.tuple (ds ++ es)) := Iff.rfl
@[simp] theorem pAddS {x y : Str} : oAddA (.str x) (.str y) Φ ↔ x.length + y.length ≤ sizeLine ∧ Φ (.str (x ++ y)) := Iff.rfl
@[simp] theorem pSub : oSubA (.int i) (.int j) Φ ↔ Φ (.int (i - j)) := Iff.rfl
@[simp] theorem pMul : oMulA (.int i) (.int j) Φ ↔ CMulW i j ∧ Φ (.int (i * j)) := Iff.rfl
@[simp] theorem pDiv : oDivA (.int i) (.int j) Φ ↔ CDivA i j ∧ Φ (.int (i.fdiv j)) := Iff.rfl
@[simp] theorem pMod : oModA (.int i) (.int j) Φ ↔ j ≠ 0 ∧ Φ (.int (i.fmod j)) := Iff.rfl
@[simp] theorem pPow : oPowA (.int i) (.int j) Φ ↔ CPow i j ∧ Φ (.int (i ^ j.toNat)) := Iff.rfl
@[simp] theorem pCmp {f : Int → Int → Bool} : oCmp f (.int i) (.int j) Φ ↔ Φ (.bool (f i j)) := Iff.rfl
@[simp] theorem fLt_e : fLt i j = decide (i < j) := rfl
@[simp] theorem fLe_e : fLe i j = decide (i ≤ j) := rfl
@[simp] theorem fGt_e : fGt i j = decide (j < i) := rfl
@[simp] theorem fGe_e : fGe i j = decide (j ≤ i) := rfl
@[simp] theorem pLenL : oLen [.list ds] Φ ↔ Φ (.int ds.length) := Iff.rfl
@[simp] theorem pLenT : oLen [.tuple ds] Φ ↔ Φ (.int ds.length) := Iff.rfl
@[simp] theorem pLenS {z : Str} : oLen [.str z] Φ ↔ z.length ≤ sizeLine ∧ Φ (.int z.length) := Iff.rfl
@[simp] theorem pAbs : oAbs [.int i] Φ ↔ Φ (.int (absI i)) := by
  have : (if i < 0 then -i else i) = absI i := by unfold absI; split <;> omega
  unfold oAbs; simp only [this]
@[simp] theorem pMax2 : oMax2 [.int i, .int j] Φ ↔ Φ (.int (if j > i then j else i)) := Iff.rfl
@[simp] theorem pMin2 : oMin2 [.int i, .int j] Φ ↔ Φ (.int (if j < i then j else i)) := Iff.rfl
@[simp] theorem pIntI : oInt [.int i] Φ ↔ Φ (.int i) := Iff.rfl
@[simp] theorem pIntB {k : Bool} : oInt [.bool k] Φ ↔ Φ (.int (if k then 1 else 0)) := Iff.rfl
@[simp] theorem pStr : oStrI [.int i] Φ ↔ i.natAbs.log2 < 1920 ∧ Φ (.str (toString i)) := Iff.rfl
@[simp] theorem pGcd : oGcd [.int i, .int j] Φ ↔ Φ (.int (gcdI i j)) := Iff.rfl
@[simp] theorem pListL : oList [.list ds] Φ ↔ Φ (.list ds) := Iff.rfl
@[simp] theorem pListT : oList [.tuple ds] Φ ↔ Φ (.list ds) := Iff.rfl
@[simp] theorem pTupL : oTuple [.list ds] Φ ↔ Φ (.tuple ds) := Iff.rfl
@[simp] theorem pTupT : oTuple [.tuple ds] Φ ↔ Φ (.tuple ds) := Iff.rfl
@[simp] theorem pIxL : oIxA (.list ds) (.int i) Φ ↔ ∃ f, atI ds i = some f ∧ Φ f := Iff.rfl
@[simp] theorem pIxT : oIxA (.tuple ds) (.int i) Φ ↔ ∃ f, atI ds i = some f ∧ Φ f := Iff.rfl
@[simp] theorem pIxS {z : Str} : oIxA (.str z) (.int i) Φ ↔ ∃ c, z.length ≤ sizeLine ∧ atI z.cps.toList i = some c ∧ Φ (.str ⟨#[c]⟩) := Iff.rfl
@[simp] theorem pSlL {lo hi : Option Int} : oSl lo hi (.list ds) Φ ↔ Φ (.list (cutD ds lo hi)) := Iff.rfl
@[simp] theorem pSlT {lo hi : Option Int} : oSl lo hi (.tuple ds) Φ ↔ ¬ (HT.sIx ds.length 0 lo = 0 ∧ HT.sIx ds.length ds.length hi = ds.length) ∧ Φ (.tuple (cutD ds lo hi)) := Iff.rfl
@[simp] theorem pSlS {lo hi : Option Int} {z : Str} : oSl lo hi (.str z) Φ ↔ z.length ≤ sizeLine ∧ Φ (.str (cutS z lo hi)) := Iff.rfl
@[simp] theorem pSplit {x y : Str} : oSplit (.str x) (.str y) Φ ↔ (y.length == 0) = false ∧ x.length + 2 ≤ sizeLine ∧ Φ (.list ((Txt.split x y).map .str)) := Iff.rfl
@[simp] theorem pItL {Ξ : List D → Prop} : itD (.list ds) Ξ ↔ Ξ ds := Iff.rfl
@[simp] theorem pItT {Ξ : List D → Prop} : itD (.tuple ds) Ξ ↔ Ξ ds := Iff.rfl
@[simp] theorem pZipL {Ξ : List D → Prop} : zipDD [.list ds, .list es] Ξ ↔ Ξ (zipD ds es) := Iff.rfl
@[simp] theorem pZipT {Ξ : List D → Prop} : zipDD [.tuple ds, .tuple es] Ξ ↔ Ξ (zipD ds es) := Iff.rfl
end
section
variable {ds : List D} {Φ : List D → D → Prop} {e : D} {i : Int}
@[simp] theorem pIns : mIns ds [.int i, e] Φ ↔ ds.length < sizeLine ∧ 0 ≤ i ∧ i < 2 ^ 63 ∧ Φ (ds.take i.toNat ++ [e] ++ ds.drop i.toNat) .none := by
  unfold mIns
  constructor
  · rintro ⟨i', e', h, h2⟩; cases h; exact h2
  · intro h; exact ⟨i, e, rfl, h⟩
@[simp] theorem pApp : mApp ds [e] Φ ↔ ds.length < sizeLine ∧ Φ (ds ++ [e]) .none := by
  unfold mApp
  constructor
  · rintro ⟨e', h, h2⟩; cases h; exact h2
  · intro h; exact ⟨e, rfl, h⟩
@[simp] theorem pExt {zs : List D} : mExt ds [.list zs] Φ ↔ ds.length + zs.length ≤ sizeLine ∧ Φ (ds ++ zs) .none := by
  unfold mExt
  constructor
  · rintro ⟨e', h, h2⟩; cases h; exact h2
  · intro h; exact ⟨zs, rfl, h⟩
@[simp] theorem pPop : mPop (ds ++ [e]) [] Φ ↔ Φ ds e := by
  unfold mPop
  constructor
  · rintro ⟨e', _, h, h2⟩
    simp at h h2
    rw [h]; exact h2
  · intro h; exact ⟨e, rfl, by simp, by simpa using h⟩
end
/-! ### subscripts -/
theorem at0 {α : Type} {x : α} {l : List α} : atI (x :: l) 0 = some x := by
  unfold atI ixN; simp
theorem at1 {α : Type} {x y : α} {l : List α} : atI (x :: y :: l) 1 = some y := by
  unfold atI ixN
  have : (1 : Int) < ((x :: y :: l).length : Int) := by simp only [List.length_cons]; omega
  rw [if_pos (by decide), if_pos this]; rfl
theorem at2 {α : Type} {x y z : α} {l : List α} : atI (x :: y :: z :: l) 2 = some z := by
  unfold atI ixN
  have : (2 : Int) < ((x :: y :: z :: l).length : Int) := by simp only [List.length_cons]; omega
  rw [if_pos (by decide), if_pos this]; rfl
theorem at_nat {α : Type} {l : List α} {k : Nat} {x : α} (h : l[k]? = some x) : atI l (k : Int) = some x := by
  obtain ⟨h1, h2⟩ := List.getElem?_eq_some_iff.mp h
  unfold atI ixN
  rw [if_pos (by omega), if_pos (by omega)]
  simpa using h
theorem at_int {α : Type} {l : List α} {i : Int} {k : Nat} {x : α} (e : i = (k : Int)) (h : l[k]? = some x) : atI l i = some x := by subst e; exact at_nat h
theorem at_last {α : Type} {l : List α} {x : α} : atI (l ++ [x]) (-1) = some x := by
  unfold atI ixN
  rw [if_neg (by decide), if_pos (by simp only [List.length_append, List.length_singleton]; omega)]
  have : (-1 + ((l ++ [x]).length : Int)).toNat = l.length := by simp only [List.length_append, List.length_singleton]; omega
  rw [Option.bind_some, this]
  simp
/-! ### equality of data -/
section
open PySem.W
theorem layAll_map {α : Type} [DecidableEq α] [Datum α] (h : ∀ a : α, (Datum.toD a).canLay0 = true) : ∀ xs : List α, PyData.canLayAll0 (xs.map Datum.toD) = true
  | [] => rfl
  | x :: xs => by simp only [List.map_cons, PyData.canLayAll0, h x, layAll_map h xs, Bool.and_self]
end
abbrev toD {α : Type} [DecidableEq α] [PySem.W.Datum α] (a : α) : D := PySem.W.Datum.toD a
theorem shaped_toD {α : Type} [DecidableEq α] [PySem.W.Datum α] (h : ∀ a : α, (toD a).canLay0 = true) (h2 : PySem.W.Datum.depth α ≤ 64) (a : α) : SeqAt.shaped (toD a) = true := by
  unfold SeqAt.shaped
  rw [h a, Bool.true_and, decide_eq_true_eq]
  exact Nat.le_trans (PySem.W.Datum.depth_le a) h2
theorem lay_int (a : Int) : (toD a).canLay0 = true := rfl
theorem lay_list {α : Type} [DecidableEq α] [PySem.W.Datum α] (h : ∀ a : α, (toD a).canLay0 = true) (a : List α) : (toD a).canLay0 = true := layAll_map h a
theorem lay_tup {α : Type} [DecidableEq α] [PySem.W.Datum α] (h : ∀ a : α, (toD a).canLay0 = true) (a : PySem.W.Tup α) : (toD a).canLay0 = true := layAll_map h a.items
theorem lay_pair {α β : Type} [DecidableEq α] [PySem.W.Datum α] [DecidableEq β] [PySem.W.Datum β] (h : ∀ a : α, (toD a).canLay0 = true) (h' : ∀ a : β, (toD a).canLay0 = true) (a : α × β) : (toD a).canLay0 = true := by
  show PyData.canLayAll0 [_, _] = true
  simp only [PyData.canLayAll0, Bool.and_true, Bool.and_eq_true]
  exact ⟨h _, h' _⟩
theorem lay_p2 (a : P2) : (toD a).canLay0 = true := lay_pair lay_int lay_int a
@[simp] theorem sh_int {i : Int} : SeqAt.shaped (.int i) = true := rfl
@[simp] theorem sh_bool {i : Bool} : SeqAt.shaped (.bool i) = true := rfl
@[simp] theorem sh_none : SeqAt.shaped .none = true := rfl
@[simp] theorem sh_pp {i j : Int} : SeqAt.shaped (.tuple [.int i, .int j]) = true := shaped_toD lay_p2 (by decide) (i, j)
@[simp] theorem sh_nil : SeqAt.shaped (.list []) = true := rfl
@[simp] theorem sh_lp {l : List P2} : SeqAt.shaped (.list (l.map pD)) = true := shaped_toD (lay_list lay_p2) (by decide) l
@[simp] theorem sh_tp {l : List P2} : SeqAt.shaped (.tuple (l.map pD)) = true := shaped_toD (lay_tup lay_p2) (by decide) (PySem.W.Tup.mk l)
@[simp] theorem sh_ln {l : List Int} : SeqAt.shaped (.list (l.map .int)) = true := shaped_toD (lay_list lay_int) (by decide) l
@[simp] theorem sh_tn {l : List Int} : SeqAt.shaped (.tuple (l.map .int)) = true := shaped_toD (lay_tup lay_int) (by decide) (PySem.W.Tup.mk l)
@[simp] theorem ev_int {i j : Int} : PyData.eqv (.int i) (.int j) = decide (i = j) := PySem.W.Datum.eqv i j
@[simp] theorem ev_bool {i j : Bool} : PyData.eqv (.bool i) (.bool j) = decide (i = j) := PySem.W.Datum.eqv i j
@[simp] theorem ev_str {i j : Str} : PyData.eqv (.str i) (.str j) = decide (i = j) := PySem.W.Datum.eqv i j
@[simp] theorem ev_pp {i j k l : Int} : PyData.eqv (.tuple [.int i, .int j]) (.tuple [.int k, .int l]) = decide (((i, j) : P2) = (k, l)) := PySem.W.Datum.eqv ((i, j) : P2) (k, l)
@[simp] theorem ev_lp {l m : List P2} : PyData.eqv (.list (l.map pD)) (.list (m.map pD)) = decide (l = m) := PySem.W.Datum.eqv l m
@[simp] theorem ev_tp {l m : List P2} : PyData.eqv (.tuple (l.map pD)) (.tuple (m.map pD)) = decide (l = m) := by
  simp only [PyData.eqv]; exact PySem.W.eqvAll_map l m
@[simp] theorem ev_ln {l m : List Int} : PyData.eqv (.list (l.map .int)) (.list (m.map .int)) = decide (l = m) := PySem.W.Datum.eqv l m
@[simp] theorem ev_tn {l m : List Int} : PyData.eqv (.tuple (l.map .int)) (.tuple (m.map .int)) = decide (l = m) := by
  simp only [PyData.eqv]; exact PySem.W.eqvAll_map l m
@[simp] theorem pEq {neg : Bool} {d e : D} {Φ : D → Prop} : oEqA neg d e Φ ↔ SeqAt.shaped d = true ∧ SeqAt.shaped e = true ∧ Φ (.bool (PyData.eqv d e != neg)) := Iff.rfl
@[simp] theorem pIn {neg : Bool} {d : D} {ds : List D} {Φ : D → Prop} : oIn neg d (.list ds) Φ ↔ SeqAt.shaped d = true ∧ SeqAt.shaped (.list ds) = true ∧ Φ (.bool (if neg then !(ds.any fun z => PyData.eqv z d) else ds.any fun z => PyData.eqv z d)) := by
  unfold oIn
  constructor
  · rintro ⟨ds', e, h⟩; cases e; exact h
  · intro h; exact ⟨ds, rfl, h⟩
@[simp high] theorem pInP {neg : Bool} {i j : Int} {l : List P2} {Φ : D → Prop} : oIn neg (.tuple [.int i, .int j]) (.list (l.map pD)) Φ ↔ Φ (.bool (if neg then !decide (((i, j) : P2) ∈ l) else decide (((i, j) : P2) ∈ l))) := by
  have e : ((l.map pD).any fun z => PyData.eqv z (.tuple [.int i, .int j])) = decide (((i, j) : P2) ∈ l) := (PySem.W.any_datum l ((i, j) : P2)).trans (decide_eq_decide.mpr Iff.rfl)
  rw [pIn, e]
  exact ⟨fun h => h.2.2, fun h => ⟨sh_pp, sh_lp, h⟩⟩
@[simp] theorem cut_take {α : Type} {xs : List α} {k : Nat} : cutD xs none (some (k : Int)) = xs.take k := by
  unfold cutD
  rw [HT.sIx_none, HT.sIx_nat, List.drop_zero, Nat.sub_zero]
  by_cases h : k ≤ xs.length
  · rw [Nat.min_eq_left h]
  · rw [Nat.min_eq_right (by omega), List.take_length, List.take_of_length_le (by omega)]
@[simp] theorem cut_drop {α : Type} {xs : List α} {k : Nat} : cutD xs (some (k : Int)) none = xs.drop k := by
  unfold cutD
  rw [HT.sIx_none, HT.sIx_nat]
  by_cases h : k ≤ xs.length
  · rw [Nat.min_eq_left h, List.take_of_length_le (by rw [List.length_drop]; omega)]
  · rw [Nat.min_eq_right (by omega), List.drop_length, List.drop_eq_nil_of_le (by omega)]; simp
theorem any_p {l : List P2} {p : P2} : ((l.map pD).any fun z => PyData.eqv z (pD p)) = decide (p ∈ l) := (PySem.W.any_datum l p).trans (decide_eq_decide.mpr Iff.rfl)
@[simp] theorem sl_eq : sizeLine = 16777216 := rfl
/-! ### loops -/
section
theorem for_ind {g : WG} {w : WS} {Ψ : Out → Prop} (I : List D → DL.Env → Bag → Prop) (step : ∀ d r ρ b, I (d :: r) ρ b → ∀ X : DL.Env → Bag → Prop, (∀ ρ b, I r ρ b → X ρ b) → g d ρ fun ρ' => w ρ' b (lpK X Ψ))
    (stop : ∀ ρ b, I [] ρ b → Ψ (.nx ρ b)) : ∀ (ds : List D) (ρ : DL.Env) (b : Bag), I ds ρ b → runFor g w ds ρ b Ψ
  | [], ρ, b, h => stop ρ b h
  | d :: r, ρ, b, h => step d r ρ b h _ fun ρ b h => for_ind I step stop r ρ b h
/-- a walk over items told by a list -/
theorem for_l {α : Type} {g : WG} {w : WS} {Ψ : Out → Prop} (enc : α → D) (I : List α → DL.Env → Bag → Prop) (step : ∀ a r ρ b, I (a :: r) ρ b → ∀ X : DL.Env → Bag → Prop, (∀ ρ b, I r ρ b → X ρ b) → g (enc a) ρ fun ρ' => w ρ' b (lpK X Ψ))
    (stop : ∀ ρ b, I [] ρ b → Ψ (.nx ρ b)) : ∀ (l : List α) (ρ : DL.Env) (b : Bag), I l ρ b → runFor g w (l.map enc) ρ b Ψ
  | [], ρ, b, h => stop ρ b h
  | d :: r, ρ, b, h => step d r ρ b h _ fun ρ b h => for_l enc I step stop r ρ b h
theorem lc_l {α : Type} {g : WG} {t : WT} {w : WE} {ρ : DL.Env} {Θ : List D → Bag → Prop} (enc : α → D) (I : List α → List D → Bag → Prop)
    (step : ∀ a r acc b, I (a :: r) acc b → ∀ X : List D → Bag → Prop, (∀ acc b, I r acc b → X acc b) → g (enc a) ρ fun ρ' => t ρ' b fun k b1 => if k = true then w ρ' b1 fun e b2 => acc.length < sizeLine ∧ X (acc ++ [e]) b2 else X acc b1)
    (stop : ∀ acc b, I [] acc b → Θ acc b) : ∀ (l : List α) (acc : List D) (b : Bag), I l acc b → runLc g t w ρ (l.map enc) acc b Θ
  | [], acc, b, h => stop acc b h
  | a :: r, acc, b, h => step a r acc b h _ fun acc b h => lc_l enc I step stop r acc b h
theorem dc_l {α : Type} {g : WG} {wk wv : WE} {ρ : DL.Env} {Θ : List (List Int × D) → Bag → Prop} (enc : α → D) (I : List α → List (List Int × D) → Bag → Prop)
    (step : ∀ a r acc b, I (a :: r) acc b → ∀ X : List (List Int × D) → Bag → Prop, (∀ acc b, I r acc b → X acc b) → g (enc a) ρ fun ρ' => wk ρ' b fun dk b1 => asTI dk fun ns => wv ρ' b1 fun dv b2 => acc.length < sizeLine ∧ okV dv = true ∧ X (putP acc ns dv) b2)
    (stop : ∀ acc b, I [] acc b → Θ acc b) : ∀ (l : List α) (acc : List (List Int × D)) (b : Bag), I l acc b → runDc g wk wv ρ (l.map enc) acc b Θ
  | [], acc, b, h => stop acc b h
  | a :: r, acc, b, h => step a r acc b h _ fun acc b h => dc_l enc I step stop r acc b h
/-- a dict of its items, for order and for what is told apart -/
def keysL (l : List P2) : List (List Int × D) := (dedup l).map fun p => ([p.1, p.2], .bool true)
theorem put_keys {l : List P2} {p : P2} : putP (keysL l) [p.1, p.2] (.bool true) = keysL (l ++ [p]) := by
  unfold putP keysL
  rw [dedup_snoc]
  have e : (((dedup l).map fun p => (([p.1, p.2], .bool true) : List Int × D)).any fun r => decide (r.1 = [p.1, p.2])) = decide (p ∈ dedup l) := by
    rw [Bool.eq_iff_iff, List.any_eq_true, decide_eq_true_eq]
    constructor
    · rintro ⟨x, hx, h⟩
      obtain ⟨q, hq, rfl⟩ := List.mem_map.mp hx
      have h := of_decide_eq_true h
      have : q = p := Prod.ext (by simpa using (List.cons.inj h).1) (by simpa using (List.cons.inj (List.cons.inj h).2).1)
      rw [← this]; exact hq
    · intro h; exact ⟨_, List.mem_map.mpr ⟨p, h, rfl⟩, by simp⟩
  rw [e]
  by_cases h : p ∈ dedup l
  · rw [if_pos (decide_eq_true h), if_pos h, List.map_map]
    apply List.map_congr_left
    intro q _
    show (if ([q.1, q.2] : List Int) = [p.1, p.2] then _ else _) = _
    by_cases z : ([q.1, q.2] : List Int) = [p.1, p.2]
    · rw [if_pos z]
    · rw [if_neg z]
  · rw [if_neg (by simpa using h), if_neg h, List.map_append]; rfl
theorem keys_keys {l : List P2} : keysD (keysL l) = (dedup l).map pD := by
  unfold keysD keysL
  rw [List.map_map]; rfl
theorem dedup_len (l : List P2) : (dedup l).length ≤ l.length := by
  refine snoc_ind (Q := fun l => (dedup l).length ≤ l.length) (Nat.le_refl _) (fun l x ih => ?_) l
  rw [dedup_snoc]
  split
  · rw [List.length_append]; omega
  · simp only [List.length_append, List.length_singleton]; omega
/-- one clause with a test, the bag let be -/
theorem lc_filt {α : Type} {g : WG} {t : WT} {w : WE} {ρ : DL.Env} {b : Bag} {Θ : List D → Bag → Prop} (enc : α → D) (p : α → Bool) (f : α → D) (l : List α) (hz : l.length < sizeLine)
    (h : ∀ a ∈ l, ∀ X : Bool → D → Bag → Prop, (p a = true → X true (f a) b) → (p a = false → X false .none b) → g (enc a) ρ fun ρ' => t ρ' b fun k b1 => if k = true then w ρ' b1 (X true) else X false .none b1)
    (hq : Θ ((l.filter p).map f) b) : runLc g t w ρ (l.map enc) [] b Θ := by
  refine lc_l enc (fun r acc b' => b' = b ∧ ∃ q, l = q ++ r ∧ acc = (q.filter p).map f) (fun a r acc b' hI X hX => ?_) (fun acc b' hI => ?_) l [] b ⟨rfl, [], rfl, rfl⟩
  · obtain ⟨rfl, q, e, rfl⟩ := hI
    have hlen : ((q.filter p).map f).length < sizeLine := by
      have h1 := List.length_filter_le p q
      have h2 := congrArg List.length e
      simp only [List.length_append, List.length_map, List.length_cons] at h2 ⊢
      omega
    have hm : a ∈ l := by rw [e]; simp
    have := h a hm (fun k d b2 => if k = true then ((q.filter p).map f).length < sizeLine ∧ X ((q.filter p).map f ++ [d]) b2 else X ((q.filter p).map f) b2) (fun hp => ?_) (fun hp => ?_)
    · exact this
    · show _ ∧ _
      refine ⟨hlen, hX _ _ ⟨rfl, q ++ [a], by rw [e]; simp, ?_⟩⟩
      simp [hp]
    · show X _ _
      refine hX _ _ ⟨rfl, q ++ [a], by rw [e]; simp, ?_⟩
      simp [hp]
  · obtain ⟨rfl, q, e, rfl⟩ := hI
    rw [List.append_nil] at e
    rw [← e]; exact hq
/-- one clause, no test, the bag let be -/
theorem lc_map {α : Type} {g : WG} {w : WE} {ρ : DL.Env} {b : Bag} {Θ : List D → Bag → Prop} (enc : α → D) (f : α → D) (l : List α) (hz : l.length < sizeLine)
    (h : ∀ a ∈ l, ∀ X : D → Bag → Prop, X (f a) b → g (enc a) ρ fun ρ' => w ρ' b X)
    (hq : Θ (l.map f) b) : runLc g wYes w ρ (l.map enc) [] b Θ := by
  refine lc_filt enc (fun _ => true) f l hz (fun a ha X h1 _ => ?_) (by rw [List.filter_eq_self.mpr (fun _ _ => rfl)]; exact hq)
  have := h a ha (X true) (h1 rfl)
  exact this
end
/-! ### rings -/
def rt (R : Ring) (k : Nat) : P2 × P2 := R.getD k ((1, 0), (1, 0))
theorem rt_get {R : Ring} {k : Nat} (h : k < R.length) : R[k]? = some (rt R k) := by
  unfold rt; rw [List.getD_eq_getElem?_getD, List.getElem?_eq_getElem h]; rfl
theorem rt_mem {R : Ring} {k : Nat} (h : k < R.length) : rt R k ∈ R := List.mem_of_getElem? (rt_get h)
theorem rt_of {R : Ring} {k : Nat} {a : P2 × P2} (h : R[k]? = some a) : rt R k = a := by
  unfold rt; rw [List.getD_eq_getElem?_getD, h]; rfl
theorem tp_tops {R : Ring} {k : Nat} (h : k < R.length) : tp (tops R) k = (rt R k).1 := by
  unfold tp tops; rw [List.getD_eq_getElem?_getD, List.getElem?_map, rt_get h]; rfl
theorem tp_rsts {R : Ring} {k : Nat} (h : k < R.length) : tp (rsts R) k = (rt R k).2 := by
  unfold tp rsts; rw [List.getD_eq_getElem?_getD, List.getElem?_map, rt_get h]; rfl
theorem tops_len (R : Ring) : (tops R).length = R.length := by unfold tops; rw [List.length_map]
theorem rsts_len (R : Ring) : (rsts R).length = R.length := by unfold rsts; rw [List.length_map]
/-- the rest of a division, of a number of any sign -/
def md (i : Int) (n : Nat) : Nat := (i.fmod n).toNat
theorem md_lt {i : Int} {n : Nat} (h : 0 < n) : md i n < n := by
  unfold md
  have h1 := Int.fmod_lt_of_pos i (show (0 : Int) < n by omega)
  have h0 := Int.fmod_nonneg_of_pos i (show (0 : Int) < n by omega)
  omega
theorem md_eq {i : Int} {n : Nat} (h : 0 < n) : i.fmod (n : Int) = (md i n : Int) := by
  unfold md
  have h0 := Int.fmod_nonneg_of_pos i (show (0 : Int) < n by omega)
  omega
theorem md_nat (k n : Nat) : md (k : Int) n = k % n := by
  unfold md
  rw [Int.fmod_eq_emod_of_nonneg _ (by omega)]; rfl
theorem md_lt' {k n : Nat} (h : k < n) : md (k : Int) n = k := by rw [md_nat, Nat.mod_eq_of_lt h]
theorem md_succ (k n : Nat) : md ((k : Int) + 1) n = (k + 1) % n := md_nat (k + 1) n
section
variable {R : Ring} {Φ : D → Prop} {a : P2 × P2}
@[simp] theorem cD_0 : oIxA (cD a) (.int 0) Φ ↔ Φ (pD a.1) := by unfold cD; simp [at0]
@[simp] theorem cD_1 : oIxA (cD a) (.int 1) Φ ↔ Φ (pD a.2) := by unfold cD; simp [at1]
@[simp] theorem cD_T {X : List D → Prop} : asT (cD a) X ↔ X [pD a.1, pD a.2] := by unfold cD; simp
@[simp] theorem rD_len : oLen [rD R] Φ ↔ Φ (.int R.length) := by unfold rD; simp
@[simp] theorem rD_it {X : List D → Prop} : itD (rD R) X ↔ X (R.map cD) := by unfold rD; simp
theorem rD_ix {i : Int} (h : 0 < R.length) : oIxA (rD R) (.int (i.fmod (R.length : Int))) Φ ↔ Φ (cD (rt R (md i R.length))) := by
  unfold rD
  rw [md_eq h, pIxT]
  have e : atI (R.map cD) ((md i R.length : Nat) : Int) = some (cD (rt R (md i R.length))) := at_nat (by rw [List.getElem?_map, rt_get (md_lt h)]; rfl)
  rw [e]
  constructor
  · rintro ⟨f, h1, h2⟩; cases h1; exact h2
  · intro h; exact ⟨_, rfl, h⟩
theorem rD_nat {k : Nat} (h : k < R.length) : oIxA (rD R) (.int (k : Int)) Φ ↔ Φ (cD (rt R k)) := by
  unfold rD
  rw [pIxT]
  have e : atI (R.map cD) (k : Int) = some (cD (rt R k)) := at_nat (by rw [List.getElem?_map, rt_get h]; rfl)
  rw [e]
  constructor
  · rintro ⟨f, h1, h2⟩; cases h1; exact h2
  · intro h; exact ⟨_, rfl, h⟩
theorem rD_0 (h : 0 < R.length) : oIxA (rD R) (.int 0) Φ ↔ Φ (cD (rt R 0)) := rD_nat (k := 0) h
end
/-- a ring and its sizes -/
structure RG (R : Ring) : Prop where
  good : Good R
  sz : ∀ a ∈ R, Sz 20 a.1 ∧ Sz 20 a.2
  few : R.length ≤ 10
section
variable {R : Ring} (h : RG R) {k : Nat} (hk : k < R.length)
include h hk
theorem RG.d1 : Dir (rt R k).1 := h.good.dt _ (List.mem_map.mpr ⟨_, rt_mem hk, rfl⟩)
theorem RG.d2 : Dir (rt R k).2 := h.good.dr _ (List.mem_map.mpr ⟨_, rt_mem hk, rfl⟩)
theorem RG.s1 {n : Nat} (hn : 20 ≤ n) : Sz n (rt R k).1 := (h.sz _ (rt_mem hk)).1.mono hn
theorem RG.s2 {n : Nat} (hn : 20 ≤ n) : Sz n (rt R k).2 := (h.sz _ (rt_mem hk)).2.mono hn
end
theorem RG.pos {R : Ring} (h : RG R) : 0 < R.length := h.good.ne
theorem lay_c (a : P2 × P2) : (toD a).canLay0 = true := lay_pair lay_p2 lay_p2 a
@[simp] theorem sh_lc {l : Ring} : SeqAt.shaped (.list (l.map cD)) = true := shaped_toD (lay_list lay_c) (by decide) l
@[simp] theorem ev_lc {l m : Ring} : PyData.eqv (.list (l.map cD)) (.list (m.map cD)) = decide (l = m) := PySem.W.Datum.eqv l m
@[simp] theorem rD_list {R : Ring} {Φ : D → Prop} : oList [rD R] Φ ↔ Φ (.list (R.map cD)) := Iff.rfl
/-! ### dicts of couples -/
def dS (S : Ring) : List (List Int × D) := S.map fun a => ([a.1.1, a.1.2], pD a.2)
theorem two_inj {p q : P2} : ([p.1, p.2] : List Int) = [q.1, q.2] ↔ p = q := by
  constructor
  · intro h; exact Prod.ext (List.cons.inj h).1 (List.cons.inj (List.cons.inj h).2).1
  · intro h; rw [h]
theorem dS_put {S : Ring} {x y : P2} (h : x ∉ tops S) : putP (dS S) [x.1, x.2] (pD y) = dS (S ++ [(x, y)]) := by
  unfold putP
  rw [if_neg]
  · unfold dS; rw [List.map_append]; rfl
  · rw [List.any_eq_true]
    rintro ⟨r, hr, he⟩
    unfold dS at hr
    obtain ⟨a, ha, rfl⟩ := List.mem_map.mp hr
    have he := two_inj.mp (of_decide_eq_true he)
    exact h (List.mem_map.mpr ⟨a, ha, he⟩)
theorem dS_keys (S : Ring) : keysD (dS S) = (tops S).map pD := by
  unfold keysD dS tops
  rw [List.map_map, List.map_map]; rfl
theorem dS_find {S : Ring} {x : P2} (h : x ∈ tops S) : ((dS S).find? fun r => decide (r.1 = [x.1, x.2])) = some ([x.1, x.2], pD (look S x)) := by
  unfold dS
  rw [List.find?_map]
  have e : ((fun r : List Int × D => decide (r.1 = [x.1, x.2])) ∘ fun a : P2 × P2 => (([a.1.1, a.1.2], pD a.2) : List Int × D)) = fun a => decide (a.1 = x) := by
    funext a
    show decide (([a.1.1, a.1.2] : List Int) = [x.1, x.2]) = decide (a.1 = x)
    exact decide_eq_decide.mpr two_inj
  rw [e]
  unfold look
  obtain ⟨a, ha, hx⟩ := List.mem_map.mp h
  cases e2 : S.find? fun a => decide (a.1 = x) with
  | none =>
    rw [List.find?_eq_none] at e2
    exact absurd (decide_eq_true hx) (e2 a ha)
  | some c =>
    have := List.find?_some e2
    have hc := of_decide_eq_true this
    rw [Option.map_some, Option.map_some, Option.getD_some, ← hc]
/-! ### enumerate, range -/
theorem enum_map {α : Type} (f : α → D) (l : List α) : enumD (l.map f) = l.zipIdx.map fun p => .tuple [.int (p.2 : Nat), f p.1] := by
  apply List.ext_getElem?
  intro i
  rw [List.getElem?_map, List.getElem?_zipIdx]
  cases e : l[i]? with
  | none =>
    have : l.length ≤ i := List.getElem?_eq_none_iff.mp e
    rw [List.getElem?_eq_none (by rw [enumD_len, List.length_map]; exact this)]; rfl
  | some a =>
    rw [enumD_get (d := f a) (by rw [List.getElem?_map, e]; rfl)]; simp
theorem zip_at {α : Type} {l : List α} {q r : List (α × Nat)} {x : α} {i : Nat} (h : l.zipIdx = q ++ (x, i) :: r) : i = q.length ∧ l[q.length]? = some x ∧ q.length < l.length := by
  have e : l.zipIdx[q.length]? = some (x, i) := by rw [h]; simp
  rw [List.getElem?_zipIdx] at e
  cases e2 : l[q.length]? with
  | none => rw [e2] at e; cases e
  | some a =>
    rw [e2] at e
    simp at e
    refine ⟨by omega, by rw [e.1], (List.getElem?_eq_some_iff.mp e2).1⟩
theorem rg_map (n : Nat) : rgD 0 (n : Int) = (List.range n).map fun k => .int (k : Nat) := by
  unfold rgD; simp
theorem range_at {n : Nat} {q r : List Nat} {k : Nat} (h : List.range n = q ++ k :: r) : k = q.length ∧ q = List.range k ∧ k < n := by
  have e : (List.range n)[q.length]? = some k := by rw [h]; simp
  obtain ⟨h1, h2⟩ := List.getElem?_eq_some_iff.mp e
  rw [List.getElem_range] at h2
  rw [List.length_range] at h1
  refine ⟨h2.symm, ?_, by omega⟩
  have : (List.range n).take q.length = q := by rw [h]; simp
  rw [List.take_range, Nat.min_eq_left (by omega)] at this
  rw [← h2]; exact this.symm
theorem lc1_map {α : Type} {g1 : WG} {w : WE} {ρ : DL.Env} {b : Bag} {Θ : List D → Bag → Prop} (enc : α → D) (f : α → D) : ∀ (l : List α) (acc : List D), acc.length + l.length < sizeLine →
    (∀ a ∈ l, ∀ X : D → Bag → Prop, X (f a) b → g1 (enc a) ρ fun ρ' => w ρ' b X) → Θ (acc ++ l.map f) b → runLc1 g1 w ρ (l.map enc) acc b Θ
  | [], acc, _, _, h => by
    show Θ acc b
    simpa using h
  | a :: r, acc, hz, hs, h => by
    simp only [List.length_cons] at hz
    refine hs a (List.mem_cons_self ..) _ ⟨by omega, ?_⟩
    exact lc1_map enc f r _ (by simp only [List.length_append, List.length_singleton]; omega) (fun x hx => hs x (List.mem_cons_of_mem _ hx)) (by simpa using h)
theorem lc2_map {α : Type} {g g1 : WG} {wi1 : WA} {w : WE} {vs1 : List Nat} {ρ : DL.Env} {b : Bag} {Θ : List D → Bag → Prop} (enc : α → D) (F : α → List D) (c : Nat) : ∀ (l : List α) (acc : List D), acc.length + l.length * c < sizeLine → (∀ a ∈ l, (F a).length ≤ c) →
    (∀ a ∈ l, ∀ (acc : List D) (X : List D → Bag → Prop), acc.length + c < sizeLine → X (acc ++ F a) b → g (enc a) ρ fun ρ' => wi1 ρ' b fun es b1 => runLc1 g1 w (wipeE (deown ρ') vs1) es acc b1 X) → Θ (acc ++ (l.map F).flatten) b → runLc2 g wi1 g1 w vs1 ρ (l.map enc) acc b Θ
  | [], acc, _, _, _, h => by
    show Θ acc b
    simpa using h
  | a :: r, acc, hz, hc, hs, h => by
    simp only [List.length_cons, Nat.add_mul, Nat.one_mul] at hz
    have h1 := hc a (List.mem_cons_self ..)
    refine hs a (List.mem_cons_self ..) acc _ (by omega) ?_
    exact lc2_map enc F c r _ (by simp only [List.length_append]; omega) (fun x hx => hc x (List.mem_cons_of_mem _ hx)) (fun x hx => hs x (List.mem_cons_of_mem _ hx)) (by simpa using h)
/-- a while whose state is told by a word, with a number that falls -/
theorem wh_ind {t : WT} {w : WS} {ρ : DL.Env} {b : Bag} {Ψ : Out → Prop} (W : Nat → DL.Env → Bag → Prop) (m : Nat) (h0 : W m ρ b)
    (hs : ∀ m ρ b, W m ρ b → ∀ X : DL.Env → Bag → Prop, (∀ m' ρ b, m' < m → W m' ρ b → X ρ b) → t ρ b fun k b1 => if k = true then w ρ b1 (lpK X Ψ) else Ψ (.nx ρ b1)) : sWhile t w ρ b Ψ :=
  ⟨W, ⟨m, h0⟩, fun m ρ b h => hs m ρ b h _ fun m' ρ b h1 h2 => ⟨m', h1, h2⟩⟩
theorem oAny_i {bs : List Bool} {Φ : D → Prop} (h : Φ (.bool (bs.any id))) : oAny [.list (bs.map .bool)] Φ := ⟨bs, rfl, h⟩
theorem oAll_i {bs : List Bool} {Φ : D → Prop} (h : Φ (.bool (bs.all id))) : oAll [.list (bs.map .bool)] Φ := ⟨bs, rfl, h⟩
def mI (l : List Nat) : List Int := l.map fun k : Nat => (k : Int)
end K96

namespace K96
open PySem L2 DL
/-- what the top has written -/
structure Txt (K : PySem.W.Frag) (mg : Str → Option Value) : Prop where
  ml_len : mg "len" = none
  ml_abs : mg "abs" = none
  ml_all : mg "all" = none
  ml_any : mg "any" = none
  ml_int : mg "int" = none
  ml_str : mg "str" = none
  ml_list : mg "list" = none
  ml_tuple : mg "tuple" = none
  ml_repr : mg "repr" = none
  ml_isinstance : mg "isinstance" = none
  ml_max : mg "max" = none
  ml_min : mg "min" = none
  ml_sorted : mg "sorted" = none
  ml_set : mg "set" = none
  ml_range : mg "range" = none
  ml_enumerate : mg "enumerate" = none
  ml_zip : mg "zip" = none
  ml_bool : mg "bool" = none
  mg_gcd : mg "gcd" = some (.builtin "math.gcd")
  g_DIGITS : ∃ t, mg "DIGITS" = some (.str "0123456789" t)
  g_EAST : ∃ u, mg "EAST" = some u ∧ TupK K u [1, 0]
  g_MOST_CORNERS : ∃ t, mg "MOST_CORNERS" = some (.int 10 t)
  g_MOST_FAR : ∃ t, mg "MOST_FAR" = some (.int 99 t)
  g_MOST_LINES : ∃ t, mg "MOST_LINES" = some (.int 200 t)
  g_MOST_FIGURES : ∃ t, mg "MOST_FIGURES" = some (.int 4 t)
  at_is_number : At K mg "is_number" st_is_number ["thing"]
  at_is_index : At K mg "is_index" st_is_index ["thing"]
  at_is_sized : At K mg "is_sized" st_is_sized ["thing", "many"]
  at_is_tuple_of : At K mg "is_tuple_of" st_is_tuple_of ["thing", "is_one"]
  at_is_couple : At K mg "is_couple" st_is_couple ["thing"]
  at_is_corners : At K mg "is_corners" st_is_corners ["thing"]
  at_direction : At K mg "direction" st_direction ["a", "b"]
  at_cross : At K mg "cross" st_cross ["one", "other"]
  at_put : At K mg "put" st_put ["one", "other"]
  at_back : At K mg "back" st_back ["one"]
  at_before : At K mg "before" st_before ["one", "other"]
  at_turn_between : At K mg "turn_between" st_turn_between ["one", "other"]
  at_between : At K mg "between" st_between ["one", "other"]
  at_size_of : At K mg "size_of" st_size_of ["one"]
  at_in_order : At K mg "in_order" st_in_order ["some"]
  at_is_less : At K mg "is_less" st_is_less ["one", "other"]
  at_turn_of : At K mg "turn_of" st_turn_of ["one", "two", "three"]
  at_chain : At K mg "chain" st_chain ["points"]
  at_hull_of : At K mg "hull_of" st_hull_of ["points"]
  at_checked_part : At K mg "checked_part" st_checked_part ["thing"]
  at_is_hull : At K mg "is_hull" st_is_hull ["corners"]
  at_is_amid : At K mg "is_amid" st_is_amid ["one", "other", "thing"]
  at_squeezed : At K mg "squeezed" st_squeezed ["ring", "along"]
  at_rest_at : At K mg "rest_at" st_rest_at ["ring", "number"]
  at_top_at : At K mg "top_at" st_top_at ["ring", "number"]
  at_turned_ring : At K mg "turned_ring" st_turned_ring ["ring", "turn"]
  at_leaves : At K mg "leaves" st_leaves ["ring", "turn"]
  at_same_turns : At K mg "same_turns" st_same_turns ["ring"]
  at_unlike_many : At K mg "unlike_many" st_unlike_many ["ring"]
  at_are_alike : At K mg "are_alike" st_are_alike ["ring", "one", "other"]
  at_next_rest : At K mg "next_rest" st_next_rest ["ring", "number", "turn"]
  at_weight : At K mg "weight" st_weight ["one"]
  at_by_weight : At K mg "by_weight" st_by_weight ["many"]
  at_is_prime_to : At K mg "is_prime_to" st_is_prime_to ["one", "other"]
  at_simplest_amid : At K mg "simplest_amid" st_simplest_amid ["one", "other"]
  at_is_at_most : At K mg "is_at_most" st_is_at_most ["one", "other"]
  at_rooms : At K mg "rooms" st_rooms ["ring", "number", "goal"]
  at_simplest_to : At K mg "simplest_to" st_simplest_to ["ring", "number", "goal"]
  at_turning_points : At K mg "turning_points" st_turning_points ["ring"]
  at_unlike_turns : At K mg "unlike_turns" st_unlike_turns ["ring"]
  at_maps : At K mg "maps" st_maps ["ring"]
  at_map_of : At K mg "map_of" st_map_of ["ring", "turn"]
  at_keeping_turns : At K mg "keeping_turns" st_keeping_turns ["ring", "number"]
  at_is_top : At K mg "is_top" st_is_top ["ring", "along"]
  at_falls : At K mg "falls" st_falls ["ring", "along"]
  at_a_little_on : At K mg "a_little_on" st_a_little_on ["ring", "turn"]
  at_check_kind : At K mg "check_kind" st_check_kind ["ring", "kind"]
  at_turn_to_rest : At K mg "turn_to_rest" st_turn_to_rest ["ring", "number", "kind"]
  at_word_lines : At K mg "word_lines" st_word_lines ["text"]
  at_index_in : At K mg "index_in" st_index_in ["word"]
  at_number_in : At K mg "number_in" st_number_in ["word"]
  at_corner_in : At K mg "corner_in" st_corner_in ["line", "words"]
  at_read_corners : At K mg "read_corners" st_read_corners ["text"]
  at_read_text : At K mg "read_text" st_read_text ["text"]
  at_read_whole : At K mg "read_whole" st_read_whole ["text"]
  at__law_bag : At K mg "_law_bag" st__law_bag ["script"]
  at__law_take : At K mg "_law_take" st__law_take ["bag", "many"]
  at__law_some : At K mg "_law_some" st__law_some ["bag", "things"]
  at__law_mixed : At K mg "_law_mixed" st__law_mixed ["bag", "things"]
  at__law_alike : At K mg "_law_alike" st__law_alike ["found", "due"]
  at__law_gcd : At K mg "_law_gcd" st__law_gcd ["a", "b"]
  at__law_direction : At K mg "_law_direction" st__law_direction ["a", "b"]
  at__law_cross : At K mg "_law_cross" st__law_cross ["one", "other"]
  at__law_put : At K mg "_law_put" st__law_put ["one", "other"]
  at__law_back : At K mg "_law_back" st__law_back ["one"]
  at__law_turn : At K mg "_law_turn" st__law_turn ["one", "other"]
  at__law_in_order : At K mg "_law_in_order" st__law_in_order ["some"]
  at__law_amid : At K mg "_law_amid" st__law_amid ["one", "other", "thing"]
  at__law_between : At K mg "_law_between" st__law_between ["one", "other"]
  at__law_drawn_direction : At K mg "_law_drawn_direction" st__law_drawn_direction ["bag", "most"]
  at__law_hull : At K mg "_law_hull" st__law_hull ["spots"]
  at__law_part : At K mg "_law_part" st__law_part ["bag", "most"]
  at__law_spread : At K mg "_law_spread" st__law_spread ["part", "along"]
  at__law_width : At K mg "_law_width" st__law_width ["part", "along"]
  at__law_wider : At K mg "_law_wider" st__law_wider ["one", "other"]
  at__law_side_ways : At K mg "_law_side_ways" st__law_side_ways ["part"]
  at__law_ring : At K mg "_law_ring" st__law_ring ["part"]
  at__law_squeezed : At K mg "_law_squeezed" st__law_squeezed ["ring", "along"]
  at__law_same_turns : At K mg "_law_same_turns" st__law_same_turns ["ring"]
  at__law_kinds : At K mg "_law_kinds" st__law_kinds ["ring"]
  at__law_next : At K mg "_law_next" st__law_next ["ring", "number", "turn"]
  at__law_turns : At K mg "_law_turns" st__law_turns ["ring"]
  at__law_text_rows : At K mg "_law_text_rows" st__law_text_rows ["part"]
  at__law_loose : At K mg "_law_loose" st__law_loose ["bag", "rows"]
  at__law_tied : At K mg "_law_tied" st__law_tied ["bag", "most"]
  at__law_text : At K mg "_law_text" st__law_text ["bag", "part"]
  at__law_richest : At K mg "_law_richest" st__law_richest ["parts"]
  at__law_is_firm : At K mg "_law_is_firm" st__law_is_firm ["ring", "turn"]
  at_law : At K mg "law" st_law ["script"]
end K96

/-! KB1: promises: directions. -/
namespace K96
open PySem L2 DL
theorem Bd.cm {k l : Nat} {x y : Int} (h : Bd k x) (h' : Bd l y) (h2 : k + l ≤ 999000 := by decide) : CMulW x y := h.mulW h' h2
def S_cross : SpF := fun ds Φ => as2 ds fun d e => asP d fun p => asP e fun q => Sz 3000 p ∧ Sz 3000 q ∧ Φ (.int (crs p q))
theorem cl_cross {P : Program} {w : World} {K : PySem.W.Frag} {mg : Str → Option Value} {base : Heap} (T : Txt K mg) : Cl P w K mg base "cross" 1 (spP K S_cross) := by
  refine cl_pure (k := 0) T.at_cross sc_cross (by decide) (fun ds Φ h => by obtain ⟨_, _, rfl, _⟩ := h; rfl) fun f cdv A outer s H hgd hr => ?_
  have nd := sc_cross.nd; have hu : (A.deeper (PyProof.Rows.envOfC "cross" (defScope st_cross) s.heap.objs.size f cdv)).units + 65 < cLine := (by have := hr.un; omega)
  refine ⟨_, (ss_one (s_ret (d_subA (d_mulA (d_ix (v 0) d_int (fun _ _ => rfl)) (d_ix (v 1) d_int (fun _ _ => rfl))) (d_mulA (d_ix (v 0) d_int (fun _ _ => rfl)) (d_ix (v 1) d_int (fun _ _ => rfl)))))), fun b ds Φ h => ?_⟩
  obtain ⟨_, _, rfl, p, rfl, q, rfl, hp, hq, h⟩ := h
  simp [ρ0, at0, at1]
  exact ⟨hp.1.cm hq.2, hp.2.cm hq.1, h⟩
theorem cl__law_cross {P : Program} {w : World} {K : PySem.W.Frag} {mg : Str → Option Value} {base : Heap} (T : Txt K mg) : Cl P w K mg base "_law_cross" 1 (spP K S_cross) := by
  refine cl_pure (k := 0) T.at__law_cross sc__law_cross (by decide) (fun ds Φ h => by obtain ⟨_, _, rfl, _⟩ := h; rfl) fun f cdv A outer s H hgd hr => ?_
  have nd := sc__law_cross.nd; have hu : (A.deeper (PyProof.Rows.envOfC "_law_cross" (defScope st__law_cross) s.heap.objs.size f cdv)).units + 65 < cLine := (by have := hr.un; omega)
  refine ⟨_, (ss_one (s_ret (d_subA (d_mulA (d_ix (v 0) d_int (fun _ _ => rfl)) (d_ix (v 1) d_int (fun _ _ => rfl))) (d_mulA (d_ix (v 0) d_int (fun _ _ => rfl)) (d_ix (v 1) d_int (fun _ _ => rfl)))))), fun b ds Φ h => ?_⟩
  obtain ⟨_, _, rfl, p, rfl, q, rfl, hp, hq, h⟩ := h
  simp [ρ0, at0, at1]
  exact ⟨hp.1.cm hq.2, hp.2.cm hq.1, h⟩
def S_direction : SpF := fun ds Φ => as2 ds fun d e => asI d fun a => asI e fun b => ¬ (a = 0 ∧ b = 0) ∧ Bd 2000 a ∧ Bd 2000 b ∧ Φ (pD (dirn a b))
theorem cdiv {k : Nat} {x g : Int} (h : Bd k g) (hk : k ≤ 8999) (hg : g ≠ 0) : CDivA x g := ⟨hg, by have := h.log; omega⟩
theorem gcd_bd {k : Nat} {a b : Int} (h : ¬ (a = 0 ∧ b = 0)) (ha : Bd k a) (hb : Bd k b) : Bd k (gcdI a b) := by
  by_cases z : a = 0
  · have hb0 : b ≠ 0 := fun e => h ⟨z, e⟩
    refine hb.le ?_
    unfold gcdI
    exact Nat.gcd_le_right _ (by omega)
  · refine ha.le ?_
    unfold gcdI
    exact Nat.gcd_le_left _ (by omega)
theorem cl_direction {P : Program} {w : World} {K : PySem.W.Frag} {mg : Str → Option Value} {base : Heap} (T : Txt K mg) : Cl P w K mg base "direction" 1 (spP K S_direction) := by
  refine cl_pure (k := 0) T.at_direction sc_direction (by decide) (fun ds Φ h => by obtain ⟨_, _, rfl, _⟩ := h; rfl) fun f cdv A outer s H hgd hr => ?_
  have nd := sc_direction.nd; have hu : (A.deeper (PyProof.Rows.envOfC "direction" (defScope st_direction) s.heap.objs.size f cdv)).units + 65 < cLine := (by have := hr.un; omega)
  refine ⟨_, (ss_cons (ss 2 nd (d_bfn cr_gcd fd_gcd rfl T.mg_gcd (a_cons (v 0) (a_cons (v 1) a_nil)))) (ss_cons (s_if (te_eq hu (v 2) d_int) (ss_one s_never) ss_nil) (ss_cons (ss 2 nd (d_if (t_w (u_or (tc_gt (v 1) d_int) (u_or1 (t_w (u_and (te_eq hu (v 1) d_int) (u_and1 (tc_gt (v 0) d_int))))))) (v 2) (d_subA d_int (v 2)))) (ss_one (s_ret (d_tup (a_cons (d_divA (v 0) (v 2)) (a_cons (d_divA (v 1) (v 2)) a_nil)))))))), fun b ds Φ h => ?_⟩
  obtain ⟨_, _, rfl, a, rfl, c, rfl, hn, ha, hc, h⟩ := h
  have hg := gcdI_pos hn
  have hb := gcd_bd hn ha hc
  have c1 : ∀ x, CDivA x (gcdI a c) := fun x => cdiv hb (by decide) (by omega)
  have c2 : ∀ x, CDivA x (-gcdI a c) := fun x => cdiv hb.neg (by decide) (by omega)
  simp [ρ0, c1, c2]
  refine ⟨by omega, ?_⟩
  unfold dirn upper at h
  by_cases h1 : 0 < c
  · simpa [h1] using h
  · by_cases h2 : c = 0
    · subst h2
      by_cases h3 : 0 < a <;> simpa [h3] using h
    · simpa [h1, h2] using h
def S_law_gcd : SpF := fun ds Φ => as2 ds fun d e => asI d fun a => asI e fun b => Bd 2000 a ∧ Bd 2000 b ∧ Φ (.int (gcdI a b))
theorem absI_nat (x : Int) : absI x = (x.natAbs : Int) := rfl
theorem cl__law_gcd {P : Program} {w : World} {K : PySem.W.Frag} {mg : Str → Option Value} {base : Heap} (T : Txt K mg) : Cl P w K mg base "_law_gcd" 1 (spP K S_law_gcd) := by
  refine cl_pure (k := 0) T.at__law_gcd sc__law_gcd (by decide) (fun ds Φ h => by obtain ⟨_, _, rfl, _⟩ := h; rfl) fun f cdv A outer s H hgd hr => ?_
  have nd := sc__law_gcd.nd; have hu : (A.deeper (PyProof.Rows.envOfC "_law_gcd" (defScope st__law_gcd) s.heap.objs.size f cdv)).units + 65 < cLine := (by have := hr.un; omega)
  refine ⟨_, (ss_cons (s_par 0 1 rfl nd (a_cons (d_fn call_abs fd_abs PyProof.Rows.boot_abs rfl T.ml_abs (a_cons (v 0) a_nil)) (a_cons (d_fn call_abs fd_abs PyProof.Rows.boot_abs rfl T.ml_abs (a_cons (v 1) a_nil)) a_nil))) (ss_cons (s_for PassesOwn.never rfl (i_rg1 rfl T.ml_range (a_cons d_int a_nil)) (gv 2 nd) (ss_cons (s_if (te_eq hu (v 1) d_int) (ss_one (s_ret (v 0))) ss_nil) (ss_one (s_par 0 1 rfl nd (a_cons (v 1) (a_cons (d_modA (d_ty call_int1 fd_int PyProof.Rows.boot_int rfl T.ml_int (a_cons (v 0) a_nil)) (d_ty call_int1 fd_int PyProof.Rows.boot_int rfl T.ml_int (a_cons (v 1) a_nil))) a_nil)))))) (ss_one (s_ret (v 0))))), fun b ds Φ h => ?_⟩
  obtain ⟨_, _, rfl, a, rfl, c, rfl, ha, hc, h⟩ := h
  simp [ρ0, rgD]
  refine for_l (fun k : Nat => PyData.int (k : Int)) (fun r ρ b => ∃ (x y : Nat) (t : Sl), ρ = [.dat (.int x), .dat (.int y), t] ∧ gcdL r.length x y = Nat.gcd a.natAbs c.natAbs) (fun k r ρ b hI X hX => ?_) (fun ρ b hI => ?_) (List.range 4000) _ _ ⟨a.natAbs, c.natAbs, .no, ?_, ?_⟩
  · obtain ⟨x, y, t, rfl, hg⟩ := hI
    rw [List.length_cons] at hg
    unfold gcdL at hg
    have e : (x : Int).fmod (y : Int) = ((x % y : Nat) : Int) := by
      rw [Int.fmod_eq_emod_of_nonneg _ (by omega)]; rfl
    simp
    by_cases hy : y = 0
    · rw [if_pos hy] at hg ⊢
      unfold gcdI at h
      rw [hg]; exact h
    · rw [if_neg hy] at hg ⊢
      exact ⟨hy, hX _ _ ⟨y, x % y, _, by rw [e], hg⟩⟩
  · obtain ⟨x, y, t, rfl, hg⟩ := hI
    have hg : x = _ := hg
    unfold gcdI at h
    simp
    rw [hg]; exact h
  · simp [absI]
  · rw [List.length_range]; exact gcdL_eq 2000 _ _ _ hc (by decide)
theorem cl__law_direction {P : Program} {w : World} {K : PySem.W.Frag} {mg : Str → Option Value} {base : Heap} (T : Txt K mg) : Cl P w K mg base "_law_direction" 2 (spP K S_direction) := by
  have h__law_gcd := cl__law_gcd (P := P) (w := w) (base := base) T
  have hl__law_gcd : 1 ≤ 1 := by decide
  refine cl_pure (k := 1) T.at__law_direction sc__law_direction (by decide) (fun ds Φ h => by obtain ⟨_, _, rfl, _⟩ := h; rfl) fun f cdv A outer s H hgd hr => ?_
  have nd := sc__law_direction.nd; have hu : (A.deeper (PyProof.Rows.envOfC "_law_direction" (defScope st__law_direction) s.heap.objs.size f cdv)).units + 65 < cLine := (by have := hr.un; omega)
  refine ⟨_, (ss_cons (ss 2 nd (d_call (h__law_gcd.mono hl__law_gcd) hgd hr rfl (a_cons (v 0) (a_cons (v 1) a_nil)))) (ss_cons (ss 2 nd (d_if (t_w (u_or (tc_lt (v 1) d_int) (u_or1 (t_w (u_and (te_eq hu (v 1) d_int) (u_and1 (tc_lt (v 0) d_int))))))) (d_subA d_int (v 2)) (v 2))) (ss_one (s_ret (d_tup (a_cons (d_ty call_int1 fd_int PyProof.Rows.boot_int rfl T.ml_int (a_cons (d_divA (v 0) (v 2)) a_nil)) (a_cons (d_ty call_int1 fd_int PyProof.Rows.boot_int rfl T.ml_int (a_cons (d_divA (v 1) (v 2)) a_nil)) a_nil))))))), fun b ds Φ h => ?_⟩
  obtain ⟨_, _, rfl, a, rfl, c, rfl, hn, ha, hc, h⟩ := h
  have hg := gcdI_pos hn
  have hb := gcd_bd hn ha hc
  have c1 : ∀ x, CDivA x (gcdI a c) := fun x => cdiv hb (by decide) (by omega)
  have c2 : ∀ x, CDivA x (-gcdI a c) := fun x => cdiv hb.neg (by decide) (by omega)
  simp [ρ0, S_law_gcd]
  refine ⟨ha, hc, ?_⟩
  unfold dirn upper at h
  by_cases h1 : 0 < c
  · have : ¬ c < 0 := by omega
    have : ¬ c = 0 := by omega
    simpa [h1, *] using h
  · by_cases h2 : c = 0
    · subst h2
      by_cases h3 : 0 < a
      · have : ¬ a < 0 := by omega
        simpa [h3, c1, this] using h
      · have : a < 0 := by omega
        simpa [h3, c2, this] using h
    · have : c < 0 := by omega
      simpa [h1, h2, c2, this] using h
def S_put : SpF := fun ds Φ => as2 ds fun d e => asP d fun p => asP e fun q => Dir p ∧ Dir q ∧ Sz 900 p ∧ Sz 900 q ∧ Φ (pD (put p q))
theorem cl_put {P : Program} {w : World} {K : PySem.W.Frag} {mg : Str → Option Value} {base : Heap} (T : Txt K mg) : Cl P w K mg base "put" 2 (spP K S_put) := by
  have h_direction := cl_direction (P := P) (w := w) (base := base) T
  have hl_direction : 1 ≤ 1 := by decide
  refine cl_pure (k := 1) T.at_put sc_put (by decide) (fun ds Φ h => by obtain ⟨_, _, rfl, _⟩ := h; rfl) fun f cdv A outer s H hgd hr => ?_
  have nd := sc_put.nd; have hu : (A.deeper (PyProof.Rows.envOfC "put" (defScope st_put) s.heap.objs.size f cdv)).units + 65 < cLine := (by have := hr.un; omega)
  refine ⟨_, (ss_one (s_ret (d_call (h_direction.mono hl_direction) hgd hr rfl (a_cons (d_subA (d_mulA (d_ix (v 0) d_int (fun _ _ => rfl)) (d_ix (v 1) d_int (fun _ _ => rfl))) (d_mulA (d_ix (v 0) d_int (fun _ _ => rfl)) (d_ix (v 1) d_int (fun _ _ => rfl)))) (a_cons (d_addA (d_mulA (d_ix (v 0) d_int (fun _ _ => rfl)) (d_ix (v 1) d_int (fun _ _ => rfl))) (d_mulA (d_ix (v 0) d_int (fun _ _ => rfl)) (d_ix (v 1) d_int (fun _ _ => rfl)))) a_nil))))), fun b ds Φ h => ?_⟩
  obtain ⟨_, _, rfl, p, rfl, q, rfl, dp, dq, hp, hq, h⟩ := h
  simp [ρ0, at0, at1, S_direction]
  refine ⟨hp.1.cm hq.1, hp.2.cm hq.2, hp.1.cm hq.2, hp.2.cm hq.1, ?_⟩
  exact ⟨fun a b => mul_nz (dir_nz dp) (dir_nz dq) ⟨a, b⟩, ((hp.1.mul hq.1).sub (hp.2.mul hq.2)).mono (by decide), ((hp.1.mul hq.2).add (hp.2.mul hq.1)).mono (by decide), h⟩
theorem cl__law_put {P : Program} {w : World} {K : PySem.W.Frag} {mg : Str → Option Value} {base : Heap} (T : Txt K mg) : Cl P w K mg base "_law_put" 3 (spP K S_put) := by
  have h__law_direction := cl__law_direction (P := P) (w := w) (base := base) T
  have hl__law_direction : 2 ≤ 2 := by decide
  refine cl_pure (k := 2) T.at__law_put sc__law_put (by decide) (fun ds Φ h => by obtain ⟨_, _, rfl, _⟩ := h; rfl) fun f cdv A outer s H hgd hr => ?_
  have nd := sc__law_put.nd; have hu : (A.deeper (PyProof.Rows.envOfC "_law_put" (defScope st__law_put) s.heap.objs.size f cdv)).units + 65 < cLine := (by have := hr.un; omega)
  refine ⟨_, (ss_one (s_ret (d_call (h__law_direction.mono hl__law_direction) hgd hr rfl (a_cons (d_subA (d_mulA (d_ix (v 0) d_int (fun _ _ => rfl)) (d_ix (v 1) d_int (fun _ _ => rfl))) (d_mulA (d_ix (v 0) d_int (fun _ _ => rfl)) (d_ix (v 1) d_int (fun _ _ => rfl)))) (a_cons (d_addA (d_mulA (d_ix (v 0) d_int (fun _ _ => rfl)) (d_ix (v 1) d_int (fun _ _ => rfl))) (d_mulA (d_ix (v 0) d_int (fun _ _ => rfl)) (d_ix (v 1) d_int (fun _ _ => rfl)))) a_nil))))), fun b ds Φ h => ?_⟩
  obtain ⟨_, _, rfl, p, rfl, q, rfl, dp, dq, hp, hq, h⟩ := h
  simp [ρ0, at0, at1, S_direction]
  refine ⟨hp.1.cm hq.1, hp.2.cm hq.2, hp.1.cm hq.2, hp.2.cm hq.1, ?_⟩
  exact ⟨fun a b => mul_nz (dir_nz dp) (dir_nz dq) ⟨a, b⟩, ((hp.1.mul hq.1).sub (hp.2.mul hq.2)).mono (by decide), ((hp.1.mul hq.2).add (hp.2.mul hq.1)).mono (by decide), h⟩
def S_back : SpF := fun ds Φ => as1 ds fun d => asP d fun p => Dir p ∧ Sz 1900 p ∧ Φ (pD (back p))
theorem cl_back {P : Program} {w : World} {K : PySem.W.Frag} {mg : Str → Option Value} {base : Heap} (T : Txt K mg) : Cl P w K mg base "back" 2 (spP K S_back) := by
  have h_direction := cl_direction (P := P) (w := w) (base := base) T
  have hl_direction : 1 ≤ 1 := by decide
  refine cl_pure (k := 1) T.at_back sc_back (by decide) (fun ds Φ h => by obtain ⟨_, rfl, _⟩ := h; rfl) fun f cdv A outer s H hgd hr => ?_
  have nd := sc_back.nd; have hu : (A.deeper (PyProof.Rows.envOfC "back" (defScope st_back) s.heap.objs.size f cdv)).units + 65 < cLine := (by have := hr.un; omega)
  refine ⟨_, (ss_one (s_ret (d_call (h_direction.mono hl_direction) hgd hr rfl (a_cons (d_ix (v 0) d_int (fun _ _ => rfl)) (a_cons (d_subA d_int (d_ix (v 0) d_int (fun _ _ => rfl))) a_nil))))), fun b ds Φ h => ?_⟩
  obtain ⟨_, rfl, p, rfl, dp, hp, h⟩ := h
  simp [ρ0, at0, at1, S_direction]
  exact ⟨fun a b => dir_nz dp ⟨a, b⟩, hp.1.mono (by decide), hp.2.neg.mono (by decide), h⟩
theorem cl__law_back {P : Program} {w : World} {K : PySem.W.Frag} {mg : Str → Option Value} {base : Heap} (T : Txt K mg) : Cl P w K mg base "_law_back" 3 (spP K S_back) := by
  have h__law_direction := cl__law_direction (P := P) (w := w) (base := base) T
  have hl__law_direction : 2 ≤ 2 := by decide
  refine cl_pure (k := 2) T.at__law_back sc__law_back (by decide) (fun ds Φ h => by obtain ⟨_, rfl, _⟩ := h; rfl) fun f cdv A outer s H hgd hr => ?_
  have nd := sc__law_back.nd; have hu : (A.deeper (PyProof.Rows.envOfC "_law_back" (defScope st__law_back) s.heap.objs.size f cdv)).units + 65 < cLine := (by have := hr.un; omega)
  refine ⟨_, (ss_one (s_ret (d_call (h__law_direction.mono hl__law_direction) hgd hr rfl (a_cons (d_ix (v 0) d_int (fun _ _ => rfl)) (a_cons (d_subA d_int (d_ix (v 0) d_int (fun _ _ => rfl))) a_nil))))), fun b ds Φ h => ?_⟩
  obtain ⟨_, rfl, p, rfl, dp, hp, h⟩ := h
  simp [ρ0, at0, at1, S_direction]
  exact ⟨fun a b => dir_nz dp ⟨a, b⟩, hp.1.mono (by decide), hp.2.neg.mono (by decide), h⟩
def S_turn : SpF := fun ds Φ => as2 ds fun d e => asP d fun p => asP e fun q => Dir p ∧ Dir q ∧ Sz 900 p ∧ Sz 900 q ∧ Φ (pD (turnB p q))
theorem cl_turn_between {P : Program} {w : World} {K : PySem.W.Frag} {mg : Str → Option Value} {base : Heap} (T : Txt K mg) : Cl P w K mg base "turn_between" 3 (spP K S_turn) := by
  have h_put := cl_put (P := P) (w := w) (base := base) T
  have hl_put : 2 ≤ 2 := by decide
  have h_back := cl_back (P := P) (w := w) (base := base) T
  have hl_back : 2 ≤ 2 := by decide
  refine cl_pure (k := 2) T.at_turn_between sc_turn_between (by decide) (fun ds Φ h => by obtain ⟨_, _, rfl, _⟩ := h; rfl) fun f cdv A outer s H hgd hr => ?_
  have nd := sc_turn_between.nd; have hu : (A.deeper (PyProof.Rows.envOfC "turn_between" (defScope st_turn_between) s.heap.objs.size f cdv)).units + 65 < cLine := (by have := hr.un; omega)
  refine ⟨_, (ss_one (s_ret (d_call (h_put.mono hl_put) hgd hr rfl (a_cons (v 1) (a_cons (d_call (h_back.mono hl_back) hgd hr rfl (a_cons (v 0) a_nil)) a_nil))))), fun b ds Φ h => ?_⟩
  obtain ⟨_, _, rfl, p, rfl, q, rfl, dp, dq, hp, hq, h⟩ := h
  simp [ρ0, S_put, S_back]
  exact ⟨dp, hp.mono (by decide), dq, back_dir dp, hq, back_sz dp hp, h⟩
theorem cl__law_turn {P : Program} {w : World} {K : PySem.W.Frag} {mg : Str → Option Value} {base : Heap} (T : Txt K mg) : Cl P w K mg base "_law_turn" 4 (spP K S_turn) := by
  have h__law_put := cl__law_put (P := P) (w := w) (base := base) T
  have hl__law_put : 3 ≤ 3 := by decide
  have h__law_back := cl__law_back (P := P) (w := w) (base := base) T
  have hl__law_back : 3 ≤ 3 := by decide
  refine cl_pure (k := 3) T.at__law_turn sc__law_turn (by decide) (fun ds Φ h => by obtain ⟨_, _, rfl, _⟩ := h; rfl) fun f cdv A outer s H hgd hr => ?_
  have nd := sc__law_turn.nd; have hu : (A.deeper (PyProof.Rows.envOfC "_law_turn" (defScope st__law_turn) s.heap.objs.size f cdv)).units + 65 < cLine := (by have := hr.un; omega)
  refine ⟨_, (ss_one (s_ret (d_call (h__law_put.mono hl__law_put) hgd hr rfl (a_cons (v 1) (a_cons (d_call (h__law_back.mono hl__law_back) hgd hr rfl (a_cons (v 0) a_nil)) a_nil))))), fun b ds Φ h => ?_⟩
  obtain ⟨_, _, rfl, p, rfl, q, rfl, dp, dq, hp, hq, h⟩ := h
  simp [ρ0, S_put, S_back]
  exact ⟨dp, hp.mono (by decide), dq, back_dir dp, hq, back_sz dp hp, h⟩
end K96

/-! KB2: promises: directions in order, amid, squeezed. -/
namespace K96
open PySem L2 DL
theorem absI_n (x : Int) : 0 ≤ absI x := by unfold absI; omega
def S_size_of : SpF := fun ds Φ => as1 ds fun d => asP d fun p => Φ (.int (wt p))
theorem cl_size_of {P : Program} {w : World} {K : PySem.W.Frag} {mg : Str → Option Value} {base : Heap} (T : Txt K mg) : Cl P w K mg base "size_of" 1 (spP K S_size_of) := by
  refine cl_pure (k := 0) T.at_size_of sc_size_of (by decide) (fun ds Φ h => by obtain ⟨_, rfl, _⟩ := h; rfl) fun f cdv A outer s H hgd hr => ?_
  have nd := sc_size_of.nd; have hu : (A.deeper (PyProof.Rows.envOfC "size_of" (defScope st_size_of) s.heap.objs.size f cdv)).units + 65 < cLine := (by have := hr.un; omega)
  refine ⟨_, (ss_one (s_ret (d_addA (d_fn call_abs fd_abs PyProof.Rows.boot_abs rfl T.ml_abs (a_cons (d_ix (v 0) d_int (fun _ _ => rfl)) a_nil)) (d_fn call_abs fd_abs PyProof.Rows.boot_abs rfl T.ml_abs (a_cons (d_ix (v 0) d_int (fun _ _ => rfl)) a_nil))))), fun b ds Φ h => ?_⟩
  obtain ⟨_, rfl, p, rfl, h⟩ := h
  simp [ρ0, at0, at1]
  exact h
theorem cl_weight {P : Program} {w : World} {K : PySem.W.Frag} {mg : Str → Option Value} {base : Heap} (T : Txt K mg) : Cl P w K mg base "weight" 1 (spP K S_size_of) := by
  refine cl_pure (k := 0) T.at_weight sc_weight (by decide) (fun ds Φ h => by obtain ⟨_, rfl, _⟩ := h; rfl) fun f cdv A outer s H hgd hr => ?_
  have nd := sc_weight.nd; have hu : (A.deeper (PyProof.Rows.envOfC "weight" (defScope st_weight) s.heap.objs.size f cdv)).units + 65 < cLine := (by have := hr.un; omega)
  refine ⟨_, (ss_one (s_ret (d_addA (d_fn call_abs fd_abs PyProof.Rows.boot_abs rfl T.ml_abs (a_cons (d_ix (v 0) d_int (fun _ _ => rfl)) a_nil)) (d_fn call_abs fd_abs PyProof.Rows.boot_abs rfl T.ml_abs (a_cons (d_ix (v 0) d_int (fun _ _ => rfl)) a_nil))))), fun b ds Φ h => ?_⟩
  obtain ⟨_, rfl, p, rfl, h⟩ := h
  simp [ρ0, at0, at1]
  exact h
def S_before : SpF := fun ds Φ => as2 ds fun d e => asP d fun p => asP e fun q => Sz 3000 p ∧ Sz 3000 q ∧ Φ (.bool (decide (lt p q)))
theorem cl_before {P : Program} {w : World} {K : PySem.W.Frag} {mg : Str → Option Value} {base : Heap} (T : Txt K mg) : Cl P w K mg base "before" 2 (spP K S_before) := by
  have h_cross := cl_cross (P := P) (w := w) (base := base) T
  have hl_cross : 1 ≤ 1 := by decide
  refine cl_pure (k := 1) T.at_before sc_before (by decide) (fun ds Φ h => by obtain ⟨_, _, rfl, _⟩ := h; rfl) fun f cdv A outer s H hgd hr => ?_
  have nd := sc_before.nd; have hu : (A.deeper (PyProof.Rows.envOfC "before" (defScope st_before) s.heap.objs.size f cdv)).units + 65 < cLine := (by have := hr.un; omega)
  refine ⟨_, (ss_one (s_ret (dc_gt (d_call (h_cross.mono hl_cross) hgd hr rfl (a_cons (v 0) (a_cons (v 1) a_nil))) d_int))), fun b ds Φ h => ?_⟩
  obtain ⟨_, _, rfl, p, rfl, q, rfl, hp, hq, h⟩ := h
  simp [ρ0, S_cross]
  exact ⟨hp, hq, h⟩
theorem cl_is_less {P : Program} {w : World} {K : PySem.W.Frag} {mg : Str → Option Value} {base : Heap} (T : Txt K mg) : Cl P w K mg base "is_less" 3 (spP K S_before) := by
  have h_before := cl_before (P := P) (w := w) (base := base) T
  have hl_before : 2 ≤ 2 := by decide
  refine cl_pure (k := 2) T.at_is_less sc_is_less (by decide) (fun ds Φ h => by obtain ⟨_, _, rfl, _⟩ := h; rfl) fun f cdv A outer s H hgd hr => ?_
  have nd := sc_is_less.nd; have hu : (A.deeper (PyProof.Rows.envOfC "is_less" (defScope st_is_less) s.heap.objs.size f cdv)).units + 65 < cLine := (by have := hr.un; omega)
  refine ⟨_, (ss_one (s_ret (d_call (h_before.mono hl_before) hgd hr rfl (a_cons (v 0) (a_cons (v 1) a_nil))))), fun b ds Φ h => ?_⟩
  obtain ⟨_, _, rfl, p, rfl, q, rfl, hp, hq, h⟩ := h
  simp [ρ0, S_before]
  exact ⟨hp, hq, h⟩
def S_between : SpF := fun ds Φ => as2 ds fun d e => asP d fun p => asP e fun q => Dir p ∧ Dir q ∧ Sz 400 p ∧ Sz 400 q ∧ Φ (pD (betw p q))
theorem sz01 {k : Nat} (h : 1 ≤ k) : Sz k (0, 1) := ⟨Bd.zero _, Nat.one_lt_two_pow (by omega)⟩
theorem mid_ok {p q : P2} (dp : Dir p) (dq : Dir q) (hp : Sz 400 p) (hq : Sz 400 q) (hne : ¬ turnB p q = (1, 0)) :
    ((turnB p q).fst + (absI (turnB p q).1 + absI (turnB p q).2) = 0 → ¬ (turnB p q).snd = 0) ∧ Bd 2000 ((turnB p q).fst + (absI (turnB p q).1 + absI (turnB p q).2)) ∧ Bd 2000 (turnB p q).snd ∧
    Dir (dirn ((turnB p q).1 + (absI (turnB p q).1 + absI (turnB p q).2)) (turnB p q).2) ∧ Sz 900 (dirn ((turnB p q).1 + (absI (turnB p q).1 + absI (turnB p q).2)) (turnB p q).2) := by
  have ht := turn_sz dp dq hp hq
  have td := turn_dir dp dq
  have h2 := dir_snd_pos td hne
  have b1 := ((ht.1.mono (Nat.le_succ _)).add ((absI_bd ht.1).add (absI_bd ht.2)))
  exact ⟨fun _ => by omega, b1.mono (by decide), ht.2.mono (by decide), (mid_spec td hne).1, (dirn_sz (by omega) b1 (ht.2.mono (by decide))).mono (by decide)⟩
theorem cl_between {P : Program} {w : World} {K : PySem.W.Frag} {mg : Str → Option Value} {base : Heap} (T : Txt K mg) : Cl P w K mg base "between" 4 (spP K S_between) := by
  have h_turn_between := cl_turn_between (P := P) (w := w) (base := base) T
  have hl_turn_between : 3 ≤ 3 := by decide
  have h_put := cl_put (P := P) (w := w) (base := base) T
  have hl_put : 2 ≤ 3 := by decide
  have h_direction := cl_direction (P := P) (w := w) (base := base) T
  have hl_direction : 1 ≤ 3 := by decide
  have h_size_of := cl_size_of (P := P) (w := w) (base := base) T
  have hl_size_of : 1 ≤ 3 := by decide
  refine cl_pure (k := 3) T.at_between sc_between (by decide) (fun ds Φ h => by obtain ⟨_, _, rfl, _⟩ := h; rfl) fun f cdv A outer s H hgd hr => ?_
  have nd := sc_between.nd; have hu : (A.deeper (PyProof.Rows.envOfC "between" (defScope st_between) s.heap.objs.size f cdv)).units + 65 < cLine := (by have := hr.un; omega)
  refine ⟨_, (ss_cons (ss 2 nd (d_call (h_turn_between.mono hl_turn_between) hgd hr rfl (a_cons (v 0) (a_cons (v 1) a_nil)))) (ss_one (s_ret (d_if (te_eq hu (v 2) (d_gTup rfl T.g_EAST)) (d_call (h_put.mono hl_put) hgd hr rfl (a_cons (v 0) (a_cons (d_tup (a_cons d_int (a_cons d_int a_nil))) a_nil))) (d_call (h_put.mono hl_put) hgd hr rfl (a_cons (v 0) (a_cons (d_call (h_direction.mono hl_direction) hgd hr rfl (a_cons (d_addA (d_ix (v 2) d_int (fun _ _ => rfl)) (d_call (h_size_of.mono hl_size_of) hgd hr rfl (a_cons (v 2) a_nil))) (a_cons (d_ix (v 2) d_int (fun _ _ => rfl)) a_nil))) a_nil))))))), fun b ds Φ h => ?_⟩
  obtain ⟨_, _, rfl, p, rfl, q, rfl, dp, dq, hp, hq, h⟩ := h
  unfold betw at h
  simp [ρ0, at0, at1, S_turn, S_put, S_direction, S_size_of]
  refine ⟨dp, dq, hp.mono (by decide), hq.mono (by decide), ?_⟩
  by_cases e : turnB p q = (1, 0)
  · rw [if_pos e] at h ⊢
    exact ⟨dp, north_dir, hp.mono (by decide), sz01 (by decide), h⟩
  · rw [if_neg e] at h ⊢
    obtain ⟨m1, m2, m3, m4, m5⟩ := mid_ok dp dq hp hq e
    exact ⟨m1, m2, m3, dp, m4, hp.mono (by decide), m5, h⟩
theorem cl__law_between {P : Program} {w : World} {K : PySem.W.Frag} {mg : Str → Option Value} {base : Heap} (T : Txt K mg) : Cl P w K mg base "_law_between" 5 (spP K S_between) := by
  have h__law_turn := cl__law_turn (P := P) (w := w) (base := base) T
  have hl__law_turn : 4 ≤ 4 := by decide
  have h__law_put := cl__law_put (P := P) (w := w) (base := base) T
  have hl__law_put : 3 ≤ 4 := by decide
  have h__law_direction := cl__law_direction (P := P) (w := w) (base := base) T
  have hl__law_direction : 2 ≤ 4 := by decide
  refine cl_pure (k := 4) T.at__law_between sc__law_between (by decide) (fun ds Φ h => by obtain ⟨_, _, rfl, _⟩ := h; rfl) fun f cdv A outer s H hgd hr => ?_
  have nd := sc__law_between.nd; have hu : (A.deeper (PyProof.Rows.envOfC "_law_between" (defScope st__law_between) s.heap.objs.size f cdv)).units + 65 < cLine := (by have := hr.un; omega)
  refine ⟨_, (ss_cons (ss 2 nd (d_call (h__law_turn.mono hl__law_turn) hgd hr rfl (a_cons (v 0) (a_cons (v 1) a_nil)))) (ss_cons (s_if (te_eq hu (v 2) (d_tup (a_cons d_int (a_cons d_int a_nil)))) (ss_one (s_ret (d_call (h__law_put.mono hl__law_put) hgd hr rfl (a_cons (v 0) (a_cons (d_tup (a_cons d_int (a_cons d_int a_nil))) a_nil))))) ss_nil) (ss_one (s_ret (d_call (h__law_put.mono hl__law_put) hgd hr rfl (a_cons (v 0) (a_cons (d_call (h__law_direction.mono hl__law_direction) hgd hr rfl (a_cons (d_addA (d_addA (d_ix (v 2) d_int (fun _ _ => rfl)) (d_fn call_abs fd_abs PyProof.Rows.boot_abs rfl T.ml_abs (a_cons (d_ix (v 2) d_int (fun _ _ => rfl)) a_nil))) (d_ix (v 2) d_int (fun _ _ => rfl))) (a_cons (d_ix (v 2) d_int (fun _ _ => rfl)) a_nil))) a_nil))))))), fun b ds Φ h => ?_⟩
  obtain ⟨_, _, rfl, p, rfl, q, rfl, dp, dq, hp, hq, h⟩ := h
  rw [betw_eq dp dq] at h
  unfold betwL at h
  simp [ρ0, at0, at1, S_turn, S_put, S_direction, S_size_of]
  refine ⟨dp, dq, hp.mono (by decide), hq.mono (by decide), ?_⟩
  by_cases e : turnB p q = (1, 0)
  · rw [if_pos e] at h ⊢
    exact ⟨dp, north_dir, hp.mono (by decide), sz01 (by decide), h⟩
  · rw [if_neg e] at h ⊢
    have td := turn_dir dp dq
    have h2 := dir_snd_pos td e
    have ea : (turnB p q).1 + absI (turnB p q).1 + (turnB p q).2 = (turnB p q).1 + (absI (turnB p q).1 + absI (turnB p q).2) := by unfold absI; omega
    rw [ea] at h ⊢
    obtain ⟨m1, m2, m3, m4, m5⟩ := mid_ok dp dq hp hq e
    exact ⟨m1, m2, m3, dp, m4, hp.mono (by decide), m5, h⟩
def S_in_order : SpF := fun ds Φ => as1 ds fun d => asLP d fun l => l.length ≤ 100000 ∧ (∀ p ∈ l, Sz 3000 p) ∧ Φ (.list ((lawOrd l).map pD))
theorem fold_insC_len (l : List P2) (a : List P2) : (l.foldl insC a).length = a.length + l.length := by
  induction l generalizing a with
  | nil => simp
  | cons x l ih => rw [List.foldl_cons, ih, insC_len]; simp only [List.length_cons]; omega
theorem mem_fold_insC (l : List P2) (a : List P2) {y : P2} : y ∈ l.foldl insC a ↔ y ∈ a ∨ y ∈ l := by
  induction l generalizing a with
  | nil => simp
  | cons x l ih => rw [List.foldl_cons, ih, mem_insC, List.mem_cons]; grind
theorem cl_in_order {P : Program} {w : World} {K : PySem.W.Frag} {mg : Str → Option Value} {base : Heap} (T : Txt K mg) : Cl P w K mg base "in_order" 3 (spP K S_in_order) := by
  have h_before := cl_before (P := P) (w := w) (base := base) T
  have hl_before : 2 ≤ 2 := by decide
  refine cl_pure (k := 2) T.at_in_order sc_in_order (by decide) (fun ds Φ h => by obtain ⟨_, rfl, _⟩ := h; rfl) fun f cdv A outer s H hgd hr => ?_
  have nd := sc_in_order.nd; have hu : (A.deeper (PyProof.Rows.envOfC "in_order" (defScope st_in_order) s.heap.objs.size f cdv)).units + 65 < cLine := (by have := hr.un; omega)
  refine ⟨_, (ss_cons (s_own 1 nd rfl (by first | exact Or.inl rfl | exact Or.inr rfl) (by first | exact .inr rfl | exact .inl rfl)) (ss_cons (s_for PassesOwn.never rfl (i_dicK (d_dc [("its", 3)] hu rfl nd (i_it (v 0)) (by rfl) (fun _ _ _ _ _ => (gv 3 nd)) (fun _ _ _ _ _ => (v 3)) (fun _ _ _ _ _ => d_bool))) (gv 2 nd) (ss_cons (ss 4 nd (d_lend 1 (d_fn call_len fd_len boot_len rfl T.ml_len (a_cons (d_lc [("its", 3)] rfl nd (i_it (v 1)) (by rfl) (fun _ _ _ _ _ => (gv 3 nd)) (fun _ _ _ _ _ => (ts_one (t_val (d_call (h_before.mono hl_before) hgd hr rfl (a_cons (v 3) (a_cons (v 2) a_nil)))))) (fun _ _ _ _ _ => (v 3))) a_nil)))) (ss_one (s_insert 1 rfl (by first | exact Or.inl rfl | exact Or.inr (Or.inl rfl)) (a_cons (v 4) (a_cons (v 2) a_nil)))))) (ss_one (s_frz 1 (s_ret (v 1)))))), fun b ds Φ h => ?_⟩
  obtain ⟨_, rfl, l, rfl, hl, hs, h⟩ := h
  simp [ρ0]
  intro p
  refine dc_l pD (fun r acc b' => b = b' ∧ ∃ q, l = q ++ r ∧ acc = keysL q) (fun x r acc b' hI X hX => ?_) (fun acc b' hI => ?_) l [] b ⟨rfl, [], rfl, rfl⟩
  · obtain ⟨rfl, q, e, rfl⟩ := hI
    have h1 := dedup_len q
    have h2 := congrArg List.length e
    simp only [List.length_append, List.length_cons] at h2
    simp [deown, wipeE, okV, put_keys]
    refine ⟨?_, hX _ _ ⟨rfl, q ++ [x], by rw [e]; simp, rfl⟩⟩
    unfold keysL; rw [List.length_map]; omega
  · obtain ⟨rfl, q, e, rfl⟩ := hI
    rw [List.append_nil] at e
    subst e
    rw [keys_keys]
    have hd := dedup_len l
    refine for_l pD (fun r ρ b' => b = b' ∧ ∃ q t2 t4, dedup l = q ++ r ∧ ρ = [.dat (.list (l.map pD)), .own p (.list ((q.foldl insC []).map pD)), t2, .no, t4]) (fun x r ρ b' hI X hX => ?_) (fun ρ b' hI => ?_) (dedup l) _ _ ⟨rfl, [], .no, .no, rfl, rfl⟩
    · obtain ⟨rfl, q, t2, t4, e, rfl⟩ := hI
      have h2 := congrArg List.length e
      simp only [List.length_append, List.length_cons] at h2
      have hlen : (q.foldl insC []).length = q.length := by rw [fold_insC_len]; simp
      have hx : Sz 3000 x := hs x (mem_dedup.mp (by rw [e]; simp))
      have hq : ∀ y ∈ q.foldl insC [], Sz 3000 y := fun y hy => by
        rw [mem_fold_insC] at hy
        exact hs y (mem_dedup.mp (by rw [e]; simp [hy.resolve_left (List.not_mem_nil)]))
      simp [bare, deown, wipeE]
      refine lc_filt pD (fun y => decide (lt y x)) pD (q.foldl insC []) (by rw [hlen, sl_eq]; omega) (fun y hy X h1 h2 => ?_) ?_
      · simp [S_before]
        refine ⟨hq y hy, hx, ?_⟩
        by_cases z : lt y x
        · rw [if_pos z]; exact h1 (decide_eq_true z)
        · rw [if_neg z]; exact h2 (decide_eq_false z)
      · have hb : ((q.foldl insC []).filter fun y => decide (lt y x)).length = bef (q.foldl insC []) x := rfl
        have hb2 : bef (q.foldl insC []) x ≤ (q.foldl insC []).length := List.length_filter_le ..
        simp [flat, hb]
        refine ⟨by omega, by omega, hX _ _ ⟨rfl, q ++ [x], .dat (pD x), .dat (.int (bef (q.foldl insC []) x : Nat)), by rw [e]; simp, ?_⟩⟩
        rw [List.foldl_append]
        simp [insC, List.map_take, List.map_drop]
    · obtain ⟨rfl, q, t2, t4, e, rfl⟩ := hI
      rw [List.append_nil] at e
      simp
      rw [← e]
      have : (dedup l).foldl insC [] = lawOrd l := prog_law l
      rw [this]; exact h
theorem lawOrd_len' (l : List P2) : (lawOrd l).length ≤ l.length := lawOrd_len l
theorem cl__law_in_order {P : Program} {w : World} {K : PySem.W.Frag} {mg : Str → Option Value} {base : Heap} (T : Txt K mg) : Cl P w K mg base "_law_in_order" 2 (spP K S_in_order) := by
  have h__law_cross := cl__law_cross (P := P) (w := w) (base := base) T
  have hl__law_cross : 1 ≤ 1 := by decide
  refine cl_pure (k := 1) T.at__law_in_order sc__law_in_order (by decide) (fun ds Φ h => by obtain ⟨_, rfl, _⟩ := h; rfl) fun f cdv A outer s H hgd hr => ?_
  have nd := sc__law_in_order.nd; have hu : (A.deeper (PyProof.Rows.envOfC "_law_in_order" (defScope st__law_in_order) s.heap.objs.size f cdv)).units + 65 < cLine := (by have := hr.un; omega)
  refine ⟨_, (ss_cons (ss 1 nd (d_lst a_nil)) (ss_cons (s_for PassesOwn.never rfl (i_it (v 0)) (gv 2 nd) (ss_cons (ss 3 nd d_int) (ss_cons (s_for PassesOwn.never rfl (i_it (v 1)) (gv 4 nd) (ss_one (s_aug 3 nd rfl (by first | exact Or.inl rfl | exact Or.inr rfl) (by first | exact .inr rfl | exact .inl rfl) (d_ty call_int1 fd_int PyProof.Rows.boot_int rfl T.ml_int (a_cons (dc_gt (d_call (h__law_cross.mono hl__law_cross) hgd hr rfl (a_cons (v 4) (a_cons (v 2) a_nil))) d_int) a_nil))))) (ss_one (ss 1 nd (d_if (t_in hu (v 2) (v 1)) (v 1) (d_addA (d_addA (d_slice (v 1) o_none (o_some (v 3))) (d_lst (a_cons (v 2) a_nil))) (d_slice (v 1) (o_some (v 3)) o_none)))))))) (ss_one (s_ret (v 1))))), fun b ds Φ h => ?_⟩
  obtain ⟨_, rfl, l, rfl, hl, hs, h⟩ := h
  simp [ρ0]
  refine for_l pD (fun r ρ b' => b = b' ∧ ∃ q t2 t3 t4, l = q ++ r ∧ ρ = [.dat (.list (l.map pD)), .dat (.list ((lawOrd q).map pD)), t2, t3, t4]) (fun x r ρ b' hI X hX => ?_) (fun ρ b' hI => ?_) l _ _ ⟨rfl, [], .no, .no, .no, rfl, rfl⟩
  · obtain ⟨rfl, q, t2, t3, t4, e, rfl⟩ := hI
    have hq := lawOrd_len q
    have h2 := congrArg List.length e
    simp only [List.length_append, List.length_cons] at h2
    have hx : Sz 3000 x := hs x (by rw [e]; simp)
    have hqs : ∀ y ∈ lawOrd q, Sz 3000 y := fun y hy => hs y (by rw [e]; simp [mem_lawOrd.mp hy])
    simp
    refine for_l pD (fun r' ρ b' => b = b' ∧ ∃ q' t4, lawOrd q = q' ++ r' ∧ ρ = [.dat (.list (l.map pD)), .dat (.list ((lawOrd q).map pD)), .dat (pD x), .dat (.int (bef q' x : Nat)), t4]) (fun y r' ρ b' hI X' hX' => ?_) (fun ρ b' hI => ?_) (lawOrd q) _ _ ⟨rfl, [], t4, rfl, rfl⟩
    · obtain ⟨rfl, q', t4', e', rfl⟩ := hI
      have hy : Sz 3000 y := hqs y (by rw [e']; simp)
      simp [S_cross]
      refine ⟨hy, hx, hX' _ _ ⟨rfl, q' ++ [y], .dat (pD y), by rw [e']; simp, ?_⟩⟩
      unfold bef
      by_cases z : 0 < crs y x
      · simp [List.filter_append, z]
      · simp [List.filter_append, z]
    · obtain ⟨rfl, q', t4', e', rfl⟩ := hI
      rw [List.append_nil] at e'
      subst e'
      simp
      have key : X [.dat (.list (l.map pD)), .dat (.list ((lawOrd (q ++ [x])).map pD)), .dat (pD x), .dat (.int (bef (lawOrd q) x : Nat)), t4'] b := hX _ _ ⟨rfl, q ++ [x], _, _, _, by rw [e]; simp, rfl⟩
      rw [lawOrd_snoc] at key
      unfold lawStep at key
      by_cases z : x ∈ lawOrd q
      · rw [if_pos z] at key ⊢; exact key
      · rw [if_neg z] at key ⊢
        unfold insC at key
        have hb2 : bef (lawOrd q) x ≤ (lawOrd q).length := List.length_filter_le ..
        simp [List.map_take, List.map_drop] at key ⊢
        exact ⟨by omega, by omega, key⟩
  · obtain ⟨rfl, q, t2, t3, t4, e, rfl⟩ := hI
    rw [List.append_nil] at e
    subst e
    simpa using h
def S_is_amid : SpF := fun ds Φ => as3 ds fun d e f => asP d fun p => asP e fun q => asP f fun r => Dir p ∧ Dir q ∧ Dir r ∧ Sz 800 p ∧ Sz 800 q ∧ Sz 800 r ∧ Φ (.bool (decide (amid p q r)))
theorem amid_end {p q r : P2} (dp : Dir p) (dq : Dir q) (dr : Dir r) (hp : Sz 800 p) (hq : Sz 800 q) (hr : Sz 800 r) {Φ : D → Prop} (h : Φ (.bool (decide (amid p q r)))) :
    if turnB p r = (1, 0) then Φ (PyData.bool false) else if turnB p q = (1, 0) then Φ (PyData.bool true) else Sz 3000 (turnB p r) ∧ Sz 3000 (turnB p q) ∧ Φ (PyData.bool (decide (0 < crs (turnB p r) (turnB p q)))) := by
  have e : decide (amid p q r) = (decide (turnB p r ≠ (1, 0)) && (decide (turnB p q = (1, 0)) || decide (0 < crs (turnB p r) (turnB p q)))) := by
    rw [Bool.eq_iff_iff, decide_eq_true_eq]; unfold amid; simp
  rw [e] at h
  by_cases a : turnB p r = (1, 0)
  · rw [if_pos a]; simpa [a] using h
  · rw [if_neg a]
    by_cases c : turnB p q = (1, 0)
    · rw [if_pos c]; simpa [a, c] using h
    · rw [if_neg c]
      exact ⟨(turn_sz dp dr hp hr).mono (by decide), (turn_sz dp dq hp hq).mono (by decide), by simpa [a, c] using h⟩
theorem cl_is_amid {P : Program} {w : World} {K : PySem.W.Frag} {mg : Str → Option Value} {base : Heap} (T : Txt K mg) : Cl P w K mg base "is_amid" 4 (spP K S_is_amid) := by
  have h_turn_between := cl_turn_between (P := P) (w := w) (base := base) T
  have hl_turn_between : 3 ≤ 3 := by decide
  have h_is_less := cl_is_less (P := P) (w := w) (base := base) T
  have hl_is_less : 3 ≤ 3 := by decide
  refine cl_pure (k := 3) T.at_is_amid sc_is_amid (by decide) (fun ds Φ h => by obtain ⟨_, _, _, rfl, _⟩ := h; rfl) fun f cdv A outer s H hgd hr => ?_
  have nd := sc_is_amid.nd; have hu : (A.deeper (PyProof.Rows.envOfC "is_amid" (defScope st_is_amid) s.heap.objs.size f cdv)).units + 65 < cLine := (by have := hr.un; omega)
  refine ⟨_, (ss_cons (s_par 3 4 rfl nd (a_cons (d_call (h_turn_between.mono hl_turn_between) hgd hr rfl (a_cons (v 0) (a_cons (v 2) a_nil))) (a_cons (d_call (h_turn_between.mono hl_turn_between) hgd hr rfl (a_cons (v 0) (a_cons (v 1) a_nil))) a_nil))) (ss_one (s_ret (d_and (de_ne hu (v 3) (d_gTup rfl T.g_EAST)) (d_one (d_or (de_eq hu (v 4) (d_gTup rfl T.g_EAST)) (d_one (d_call (h_is_less.mono hl_is_less) hgd hr rfl (a_cons (v 3) (a_cons (v 4) a_nil)))))))))), fun b ds Φ h => ?_⟩
  obtain ⟨_, _, _, rfl, p, rfl, q, rfl, r, rfl, dp, dq, dr, hp, hq, hr', h⟩ := h
  simp [ρ0, S_turn, S_before]
  exact ⟨dp, dr, hp.mono (by decide), hr'.mono (by decide), dp, dq, hp.mono (by decide), hq.mono (by decide), amid_end dp dq dr hp hq hr' h⟩
theorem cl__law_amid {P : Program} {w : World} {K : PySem.W.Frag} {mg : Str → Option Value} {base : Heap} (T : Txt K mg) : Cl P w K mg base "_law_amid" 5 (spP K S_is_amid) := by
  have h__law_turn := cl__law_turn (P := P) (w := w) (base := base) T
  have hl__law_turn : 4 ≤ 4 := by decide
  have h__law_cross := cl__law_cross (P := P) (w := w) (base := base) T
  have hl__law_cross : 1 ≤ 4 := by decide
  refine cl_pure (k := 4) T.at__law_amid sc__law_amid (by decide) (fun ds Φ h => by obtain ⟨_, _, _, rfl, _⟩ := h; rfl) fun f cdv A outer s H hgd hr => ?_
  have nd := sc__law_amid.nd; have hu : (A.deeper (PyProof.Rows.envOfC "_law_amid" (defScope st__law_amid) s.heap.objs.size f cdv)).units + 65 < cLine := (by have := hr.un; omega)
  refine ⟨_, (ss_cons (s_par 3 4 rfl nd (a_cons (d_call (h__law_turn.mono hl__law_turn) hgd hr rfl (a_cons (v 0) (a_cons (v 2) a_nil))) (a_cons (d_call (h__law_turn.mono hl__law_turn) hgd hr rfl (a_cons (v 0) (a_cons (v 1) a_nil))) a_nil))) (ss_one (s_ret (d_and (de_ne hu (v 3) (d_tup (a_cons d_int (a_cons d_int a_nil)))) (d_one (d_or (de_eq hu (v 4) (d_tup (a_cons d_int (a_cons d_int a_nil)))) (d_one (dc_gt (d_call (h__law_cross.mono hl__law_cross) hgd hr rfl (a_cons (v 3) (a_cons (v 4) a_nil))) d_int)))))))), fun b ds Φ h => ?_⟩
  obtain ⟨_, _, _, rfl, p, rfl, q, rfl, r, rfl, dp, dq, dr, hp, hq, hr', h⟩ := h
  simp [ρ0, S_turn, S_cross]
  exact ⟨dp, dr, hp.mono (by decide), hr'.mono (by decide), dp, dq, hp.mono (by decide), hq.mono (by decide), amid_end dp dq dr hp hq hr' h⟩
end K96

/-! KB3: promises: rings. -/
namespace K96
open PySem L2 DL
def S_at1 (f : P2 × P2 → P2) : SpF := fun ds Φ => as2 ds fun d e => asR d fun R => asI e fun i => 0 < R.length ∧ Φ (pD (f (rt R (md i R.length))))
theorem cl_rest_at {P : Program} {w : World} {K : PySem.W.Frag} {mg : Str → Option Value} {base : Heap} (T : Txt K mg) : Cl P w K mg base "rest_at" 1 (spP K (S_at1 Prod.snd)) := by
  refine cl_pure (k := 0) T.at_rest_at sc_rest_at (by decide) (fun ds Φ h => by obtain ⟨_, _, rfl, _⟩ := h; rfl) fun f cdv A outer s H hgd hr => ?_
  have nd := sc_rest_at.nd; have hu : (A.deeper (PyProof.Rows.envOfC "rest_at" (defScope st_rest_at) s.heap.objs.size f cdv)).units + 65 < cLine := (by have := hr.un; omega)
  refine ⟨_, (ss_one (s_ret (d_ix (d_ix (v 0) (d_modA (v 1) (d_fn call_len fd_len boot_len rfl T.ml_len (a_cons (v 0) a_nil))) (fun _ _ => rfl)) d_int (fun _ _ => rfl)))), fun b ds Φ h => ?_⟩
  obtain ⟨_, _, rfl, R, rfl, i, rfl, h0, h⟩ := h
  have h0' : ¬ R = [] := fun e => by rw [e] at h0; exact absurd h0 (by decide)
  simp [ρ0, rD_ix h0, h0']
  exact h
theorem cl_top_at {P : Program} {w : World} {K : PySem.W.Frag} {mg : Str → Option Value} {base : Heap} (T : Txt K mg) : Cl P w K mg base "top_at" 1 (spP K (S_at1 Prod.fst)) := by
  refine cl_pure (k := 0) T.at_top_at sc_top_at (by decide) (fun ds Φ h => by obtain ⟨_, _, rfl, _⟩ := h; rfl) fun f cdv A outer s H hgd hr => ?_
  have nd := sc_top_at.nd; have hu : (A.deeper (PyProof.Rows.envOfC "top_at" (defScope st_top_at) s.heap.objs.size f cdv)).units + 65 < cLine := (by have := hr.un; omega)
  refine ⟨_, (ss_one (s_ret (d_ix (d_ix (v 0) (d_modA (v 1) (d_fn call_len fd_len boot_len rfl T.ml_len (a_cons (v 0) a_nil))) (fun _ _ => rfl)) d_int (fun _ _ => rfl)))), fun b ds Φ h => ?_⟩
  obtain ⟨_, _, rfl, R, rfl, i, rfl, h0, h⟩ := h
  have h0' : ¬ R = [] := fun e => by rw [e] at h0; exact absurd h0 (by decide)
  simp [ρ0, rD_ix h0, h0']
  exact h
def S_squeezed : SpF := fun ds Φ => as2 ds fun d e => asR d fun R => asP e fun x => RG R ∧ Dir x ∧ Sz 800 x ∧ Φ (.int (room (tops R) x : Nat))
theorem cl_squeezed {P : Program} {w : World} {K : PySem.W.Frag} {mg : Str → Option Value} {base : Heap} (T : Txt K mg) : Cl P w K mg base "squeezed" 5 (spP K S_squeezed) := by
  have h_is_amid := cl_is_amid (P := P) (w := w) (base := base) T
  have hl_is_amid : 4 ≤ 4 := by decide
  refine cl_pure (k := 4) T.at_squeezed sc_squeezed (by decide) (fun ds Φ h => by obtain ⟨_, _, rfl, _⟩ := h; rfl) fun f cdv A outer s H hgd hr => ?_
  have nd := sc_squeezed.nd; have hu : (A.deeper (PyProof.Rows.envOfC "squeezed" (defScope st_squeezed) s.heap.objs.size f cdv)).units + 65 < cLine := (by have := hr.un; omega)
  refine ⟨_, (ss_cons (s_for PassesOwn.never rfl (i_enum rfl T.ml_enumerate (v 0)) (g_tup (n := 2) rfl (g_cons (gv 2 nd) (g_cons (g_tup (n := 2) rfl (g_cons (gv 3 nd) (g_cons (gv 4 nd) g_nil))) g_nil))) (ss_cons (ss 5 nd (d_ix (d_ix (v 0) (d_modA (d_addA (v 2) d_int) (d_fn call_len fd_len boot_len rfl T.ml_len (a_cons (v 0) a_nil))) (fun _ _ => rfl)) d_int (fun _ _ => rfl))) (ss_one (s_if (t_w (u_or (te_eq hu (v 1) (v 3)) (u_or1 (t_val (d_call (h_is_amid.mono hl_is_amid) hgd hr rfl (a_cons (v 3) (a_cons (v 5) (a_cons (v 1) a_nil)))))))) (ss_one (s_ret (v 2))) ss_nil)))) (ss_one (s_ret d_int))), fun b ds Φ h => ?_⟩
  obtain ⟨_, _, rfl, R, rfl, x, rfl, hR, dx, hx, h⟩ := h
  have h0 := hR.pos
  have h0' : ¬ R = [] := fun e => by rw [e] at h0; exact absurd h0 (by decide)
  have hin : ∀ k, k < R.length → (InRoom (tops R) x k ↔ k = room (tops R) x) := fun k hk => inRoom_iff hR.good.srt hR.good.dt dx (by rw [tops_len]; exact hk)
  have hrm : room (tops R) x < R.length := by have := room_lt x (l := tops R) (by rw [tops_len]; exact h0); rwa [tops_len] at this
  simp [ρ0, enum_map]
  refine for_l (fun p : (P2 × P2) × Nat => PyData.tuple [.int (p.2 : Nat), cD p.1]) (fun r ρ b' => ∃ q t2 t3 t4 t5, R.zipIdx = q ++ r ∧ (∀ k, k < q.length → ¬ InRoom (tops R) x k) ∧ ρ = [.dat (rD R), .dat (pD x), t2, t3, t4, t5]) (fun a r ρ b' hI X hX => ?_) (fun ρ b' hI => ?_) R.zipIdx _ _ ⟨[], .no, .no, .no, .no, rfl, fun k hk => absurd hk (Nat.not_lt_zero _), rfl⟩
  · obtain ⟨q, t2, t3, t4, t5, e, hno, rfl⟩ := hI
    obtain ⟨a, i⟩ := a
    obtain ⟨rfl, ha, hlt⟩ := zip_at e
    have ea := rt_of ha
    have hm := md_lt (i := (q.length : Int) + 1) h0
    simp [h0', rD_ix h0, S_is_amid]
    rw [md_succ] at hm ⊢
    have hroom : InRoom (tops R) x q.length ↔ (x = a.1 ∨ amid a.1 (rt R ((q.length + 1) % R.length)).1 x) := by
      unfold InRoom
      rw [tops_len, tp_tops hlt, tp_tops hm, ea]
    have hgo : ¬ InRoom (tops R) x q.length → X [Sl.dat (rD R), Sl.dat (pD x), Sl.dat (PyData.int (q.length : Nat)), Sl.dat (pD a.1), Sl.dat (pD a.2), Sl.dat (pD (rt R ((q.length + 1) % R.length)).1)] b' := fun hn => hX _ _ ⟨q ++ [(a, q.length)], _, _, _, _, by rw [e]; simp, fun k hk => by
      simp only [List.length_append, List.length_singleton] at hk
      by_cases z : k = q.length
      · rw [z]; exact hn
      · exact hno k (by omega), rfl⟩
    by_cases z : x = a.1
    · rw [if_pos z]
      have := (hin _ hlt).mp (hroom.mpr (.inl z))
      rw [this]; exact h
    · rw [if_neg z]
      refine ⟨by rw [← ea]; exact hR.d1 hlt, hR.d1 hm, dx, by rw [← ea]; exact hR.s1 hlt (by decide), hR.s1 hm (by decide), hx, ?_⟩
      by_cases w : amid a.1 (rt R ((q.length + 1) % R.length)).1 x
      · rw [if_pos w]
        have := (hin _ hlt).mp (hroom.mpr (.inr w))
        rw [this]; exact h
      · rw [if_neg w]
        exact hgo fun c => (hroom.mp c).elim z w
  · obtain ⟨q, t2, t3, t4, t5, e, hno, rfl⟩ := hI
    rw [List.append_nil] at e
    have : q.length = R.length := by rw [← e, List.length_zipIdx]
    exact absurd ((hin _ hrm).mpr rfl) (hno _ (by omega))
theorem cl__law_squeezed {P : Program} {w : World} {K : PySem.W.Frag} {mg : Str → Option Value} {base : Heap} (T : Txt K mg) : Cl P w K mg base "_law_squeezed" 2 (spP K S_squeezed) := by
  have h__law_cross := cl__law_cross (P := P) (w := w) (base := base) T
  have hl__law_cross : 1 ≤ 1 := by decide
  refine cl_pure (k := 1) T.at__law_squeezed sc__law_squeezed (by decide) (fun ds Φ h => by obtain ⟨_, _, rfl, _⟩ := h; rfl) fun f cdv A outer s H hgd hr => ?_
  have nd := sc__law_squeezed.nd; have hu : (A.deeper (PyProof.Rows.envOfC "_law_squeezed" (defScope st__law_squeezed) s.heap.objs.size f cdv)).units + 65 < cLine := (by have := hr.un; omega)
  refine ⟨_, (ss_cons (ss 2 nd (d_subA (d_fn call_len fd_len boot_len rfl T.ml_len (a_cons (v 0) a_nil)) d_int)) (ss_cons (s_for PassesOwn.never rfl (i_rg1 rfl T.ml_range (a_cons (d_fn call_len fd_len boot_len rfl T.ml_len (a_cons (v 0) a_nil)) a_nil)) (gv 3 nd) (ss_one (ss 2 nd (d_if (t_w (u_or (te_eq hu (d_ix (d_ix (v 0) (v 3) (fun _ _ => rfl)) d_int (fun _ _ => rfl)) (v 1)) (u_or1 (tc_gt (d_call (h__law_cross.mono hl__law_cross) hgd hr rfl (a_cons (d_ix (d_ix (v 0) (v 3) (fun _ _ => rfl)) d_int (fun _ _ => rfl)) (a_cons (v 1) a_nil))) d_int)))) (v 3) (v 2))))) (ss_one (s_ret (v 2))))), fun b ds Φ h => ?_⟩
  obtain ⟨_, _, rfl, R, rfl, x, rfl, hR, dx, hx, h⟩ := h
  have h0 := hR.pos
  have hfew := hR.few
  have e0 : sqL (tops R) x = room (tops R) x := sqL_room hR.good.srt hR.good.dt dx
  simp [ρ0, rg_map]
  refine ⟨by omega, ?_⟩
  refine for_l (fun k : Nat => PyData.int (k : Int)) (fun r ρ b' => ∃ q t3, List.range R.length = q ++ r ∧ ρ = [.dat (rD R), .dat (pD x), .dat (.int ((q.foldl (fun f k => if le' (tp (tops R) k) x then k else f) (R.length - 1) : Nat) : Int)), t3]) (fun k r ρ b' hI X hX => ?_) (fun ρ b' hI => ?_) (List.range R.length) _ _ ⟨[], .no, rfl, ?_⟩
  · obtain ⟨q, t3, e, rfl⟩ := hI
    obtain ⟨hk, _, hlt⟩ := range_at e
    have hg : ∀ Y, X [.dat (rD R), .dat (pD x), .dat (.int (((q ++ [k]).foldl (fun f k => if le' (tp (tops R) k) x then k else f) (R.length - 1) : Nat) : Int)), .dat (.int (k : Nat))] Y := fun Y => hX _ _ ⟨q ++ [k], _, by rw [e]; simp, rfl⟩
    simp only [List.foldl_append, List.foldl_cons, List.foldl_nil, tp_tops hlt] at hg
    simp [rD_nat hlt, S_cross]
    by_cases z : (rt R k).1 = x
    · rw [if_pos z]
      have := hg b'
      rw [if_pos (show le' (rt R k).1 x from .inl z)] at this
      exact this
    · rw [if_neg z]
      refine ⟨hR.s1 hlt (by decide), hx.mono (by decide), ?_⟩
      have := hg b'
      by_cases w : 0 < crs (rt R k).1 x
      · rw [if_pos w]
        rw [if_pos (show le' (rt R k).1 x from .inr w)] at this
        exact this
      · rw [if_neg w]
        rw [if_neg (show ¬ le' (rt R k).1 x from fun c => c.elim z w)] at this
        exact this
  · obtain ⟨q, t3, e, rfl⟩ := hI
    rw [List.append_nil] at e
    subst e
    simp
    have : sqL (tops R) x = (List.range R.length).foldl (fun f k => if le' (tp (tops R) k) x then k else f) (R.length - 1) := by
      unfold sqL; rw [tops_len]
    rw [← this, e0]; exact h
  · have : ((R.length - 1 : Nat) : Int) = (R.length : Int) - 1 := by omega
    simp [this]
def S_next_rest : SpF := fun ds Φ => as3 ds fun d e f => asR d fun R => asI e fun i => asP f fun t => RG R ∧ Dir t ∧ Sz 400 t ∧ Φ (.int (room (tops R) (put (rt R (md i R.length)).2 t) : Nat))
theorem cl_next_rest {P : Program} {w : World} {K : PySem.W.Frag} {mg : Str → Option Value} {base : Heap} (T : Txt K mg) : Cl P w K mg base "next_rest" 6 (spP K S_next_rest) := by
  have h_squeezed := cl_squeezed (P := P) (w := w) (base := base) T
  have hl_squeezed : 5 ≤ 5 := by decide
  have h_put := cl_put (P := P) (w := w) (base := base) T
  have hl_put : 2 ≤ 5 := by decide
  have h_rest_at := cl_rest_at (P := P) (w := w) (base := base) T
  have hl_rest_at : 1 ≤ 5 := by decide
  refine cl_pure (k := 5) T.at_next_rest sc_next_rest (by decide) (fun ds Φ h => by obtain ⟨_, _, _, rfl, _⟩ := h; rfl) fun f cdv A outer s H hgd hr => ?_
  have nd := sc_next_rest.nd; have hu : (A.deeper (PyProof.Rows.envOfC "next_rest" (defScope st_next_rest) s.heap.objs.size f cdv)).units + 65 < cLine := (by have := hr.un; omega)
  refine ⟨_, (ss_one (s_ret (d_call (h_squeezed.mono hl_squeezed) hgd hr rfl (a_cons (v 0) (a_cons (d_call (h_put.mono hl_put) hgd hr rfl (a_cons (d_call (h_rest_at.mono hl_rest_at) hgd hr rfl (a_cons (v 0) (a_cons (v 1) a_nil))) (a_cons (v 2) a_nil))) a_nil))))), fun b ds Φ h => ?_⟩
  obtain ⟨_, _, _, rfl, R, rfl, i, rfl, t, rfl, hR, dt, ht, h⟩ := h
  have hk := md_lt (i := i) hR.pos
  simp [ρ0, S_at1, S_put, S_squeezed]
  exact ⟨hR.pos, hR.d2 hk, dt, hR.s2 hk (by decide), ht.mono (by decide), hR, put_dir (hR.d2 hk) dt, (put_sz (hR.d2 hk) dt (hR.s2 hk (n := 20) (by decide)) ht).mono (by decide), h⟩
def S_law_next : SpF := fun ds Φ => as3 ds fun d e f => asR d fun R => asI e fun i => asP f fun t => ∃ k : Nat, i = k ∧ k < R.length ∧ RG R ∧ Dir t ∧ Sz 400 t ∧ Φ (.int (room (tops R) (put (rt R k).2 t) : Nat))
theorem cl__law_next {P : Program} {w : World} {K : PySem.W.Frag} {mg : Str → Option Value} {base : Heap} (T : Txt K mg) : Cl P w K mg base "_law_next" 4 (spP K S_law_next) := by
  have h__law_squeezed := cl__law_squeezed (P := P) (w := w) (base := base) T
  have hl__law_squeezed : 2 ≤ 3 := by decide
  have h__law_put := cl__law_put (P := P) (w := w) (base := base) T
  have hl__law_put : 3 ≤ 3 := by decide
  refine cl_pure (k := 3) T.at__law_next sc__law_next (by decide) (fun ds Φ h => by obtain ⟨_, _, _, rfl, _⟩ := h; rfl) fun f cdv A outer s H hgd hr => ?_
  have nd := sc__law_next.nd; have hu : (A.deeper (PyProof.Rows.envOfC "_law_next" (defScope st__law_next) s.heap.objs.size f cdv)).units + 65 < cLine := (by have := hr.un; omega)
  refine ⟨_, (ss_one (s_ret (d_call (h__law_squeezed.mono hl__law_squeezed) hgd hr rfl (a_cons (v 0) (a_cons (d_call (h__law_put.mono hl__law_put) hgd hr rfl (a_cons (d_ix (d_ix (v 0) (v 1) (fun _ _ => rfl)) d_int (fun _ _ => rfl)) (a_cons (v 2) a_nil))) a_nil))))), fun b ds Φ h => ?_⟩
  obtain ⟨_, _, _, rfl, R, rfl, i, rfl, t, rfl, k, rfl, hk, hR, dt, ht, h⟩ := h
  simp [ρ0, S_put, S_squeezed, rD_nat hk]
  exact ⟨hR.d2 hk, dt, hR.s2 hk (by decide), ht.mono (by decide), hR, put_dir (hR.d2 hk) dt, (put_sz (hR.d2 hk) dt (hR.s2 hk (n := 20) (by decide)) ht).mono (by decide), h⟩
end K96

/-! KB4: promises: rings turned, kinds. -/
namespace K96
open PySem L2 DL
def S_turned_ring : SpF := fun ds Φ => as2 ds fun d e => asR d fun R => asP e fun t => RG R ∧ Dir t ∧ Sz 400 t ∧ Φ (.list ((turned (mapR R t)).map cD))
theorem mapR_app (q r : Ring) (t : P2) : mapR (q ++ r) t = mapR q t ++ mapR r t := List.map_append
@[simp] theorem ok_pp {i j : Int} : okV (.tuple [.int i, .int j]) = true := rfl
@[simp] theorem ok_b {k : Bool} : okV (.bool k) = true := rfl
theorem cl_turned_ring {P : Program} {w : World} {K : PySem.W.Frag} {mg : Str → Option Value} {base : Heap} (T : Txt K mg) : Cl P w K mg base "turned_ring" 4 (spP K S_turned_ring) := by
  have h_put := cl_put (P := P) (w := w) (base := base) T
  have hl_put : 2 ≤ 3 := by decide
  have h_in_order := cl_in_order (P := P) (w := w) (base := base) T
  have hl_in_order : 3 ≤ 3 := by decide
  refine cl_pure (k := 3) T.at_turned_ring sc_turned_ring (by decide) (fun ds Φ h => by obtain ⟨_, _, rfl, _⟩ := h; rfl) fun f cdv A outer s H hgd hr => ?_
  have nd := sc_turned_ring.nd; have hu : (A.deeper (PyProof.Rows.envOfC "turned_ring" (defScope st_turned_ring) s.heap.objs.size f cdv)).units + 65 < cLine := (by have := hr.un; omega)
  refine ⟨_, (ss_cons (ss 2 nd (d_dc [("top", 3), ("rest", 4)] hu rfl nd (i_it (v 0)) (by rfl) (fun _ _ _ _ _ => (g_tup (n := 2) rfl (g_cons (gv 3 nd) (g_cons (gv 4 nd) g_nil)))) (fun _ _ _ _ _ => (d_call (h_put.mono hl_put) hgd hr rfl (a_cons (v 3) (a_cons (v 1) a_nil)))) (fun _ _ _ _ _ => (d_call (h_put.mono hl_put) hgd hr rfl (a_cons (v 4) (a_cons (v 1) a_nil)))))) (ss_one (s_ret (d_lc [("top", 3)] rfl nd (i_it (d_call (h_in_order.mono hl_in_order) hgd hr rfl (a_cons (d_ty (cr_listK rfl) fd_listK PyProof.Rows.boot_list rfl T.ml_list (a_cons (v 2) a_nil)) a_nil))) (by rfl) (fun _ _ _ _ _ => (gv 3 nd)) (fun _ _ _ _ _ => ts_nil) (fun _ _ _ _ _ => (d_tup (a_cons (v 3) (a_cons (d_ixK hu (v 2) (v 3) (fun _ _ => rfl)) a_nil)))))))), fun b ds Φ h => ?_⟩
  obtain ⟨_, _, rfl, R, rfl, t, rfl, hR, dt, ht, h⟩ := h
  have hnd : (tops (mapR R t)).Nodup := by
    rw [tops_mapR]
    exact nodup_put (srt_nodup hR.good.srt) hR.good.dt dt
  have hfew := hR.few
  simp [ρ0]
  refine dc_l cD (fun r acc b' => b = b' ∧ ∃ q, R = q ++ r ∧ acc = dS (mapR q t)) (fun x r acc b' hI X hX => ?_) (fun acc b' hI => ?_) R [] b ⟨rfl, [], rfl, rfl⟩
  · obtain ⟨rfl, q, e, rfl⟩ := hI
    have h2 := congrArg List.length e
    simp only [List.length_append, List.length_cons] at h2
    have mx : x ∈ R := by rw [e]; simp
    have dx := hR.good.dt x.1 (List.mem_map.mpr ⟨x, mx, rfl⟩)
    have dx2 := hR.good.dr x.2 (List.mem_map.mpr ⟨x, mx, rfl⟩)
    have sx := hR.sz x mx
    have hnot : put x.1 t ∉ tops (mapR q t) := by
      rw [e, mapR_app] at hnd
      unfold tops at hnd
      rw [List.map_append] at hnd
      have := (List.nodup_append.mp hnd).2.2
      intro c
      exact this _ c (put x.1 t) (by simp [mapR]) rfl
    simp [deown, wipeE, S_put]
    refine ⟨dx, dt, sx.1.mono (by decide), ht.mono (by decide), dx2, dt, sx.2.mono (by decide), ht.mono (by decide), ?_, ?_⟩
    · unfold dS mapR; rw [List.length_map, List.length_map]; omega
    · rw [dS_put hnot]
      exact hX _ _ ⟨rfl, q ++ [x], by rw [e]; simp, by rw [mapR_app]; rfl⟩
  · obtain ⟨rfl, q, e, rfl⟩ := hI
    rw [List.append_nil] at e
    subst e
    have tl : (tops (mapR R t)).length = R.length := by rw [tops_len]; unfold mapR; rw [List.length_map]
    have szt : ∀ p ∈ tops (mapR R t), Sz 3000 p := fun p hp => by
      rw [tops_mapR] at hp
      obtain ⟨y, hy, rfl⟩ := List.mem_map.mp hp
      obtain ⟨a, ha, rfl⟩ := List.mem_map.mp hy
      exact (put_sz (hR.good.dt _ hy) dt (hR.sz a ha).1 ht).mono (by decide)
    have hlo := lawOrd_len (tops (mapR R t))
    have hdl : (dS (mapR R t)).length ≤ 60 := by unfold dS mapR; rw [List.length_map, List.length_map]; omega
    simp [oListK]
    refine ⟨dS (mapR R t), rfl, by omega, ?_⟩
    rw [dS_keys]
    simp [S_in_order, deown, wipeE]
    refine ⟨by omega, fun a c hp => szt (a, c) hp, ?_⟩
    refine lc_map pD (fun x => cD (x, look (mapR R t) x)) (lawOrd (tops (mapR R t))) (by rw [sl_eq]; omega) (fun x hx X hX => ?_) ?_
    · simp
      refine ⟨[x.1, x.2], .tuple [.int (look (mapR R t) x).1, .int (look (mapR R t) x).2], dS_find (mem_lawOrd.mp hx), ?_⟩
      exact hX
    · unfold turned at h
      rw [List.map_map] at h
      exact h
def S_leaves : SpF := fun ds Φ => as2 ds fun d e => asR d fun R => asP e fun t => RG R ∧ Dir t ∧ Sz 400 t ∧ Φ (.bool (decide (SameR (mapR R t) R)))
theorem cl_leaves {P : Program} {w : World} {K : PySem.W.Frag} {mg : Str → Option Value} {base : Heap} (T : Txt K mg) : Cl P w K mg base "leaves" 5 (spP K S_leaves) := by
  have h_turned_ring := cl_turned_ring (P := P) (w := w) (base := base) T
  have hl_turned_ring : 4 ≤ 4 := by decide
  refine cl_pure (k := 4) T.at_leaves sc_leaves (by decide) (fun ds Φ h => by obtain ⟨_, _, rfl, _⟩ := h; rfl) fun f cdv A outer s H hgd hr => ?_
  have nd := sc_leaves.nd; have hu : (A.deeper (PyProof.Rows.envOfC "leaves" (defScope st_leaves) s.heap.objs.size f cdv)).units + 65 < cLine := (by have := hr.un; omega)
  refine ⟨_, (ss_one (s_ret (de_eq hu (d_call (h_turned_ring.mono hl_turned_ring) hgd hr rfl (a_cons (v 0) (a_cons (v 1) a_nil))) (d_ty call_list_of fd_list PyProof.Rows.boot_list rfl T.ml_list (a_cons (v 0) a_nil))))), fun b ds Φ h => ?_⟩
  obtain ⟨_, _, rfl, R, rfl, t, rfl, hR, dt, ht, h⟩ := h
  simp [ρ0, S_turned_ring]
  have e : decide (turned (mapR R t) = R) = decide (SameR (mapR R t) R) := decide_eq_decide.mpr (leaves_iff hR.good dt)
  rw [e]
  exact ⟨hR, dt, ht, h⟩
def S_same_turns : SpF := fun ds Φ => as1 ds fun d => asR d fun R => RG R ∧ Φ (.list ((sameT R).map pD))
theorem someT_sz {R : Ring} (hR : RG R) : ∀ p ∈ someT R, Dir p ∧ Sz 41 p := fun p hp => by
  unfold someT at hp
  obtain ⟨y, hy, rfl⟩ := List.mem_map.mp hp
  obtain ⟨a, ha, rfl⟩ := List.mem_map.mp hy
  have e := tp_tops hR.pos
  rw [e]
  exact ⟨turn_dir (hR.d1 hR.pos) (hR.good.dt _ hy), turn_sz (hR.d1 hR.pos) (hR.good.dt _ hy) (hR.s1 hR.pos (Nat.le_refl _)) (hR.sz a ha).1⟩
theorem cl_same_turns {P : Program} {w : World} {K : PySem.W.Frag} {mg : Str → Option Value} {base : Heap} (T : Txt K mg) : Cl P w K mg base "same_turns" 6 (spP K S_same_turns) := by
  have h_turn_between := cl_turn_between (P := P) (w := w) (base := base) T
  have hl_turn_between : 3 ≤ 5 := by decide
  have h_in_order := cl_in_order (P := P) (w := w) (base := base) T
  have hl_in_order : 3 ≤ 5 := by decide
  have h_leaves := cl_leaves (P := P) (w := w) (base := base) T
  have hl_leaves : 5 ≤ 5 := by decide
  refine cl_pure (k := 5) T.at_same_turns sc_same_turns (by decide) (fun ds Φ h => by obtain ⟨_, rfl, _⟩ := h; rfl) fun f cdv A outer s H hgd hr => ?_
  have nd := sc_same_turns.nd; have hu : (A.deeper (PyProof.Rows.envOfC "same_turns" (defScope st_same_turns) s.heap.objs.size f cdv)).units + 65 < cLine := (by have := hr.un; omega)
  refine ⟨_, (ss_cons (s_setLc 1 [("top", 2), ("rest", 3)] rfl nd rfl rfl rfl (i_it (v 0)) (by rfl) (fun _ _ _ _ _ => (g_tup (n := 2) rfl (g_cons (gv 2 nd) (g_cons (gv 3 nd) g_nil)))) (fun _ _ _ _ _ => ts_nil) (fun _ _ _ _ _ => (d_call (h_turn_between.mono hl_turn_between) hgd hr rfl (a_cons (d_ix (d_ix (v 0) d_int (fun _ _ => rfl)) d_int (fun _ _ => rfl)) (a_cons (v 2) a_nil))))) (ss_one (s_ret (d_call (h_in_order.mono hl_in_order) hgd hr rfl (a_cons (d_lc [("turn", 4)] rfl nd (i_it (v 1)) (by rfl) (fun _ _ _ _ _ => (gv 4 nd)) (fun _ _ _ _ _ => (ts_one (t_val (d_call (h_leaves.mono hl_leaves) hgd hr rfl (a_cons (v 0) (a_cons (v 4) a_nil)))))) (fun _ _ _ _ _ => (v 4))) a_nil))))), fun b ds Φ h => ?_⟩
  obtain ⟨_, rfl, R, rfl, hR, h⟩ := h
  have hfew := hR.few
  have hs := someT_sz hR
  have hl : (someT R).length = R.length := by unfold someT; rw [List.length_map, tops_len]
  simp [ρ0, deown, wipeE]
  refine lc_map cD (fun a => pD (turnB (tp (tops R) 0) a.1)) R (by rw [sl_eq]; omega) (fun a ha X hX => ?_) ?_
  · simp [rD_0 hR.pos, S_turn]
    refine ⟨hR.d1 hR.pos, hR.good.dt _ (List.mem_map.mpr ⟨a, ha, rfl⟩), hR.s1 hR.pos (by decide), (hR.sz a ha).1.mono (by decide), ?_⟩
    rw [tp_tops hR.pos] at hX
    exact hX
  · have e : R.map (fun a => pD (turnB (tp (tops R) 0) a.1)) = (someT R).map pD := by
      unfold someT tops; rw [List.map_map, List.map_map]; rfl
    rw [e]
    refine lc_filt pD (fun t => decide (SameR (mapR R t) R)) pD (someT R) (by rw [sl_eq]; omega) (fun t ht X h1 h2 => ?_) ?_
    · obtain ⟨d, s⟩ := hs t ht
      simp [S_leaves]
      refine ⟨hR, d, s.mono (by decide), ?_⟩
      by_cases z : SameR (mapR R t) R
      · rw [if_pos z]; exact h1 (decide_eq_true z)
      · rw [if_neg z]; exact h2 (decide_eq_false z)
    · have := List.length_filter_le (fun t => decide (SameR (mapR R t) R)) (someT R)
      simp [S_in_order]
      exact ⟨Nat.le_trans (List.length_filter_le _ _) (by omega), fun a c hp _ => (hs (a, c) hp).2.mono (by decide), h⟩
def S_unlike_many : SpF := fun ds Φ => as1 ds fun d => asR d fun R => RG R ∧ Φ (.int (kinds R : Nat))
theorem fdiv_nat (a c : Nat) : (a : Int).fdiv (c : Int) = ((a / c : Nat) : Int) := by
  rw [Int.fdiv_eq_ediv_of_nonneg _ (by omega)]; rfl
theorem cl_unlike_many {P : Program} {w : World} {K : PySem.W.Frag} {mg : Str → Option Value} {base : Heap} (T : Txt K mg) : Cl P w K mg base "unlike_many" 7 (spP K S_unlike_many) := by
  have h_same_turns := cl_same_turns (P := P) (w := w) (base := base) T
  have hl_same_turns : 6 ≤ 6 := by decide
  refine cl_pure (k := 6) T.at_unlike_many sc_unlike_many (by decide) (fun ds Φ h => by obtain ⟨_, rfl, _⟩ := h; rfl) fun f cdv A outer s H hgd hr => ?_
  have nd := sc_unlike_many.nd; have hu : (A.deeper (PyProof.Rows.envOfC "unlike_many" (defScope st_unlike_many) s.heap.objs.size f cdv)).units + 65 < cLine := (by have := hr.un; omega)
  refine ⟨_, (ss_one (s_ret (d_divA (d_fn call_len fd_len boot_len rfl T.ml_len (a_cons (v 0) a_nil)) (d_fn call_len fd_len boot_len rfl T.ml_len (a_cons (d_call (h_same_turns.mono hl_same_turns) hgd hr rfl (a_cons (v 0) a_nil)) a_nil))))), fun b ds Φ h => ?_⟩
  obtain ⟨_, rfl, R, rfl, hR, h⟩ := h
  have hl := sameT_len hR.good
  have hfew := hR.few
  have c : CDivA (R.length : Int) ((sameT R).length : Int) := cdiv (k := 20) (Bd.of 1000 (by omega) (by decide)) (by decide) (by omega)
  simp [ρ0, S_same_turns, c, fdiv_nat]
  exact ⟨hR, h⟩
def S_are_alike : SpF := fun ds Φ => as3 ds fun d e f => asR d fun R => asI e fun i => asI f fun j => RG R ∧ Φ (.bool (decide (md (i - j) (kinds R) = 0)))
theorem cl_are_alike {P : Program} {w : World} {K : PySem.W.Frag} {mg : Str → Option Value} {base : Heap} (T : Txt K mg) : Cl P w K mg base "are_alike" 8 (spP K S_are_alike) := by
  have h_unlike_many := cl_unlike_many (P := P) (w := w) (base := base) T
  have hl_unlike_many : 7 ≤ 7 := by decide
  refine cl_pure (k := 7) T.at_are_alike sc_are_alike (by decide) (fun ds Φ h => by obtain ⟨_, _, _, rfl, _⟩ := h; rfl) fun f cdv A outer s H hgd hr => ?_
  have nd := sc_are_alike.nd; have hu : (A.deeper (PyProof.Rows.envOfC "are_alike" (defScope st_are_alike) s.heap.objs.size f cdv)).units + 65 < cLine := (by have := hr.un; omega)
  refine ⟨_, (ss_one (s_ret (de_eq hu (d_modA (d_subA (v 1) (v 2)) (d_call (h_unlike_many.mono hl_unlike_many) hgd hr rfl (a_cons (v 0) a_nil))) d_int))), fun b ds Φ h => ?_⟩
  obtain ⟨_, _, _, rfl, R, rfl, i, rfl, j, rfl, hR, h⟩ := h
  have hk := kinds_pos hR.good
  have e : (decide ((md (i - j) (kinds R) : Int) = 0)) = decide (md (i - j) (kinds R) = 0) := decide_eq_decide.mpr (by omega)
  have k0 : ¬ kinds R = 0 := by omega
  simp [ρ0, S_unlike_many, md_eq hk.1, k0]
  exact ⟨hR, h⟩
end K96

/-! KB5: promises: tops, rooms, maps. -/
namespace K96
open PySem L2 DL
def S_is_top : SpF := fun ds Φ => as2 ds fun d e => asR d fun R => asP e fun x => R.length ≤ 60 ∧ Φ (.bool (decide (x ∈ tops R)))
theorem cl_is_top {P : Program} {w : World} {K : PySem.W.Frag} {mg : Str → Option Value} {base : Heap} (T : Txt K mg) : Cl P w K mg base "is_top" 1 (spP K S_is_top) := by
  refine cl_pure (k := 0) T.at_is_top sc_is_top (by decide) (fun ds Φ h => by obtain ⟨_, _, rfl, _⟩ := h; rfl) fun f cdv A outer s H hgd hr => ?_
  have nd := sc_is_top.nd; have hu : (A.deeper (PyProof.Rows.envOfC "is_top" (defScope st_is_top) s.heap.objs.size f cdv)).units + 65 < cLine := (by have := hr.un; omega)
  refine ⟨_, (ss_one (s_ret (d_fn (cr_any rfl) fd_any PyProof.Rows.boot_any rfl T.ml_any (a_cons (d_lc [("top", 2), ("rest", 3)] rfl nd (i_it (v 0)) (by rfl) (fun _ _ _ _ _ => (g_tup (n := 2) rfl (g_cons (gv 2 nd) (g_cons (gv 3 nd) g_nil)))) (fun _ _ _ _ _ => ts_nil) (fun _ _ _ _ _ => (de_eq hu (v 2) (v 1)))) a_nil)))), fun b ds Φ h => ?_⟩
  obtain ⟨_, _, rfl, R, rfl, x, rfl, hl, h⟩ := h
  simp [ρ0, deown, wipeE]
  refine lc_map cD (fun a => .bool (decide (a.1 = x))) R (by rw [sl_eq]; omega) (fun a ha X hX => ?_) ?_
  · simp
    exact hX
  · have e : R.map (fun a => PyData.bool (decide (a.1 = x))) = (R.map (fun a => decide (a.1 = x))).map .bool := by rw [List.map_map]; rfl
    rw [e]
    refine oAny_i ?_
    have e2 : (R.map (fun a => decide (a.1 = x))).any id = decide (x ∈ tops R) := by
      rw [Bool.eq_iff_iff, List.any_map, List.any_eq_true, decide_eq_true_eq]
      unfold tops
      rw [List.mem_map]
      constructor
      · rintro ⟨a, ha, he⟩; exact ⟨a, ha, of_decide_eq_true he⟩
      · rintro ⟨a, ha, he⟩; exact ⟨a, ha, decide_eq_true he⟩
    rw [e2]
    exact h
def S_rooms : SpF := fun ds Φ => as3 ds fun d e f => asR d fun R => asI e fun i => asI f fun j => RG R ∧ Φ (.tuple [pD (turnB (rt R (md i R.length)).2 (rt R (md j R.length)).1), pD (turnB (rt R (md i R.length)).2 (rt R (md (j + 1) R.length)).1)])
theorem cl_rooms {P : Program} {w : World} {K : PySem.W.Frag} {mg : Str → Option Value} {base : Heap} (T : Txt K mg) : Cl P w K mg base "rooms" 4 (spP K S_rooms) := by
  have h_rest_at := cl_rest_at (P := P) (w := w) (base := base) T
  have hl_rest_at : 1 ≤ 3 := by decide
  have h_turn_between := cl_turn_between (P := P) (w := w) (base := base) T
  have hl_turn_between : 3 ≤ 3 := by decide
  have h_top_at := cl_top_at (P := P) (w := w) (base := base) T
  have hl_top_at : 1 ≤ 3 := by decide
  refine cl_pure (k := 3) T.at_rooms sc_rooms (by decide) (fun ds Φ h => by obtain ⟨_, _, _, rfl, _⟩ := h; rfl) fun f cdv A outer s H hgd hr => ?_
  have nd := sc_rooms.nd; have hu : (A.deeper (PyProof.Rows.envOfC "rooms" (defScope st_rooms) s.heap.objs.size f cdv)).units + 65 < cLine := (by have := hr.un; omega)
  refine ⟨_, (ss_cons (ss 3 nd (d_call (h_rest_at.mono hl_rest_at) hgd hr rfl (a_cons (v 0) (a_cons (v 1) a_nil)))) (ss_one (s_ret (d_tup (a_cons (d_call (h_turn_between.mono hl_turn_between) hgd hr rfl (a_cons (v 3) (a_cons (d_call (h_top_at.mono hl_top_at) hgd hr rfl (a_cons (v 0) (a_cons (v 2) a_nil))) a_nil))) (a_cons (d_call (h_turn_between.mono hl_turn_between) hgd hr rfl (a_cons (v 3) (a_cons (d_call (h_top_at.mono hl_top_at) hgd hr rfl (a_cons (v 0) (a_cons (d_addA (v 2) d_int) a_nil))) a_nil))) a_nil)))))), fun b ds Φ h => ?_⟩
  obtain ⟨_, _, _, rfl, R, rfl, i, rfl, j, rfl, hR, h⟩ := h
  have h0 := hR.pos
  have m1 := md_lt (i := i) h0
  have m2 := md_lt (i := j) h0
  have m3 := md_lt (i := j + 1) h0
  simp [ρ0, S_at1, S_turn]
  exact ⟨h0, hR.d2 m1, hR.d1 m2, hR.s2 m1 (by decide), hR.s1 m2 (by decide), h0, hR.d2 m1, hR.d1 m3, hR.s2 m1 (by decide), hR.s1 m3 (by decide), h⟩
def S_turning_points : SpF := fun ds Φ => as1 ds fun d => asR d fun R => RG R ∧ Φ (.list ((pts R).map pD))
theorem ptsRaw_len (R : Ring) : (ptsRaw R).length = R.length * R.length := by
  unfold ptsRaw
  have : ∀ S : Ring, ((S.map fun a => R.map fun b => turnB a.2 b.1).flatten).length = S.length * R.length := fun S => by
    induction S with
    | nil => simp
    | cons a S ih => rw [List.map_cons, List.flatten_cons, List.length_append, ih, List.length_map, List.length_cons, Nat.add_mul, Nat.one_mul, Nat.add_comm]
  exact this R
theorem ptsRaw_ok {R : Ring} (hR : RG R) : ∀ p ∈ ptsRaw R, Dir p ∧ Sz 41 p := fun p hp => by
  obtain ⟨l, hl, hp⟩ := List.mem_flatten.mp hp
  obtain ⟨a, ha, rfl⟩ := List.mem_map.mp hl
  obtain ⟨c, hc, rfl⟩ := List.mem_map.mp hp
  have d1 := hR.good.dr a.2 (List.mem_map.mpr ⟨a, ha, rfl⟩)
  have d2 := hR.good.dt c.1 (List.mem_map.mpr ⟨c, hc, rfl⟩)
  exact ⟨turn_dir d1 d2, turn_sz d1 d2 (hR.sz a ha).2 (hR.sz c hc).1⟩
theorem sq60 {n : Nat} (h : n ≤ 10) : n * n ≤ 100 := Nat.mul_le_mul h h
theorem ptsD (R : Ring) : (R.map (fun a => R.map fun b => pD (turnB a.2 b.1))).flatten = (ptsRaw R).map pD := by
  unfold ptsRaw
  rw [List.map_flatten, List.map_map]
  congr 1
  apply List.map_congr_left
  intro a _
  show _ = (R.map fun b => turnB a.2 b.1).map pD
  rw [List.map_map]; rfl
theorem cl_turning_points {P : Program} {w : World} {K : PySem.W.Frag} {mg : Str → Option Value} {base : Heap} (T : Txt K mg) : Cl P w K mg base "turning_points" 4 (spP K S_turning_points) := by
  have h_turn_between := cl_turn_between (P := P) (w := w) (base := base) T
  have hl_turn_between : 3 ≤ 3 := by decide
  have h_in_order := cl_in_order (P := P) (w := w) (base := base) T
  have hl_in_order : 3 ≤ 3 := by decide
  refine cl_pure (k := 3) T.at_turning_points sc_turning_points (by decide) (fun ds Φ h => by obtain ⟨_, rfl, _⟩ := h; rfl) fun f cdv A outer s H hgd hr => ?_
  have nd := sc_turning_points.nd; have hu : (A.deeper (PyProof.Rows.envOfC "turning_points" (defScope st_turning_points) s.heap.objs.size f cdv)).units + 65 < cLine := (by have := hr.un; omega)
  refine ⟨_, (ss_cons (s_setLc2 1 [("other", 2), ("rest", 3), ("top", 4), ("its", 5)] [4, 5] rfl nd rfl rfl rfl (i_it (v 0)) (by rfl) (fun _ _ _ _ _ => (g_tup (n := 2) rfl (g_cons (gv 2 nd) (g_cons (gv 3 nd) g_nil)))) (fun _ _ _ _ _ => (i_it (v 0))) (fun _ _ _ _ _ => (g_tup (n := 2) rfl (g_cons (gv 4 nd) (g_cons (gv 5 nd) g_nil)))) (fun _ _ _ _ _ => (d_call (h_turn_between.mono hl_turn_between) hgd hr rfl (a_cons (v 3) (a_cons (v 4) a_nil))))) (ss_one (s_ret (d_call (h_in_order.mono hl_in_order) hgd hr rfl (a_cons (v 1) a_nil))))), fun b ds Φ h => ?_⟩
  obtain ⟨_, rfl, R, rfl, hR, h⟩ := h
  have hfew := hR.few
  have hsq := sq60 hfew
  have hl := ptsRaw_len R
  simp [ρ0, deown, wipeE]
  refine lc2_map cD (fun a => R.map fun b => pD (turnB a.2 b.1)) R.length R [] (by rw [sl_eq]; simp only [List.length_nil]; omega) (fun a _ => by rw [List.length_map]; exact Nat.le_refl _) (fun a ha acc X hz hX => ?_) ?_
  · simp [deown, wipeE]
    refine lc1_map cD (fun c => pD (turnB a.2 c.1)) R acc hz (fun c hc X hX => ?_) hX
    have d1 := hR.good.dr a.2 (List.mem_map.mpr ⟨a, ha, rfl⟩)
    have d2 := hR.good.dt c.1 (List.mem_map.mpr ⟨c, hc, rfl⟩)
    simp [S_turn]
    exact ⟨d1, d2, (hR.sz a ha).2.mono (by decide), (hR.sz c hc).1.mono (by decide), hX⟩
  · rw [List.nil_append, ptsD]
    simp [S_in_order]
    exact ⟨by omega, fun a c hp => (ptsRaw_ok hR (a, c) hp).2.mono (by decide), h⟩
def S_map_of : SpF := fun ds Φ => as2 ds fun d e => asR d fun R => asP e fun t => RG R ∧ Dir t ∧ Sz 400 t ∧ Φ (.tuple ((mI (mapOf R t)).map .int))
theorem map_rows (R : Ring) (t : P2) : (List.range R.length).map (fun k => PyData.int (room (tops R) (put (rt R k).2 t) : Nat)) = (mI (mapOf R t)).map .int := by
  unfold mI mapOf
  rw [List.map_map, List.map_map]
  apply List.ext_getElem?
  intro i
  rw [List.getElem?_map, List.getElem?_map]
  by_cases h : i < R.length
  · rw [List.getElem?_range h, rt_get h]; rfl
  · rw [List.getElem?_eq_none (by rw [List.length_range]; omega), List.getElem?_eq_none (by omega)]; rfl
theorem cl_map_of {P : Program} {w : World} {K : PySem.W.Frag} {mg : Str → Option Value} {base : Heap} (T : Txt K mg) : Cl P w K mg base "map_of" 7 (spP K S_map_of) := by
  have h_next_rest := cl_next_rest (P := P) (w := w) (base := base) T
  have hl_next_rest : 6 ≤ 6 := by decide
  refine cl_pure (k := 6) T.at_map_of sc_map_of (by decide) (fun ds Φ h => by obtain ⟨_, _, rfl, _⟩ := h; rfl) fun f cdv A outer s H hgd hr => ?_
  have nd := sc_map_of.nd; have hu : (A.deeper (PyProof.Rows.envOfC "map_of" (defScope st_map_of) s.heap.objs.size f cdv)).units + 65 < cLine := (by have := hr.un; omega)
  refine ⟨_, (ss_one (s_ret (d_ty call_tuple_of fd_tuple PyProof.Rows.boot_tuple rfl T.ml_tuple (a_cons (d_lc [("number", 2)] rfl nd (i_rg1 rfl T.ml_range (a_cons (d_fn call_len fd_len boot_len rfl T.ml_len (a_cons (v 0) a_nil)) a_nil)) (by rfl) (fun _ _ _ _ _ => (gv 2 nd)) (fun _ _ _ _ _ => ts_nil) (fun _ _ _ _ _ => (d_call (h_next_rest.mono hl_next_rest) hgd hr rfl (a_cons (v 0) (a_cons (v 2) (a_cons (v 1) a_nil)))))) a_nil)))), fun b ds Φ h => ?_⟩
  obtain ⟨_, _, rfl, R, rfl, t, rfl, hR, dt, ht, h⟩ := h
  have hfew := hR.few
  simp [ρ0, deown, wipeE, rg_map]
  refine ⟨by omega, ?_⟩
  refine lc_map (fun k : Nat => PyData.int (k : Int)) (fun k => .int (room (tops R) (put (rt R k).2 t) : Nat)) (List.range R.length) (by rw [sl_eq, List.length_range]; omega) (fun k hk X hX => ?_) ?_
  · have hk := List.mem_range.mp hk
    simp [S_next_rest, md_lt' hk]
    exact ⟨hR, dt, ht, hX⟩
  · rw [map_rows]; exact h
/-- each turning point, and a turn a little on -/
def unl (l : List P2) : List P2 := ((List.range l.length).map fun k => [tp l k, betw (tp l k) (tp l ((k + 1) % l.length))]).flatten
def S_unlike_turns : SpF := fun ds Φ => as1 ds fun d => asR d fun R => RG R ∧ Φ (.list ((unl (pts R)).map pD))
theorem pts_ok {R : Ring} (hR : RG R) : (∀ p ∈ pts R, Dir p ∧ Sz 41 p) ∧ (pts R).length ≤ 100 := by
  constructor
  · intro p hp; exact ptsRaw_ok hR p (mem_lawOrd.mp hp)
  · have := lawOrd_len (ptsRaw R)
    rw [ptsRaw_len] at this
    have := sq60 hR.few
    unfold pts; omega
theorem tp_get' {l : List P2} {k : Nat} (h : k < l.length) : l[k]? = some (tp l k) := by
  unfold tp; rw [List.getD_eq_getElem?_getD, List.getElem?_eq_getElem h]; rfl
theorem tp_of {l : List P2} {k : Nat} {x : P2} (h : l[k]? = some x) : tp l k = x := by
  unfold tp; rw [List.getD_eq_getElem?_getD, h]; rfl
theorem ixm {l : List P2} {Φ : D → Prop} {i : Int} (h : 0 < l.length) : oIxA (.list (l.map pD)) (.int (i.fmod (l.length : Int))) Φ ↔ Φ (pD (tp l (md i l.length))) := by
  rw [md_eq h, pIxL]
  have e : atI (l.map pD) ((md i l.length : Nat) : Int) = some (pD (tp l (md i l.length))) := at_nat (by rw [List.getElem?_map, tp_get' (md_lt h)]; rfl)
  rw [e]
  constructor
  · rintro ⟨f, h1, h2⟩; cases h1; exact h2
  · intro h; exact ⟨_, rfl, h⟩
theorem ixn {l : List P2} {Φ : D → Prop} {k : Nat} (h : k < l.length) : oIxA (.list (l.map pD)) (.int (k : Int)) Φ ↔ Φ (pD (tp l k)) := by
  rw [pIxL]
  have e : atI (l.map pD) (k : Int) = some (pD (tp l k)) := at_nat (by rw [List.getElem?_map, tp_get' h]; rfl)
  rw [e]
  constructor
  · rintro ⟨f, h1, h2⟩; cases h1; exact h2
  · intro h; exact ⟨_, rfl, h⟩
/-- the first m rows of unl -/
def unlN (l : List P2) (m : Nat) : List P2 := ((List.range m).map fun k => [tp l k, betw (tp l k) (tp l ((k + 1) % l.length))]).flatten
theorem unlN_succ (l : List P2) (m : Nat) : unlN l (m + 1) = unlN l m ++ [tp l m, betw (tp l m) (tp l ((m + 1) % l.length))] := by
  unfold unlN
  rw [List.range_succ, List.map_append, List.flatten_append]; simp
theorem unlN_len (l : List P2) (m : Nat) : (unlN l m).length = 2 * m := by
  induction m with
  | zero => rfl
  | succ m ih => rw [unlN_succ, List.length_append, ih]; simp; omega
theorem cl_unlike_turns {P : Program} {w : World} {K : PySem.W.Frag} {mg : Str → Option Value} {base : Heap} (T : Txt K mg) : Cl P w K mg base "unlike_turns" 5 (spP K S_unlike_turns) := by
  have h_turning_points := cl_turning_points (P := P) (w := w) (base := base) T
  have hl_turning_points : 4 ≤ 4 := by decide
  have h_between := cl_between (P := P) (w := w) (base := base) T
  have hl_between : 4 ≤ 4 := by decide
  refine cl_pure (k := 4) T.at_unlike_turns sc_unlike_turns (by decide) (fun ds Φ h => by obtain ⟨_, rfl, _⟩ := h; rfl) fun f cdv A outer s H hgd hr => ?_
  have nd := sc_unlike_turns.nd; have hu : (A.deeper (PyProof.Rows.envOfC "unlike_turns" (defScope st_unlike_turns) s.heap.objs.size f cdv)).units + 65 < cLine := (by have := hr.un; omega)
  refine ⟨_, (ss_cons (ss 1 nd (d_call (h_turning_points.mono hl_turning_points) hgd hr rfl (a_cons (v 0) a_nil))) (ss_cons (s_own 2 nd rfl (by first | exact Or.inl rfl | exact Or.inr rfl) (by first | exact .inr rfl | exact .inl rfl)) (ss_cons (s_for PassesOwn.never rfl (i_enum rfl T.ml_enumerate (v 1)) (g_tup (n := 2) rfl (g_cons (gv 3 nd) (g_cons (gv 4 nd) g_nil))) (ss_one (s_extend 2 rfl (by first | exact Or.inl rfl | exact Or.inr (Or.inl rfl)) (a_cons (d_lst (a_cons (v 4) (a_cons (d_call (h_between.mono hl_between) hgd hr rfl (a_cons (v 4) (a_cons (d_ix (v 1) (d_modA (d_addA (v 3) d_int) (d_fn call_len fd_len boot_len rfl T.ml_len (a_cons (v 1) a_nil))) (fun _ _ => rfl)) a_nil))) a_nil))) a_nil)))) (ss_one (s_frz 2 (s_ret (v 2))))))), fun b ds Φ h => ?_⟩
  obtain ⟨_, rfl, R, rfl, hR, h⟩ := h
  obtain ⟨hok, hlen⟩ := pts_ok hR
  have h0 := hR.good.np
  simp [ρ0, S_turning_points, enum_map]
  refine ⟨hR, fun p => ?_⟩
  refine for_l (fun p : P2 × Nat => PyData.tuple [.int (p.2 : Nat), pD p.1]) (fun r ρ b' => ∃ q t3 t4, (pts R).zipIdx = q ++ r ∧ ρ = [.dat (rD R), .dat (.list ((pts R).map pD)), .own p (.list ((unlN (pts R) q.length).map pD)), t3, t4]) (fun a r ρ b' hI X hX => ?_) (fun ρ b' hI => ?_) (pts R).zipIdx _ _ ⟨[], .no, .no, rfl, rfl⟩
  · obtain ⟨q, t3, t4, e, rfl⟩ := hI
    obtain ⟨a, i⟩ := a
    obtain ⟨rfl, ha, hlt⟩ := zip_at e
    have ea := tp_of ha
    have h0' : ¬ pts R = [] := fun z => by rw [z] at h0; exact absurd h0 (by decide)
    have hm := md_lt (i := (q.length : Int) + 1) h0
    have oa := hok a (List.mem_of_getElem? ha)
    have oc := hok _ (tp_mem' hm)
    have key := hX [.dat (rD R), .dat (.list ((pts R).map pD)), .own p (.list ((unlN (pts R) (q.length + 1)).map pD)), .dat (.int (q.length : Nat)), .dat (pD a)] b' ⟨q ++ [(a, q.length)], .dat (.int (q.length : Nat)), .dat (pD a), by rw [e]; simp, by simp⟩
    rw [unlN_succ, ea] at key
    simp [ixm h0, h0', S_between]
    refine ⟨oa.1, oc.1, oa.2.mono (by decide), oc.2.mono (by decide), ?_, ?_⟩
    · rw [unlN_len]; omega
    · rw [md_succ]; simpa using key
  · obtain ⟨q, t3, t4, e, rfl⟩ := hI
    rw [List.append_nil] at e
    have : q.length = (pts R).length := by rw [← e, List.length_zipIdx]
    rw [this]
    simp
    exact h
end K96

/-! KB6: promises: maps, falls, simplest turns. -/
namespace K96
open PySem L2 DL
theorem unl_ok {R : Ring} (hR : RG R) : ∀ t ∈ unl (pts R), Dir t ∧ Sz 130 t := fun t ht => by
  obtain ⟨hok, _⟩ := pts_ok hR
  obtain ⟨l, hl, ht⟩ := List.mem_flatten.mp ht
  obtain ⟨k, hk, rfl⟩ := List.mem_map.mp hl
  have hk := List.mem_range.mp hk
  have o1 := hok _ (tp_mem' hk)
  have o2 := hok _ (tp_mem' (Nat.mod_lt (k + 1) hR.good.np))
  simp only [List.mem_cons, List.not_mem_nil, or_false] at ht
  rcases ht with z | z
  · rw [z]; exact ⟨o1.1, o1.2.mono (by decide)⟩
  · rw [z]; exact ⟨betw_dir o1.1 o2.1, (betw_sz o1.1 o2.1 o1.2 o2.2).mono (by decide)⟩
/-- what the dict of maps holds: rows of turns, one for each turning point -/
structure MapsOk (R : Ring) (acc : List (List Int × D)) : Prop where
  of : ∀ e ∈ acc, ∃ t, Dir t ∧ Sz 130 t ∧ e = (mI (mapOf R t), pD t)
  all : ∀ t ∈ unl (pts R), ∃ e ∈ acc, e.1 = mI (mapOf R t)
  few : acc.length ≤ 7200
def S_maps : SpF := fun ds Φ => as1 ds fun d => asR d fun R => RG R ∧ ∀ acc, MapsOk R acc → Φ (dicD acc)
theorem unl_len (l : List P2) : (unl l).length = 2 * l.length := unlN_len l l.length
theorem cl_maps {P : Program} {w : World} {K : PySem.W.Frag} {mg : Str → Option Value} {base : Heap} (T : Txt K mg) : Cl P w K mg base "maps" 7 (spP K S_maps) := by
  have h_unlike_turns := cl_unlike_turns (P := P) (w := w) (base := base) T
  have hl_unlike_turns : 5 ≤ 6 := by decide
  have h_next_rest := cl_next_rest (P := P) (w := w) (base := base) T
  have hl_next_rest : 6 ≤ 6 := by decide
  refine cl_pure (k := 6) T.at_maps sc_maps (by decide) (fun ds Φ h => by obtain ⟨_, rfl, _⟩ := h; rfl) fun f cdv A outer s H hgd hr => ?_
  have nd := sc_maps.nd; have hu : (A.deeper (PyProof.Rows.envOfC "maps" (defScope st_maps) s.heap.objs.size f cdv)).units + 65 < cLine := (by have := hr.un; omega)
  refine ⟨_, (ss_cons (s_ownD 1 nd) (ss_cons (s_for PassesOwn.never rfl (i_it (d_call (h_unlike_turns.mono hl_unlike_turns) hgd hr rfl (a_cons (v 0) a_nil))) (gv 2 nd) (ss_cons (ss 3 nd (d_ty call_tuple_of fd_tuple PyProof.Rows.boot_tuple rfl T.ml_tuple (a_cons (d_lc [("number", 4)] rfl nd (i_rg1 rfl T.ml_range (a_cons (d_fn call_len fd_len boot_len rfl T.ml_len (a_cons (v 0) a_nil)) a_nil)) (by rfl) (fun _ _ _ _ _ => (gv 4 nd)) (fun _ _ _ _ _ => ts_nil) (fun _ _ _ _ _ => (d_call (h_next_rest.mono hl_next_rest) hgd hr rfl (a_cons (v 0) (a_cons (v 4) (a_cons (v 2) a_nil)))))) a_nil))) (ss_one (s_setd 1 hu rfl (by first | exact Or.inl rfl | exact Or.inr (Or.inl rfl)) (v 3) (v 2))))) (ss_one (s_frz 1 (s_ret (v 1)))))), fun b ds Φ h => ?_⟩
  obtain ⟨_, rfl, R, rfl, hR, h⟩ := h
  have hfew := hR.few
  have hlen := (pts_ok hR).2
  have hul := unl_len (pts R)
  have huo := unl_ok hR
  simp [ρ0, S_unlike_turns]
  refine fun p => ⟨hR, ?_⟩
  refine for_l pD (fun r ρ b' => ∃ q acc t2 t3, unl (pts R) = q ++ r ∧ (∀ e ∈ acc, ∃ t, Dir t ∧ Sz 130 t ∧ e = (mI (mapOf R t), pD t)) ∧ (∀ t ∈ q, ∃ e ∈ acc, e.1 = mI (mapOf R t)) ∧ acc.length ≤ q.length ∧ ρ = [.dat (rD R), .own p (dicD acc), t2, t3, .no]) (fun t r ρ b' hI X hX => ?_) (fun ρ b' hI => ?_) (unl (pts R)) _ _ ⟨[], [], .no, .no, rfl, fun e he => by (cases he), fun t ht => by (cases ht), Nat.le_refl _, rfl⟩
  · obtain ⟨q, acc, t2, t3, e, h1, h2, h3, rfl⟩ := hI
    have ot := huo t (by rw [e]; simp)
    have hq := congrArg List.length e
    simp only [List.length_append, List.length_cons] at hq
    simp [deown, wipeE, rg_map]
    refine ⟨by omega, ?_⟩
    refine lc_map (fun k : Nat => PyData.int (k : Int)) (fun k => .int (room (tops R) (put (rt R k).2 t) : Nat)) (List.range R.length) (by rw [sl_eq, List.length_range]; omega) (fun k hk X hX => ?_) ?_
    · have hk := List.mem_range.mp hk
      simp [S_next_rest, md_lt' hk]
      exact ⟨hR, ot.1, ot.2.mono (by decide), hX⟩
    · rw [map_rows]
      simp
      refine ⟨by omega, hX _ _ ⟨q ++ [t], setP acc (mI (mapOf R t)) (pD t), .dat (pD t), .dat (.tuple ((mI (mapOf R t)).map .int)), by rw [e]; simp, ?_, ?_, ?_, rfl⟩⟩
      · intro x hx
        unfold setP at hx
        split at hx
        · exact h1 x hx
        · rcases List.mem_append.mp hx with z | z
          · exact h1 x z
          · exact ⟨t, ot.1, ot.2, List.mem_singleton.mp z⟩
      · intro s hs
        unfold setP
        split
        · next hany =>
          rcases List.mem_append.mp hs with z | z
          · exact h2 s z
          · rw [List.mem_singleton.mp z]
            obtain ⟨x, hx, hd⟩ := List.any_eq_true.mp hany
            exact ⟨x, hx, of_decide_eq_true hd⟩
        · rcases List.mem_append.mp hs with z | z
          · obtain ⟨x, hx, hd⟩ := h2 s z
            exact ⟨x, List.mem_append_left _ hx, hd⟩
          · rw [List.mem_singleton.mp z]
            exact ⟨_, List.mem_append_right _ (List.mem_singleton.mpr rfl), rfl⟩
      · unfold setP
        rw [List.length_append]
        split
        · omega
        · simp only [List.length_append, List.length_singleton]; omega
  · obtain ⟨q, acc, t2, t3, e, h1, h2, h3, rfl⟩ := hI
    rw [List.append_nil] at e
    simp
    exact h acc ⟨h1, fun t ht => h2 t (by rw [← e]; exact ht), by rw [← e] at h3; omega⟩
def S_keeping_turns : SpF := fun ds Φ => as2 ds fun d e => asR d fun R => asI e fun i => ∃ k : Nat, i = k ∧ k < R.length ∧ RG R ∧ ∀ l : List P2, l.length ≤ 7200 → (∀ t ∈ l, Dir t ∧ Sz 130 t ∧ md ((room (tops R) (put (rt R k).2 t) : Nat) - (k : Int)) (kinds R) = 0) → Φ (.list (l.map pD))
theorem mI_get {R : Ring} {t : P2} {k : Nat} (hk : k < R.length) : atI ((mI (mapOf R t)).map PyData.int) (k : Int) = some (.int (room (tops R) (put (rt R k).2 t) : Nat)) := by
  refine at_nat ?_
  unfold mI mapOf
  rw [List.map_map, List.map_map, List.getElem?_map, rt_get hk]; rfl
theorem cl_keeping_turns {P : Program} {w : World} {K : PySem.W.Frag} {mg : Str → Option Value} {base : Heap} (T : Txt K mg) : Cl P w K mg base "keeping_turns" 9 (spP K S_keeping_turns) := by
  have h_are_alike := cl_are_alike (P := P) (w := w) (base := base) T
  have hl_are_alike : 8 ≤ 8 := by decide
  have h_maps := cl_maps (P := P) (w := w) (base := base) T
  have hl_maps : 7 ≤ 8 := by decide
  refine cl_pure (k := 8) T.at_keeping_turns sc_keeping_turns (by decide) (fun ds Φ h => by obtain ⟨_, _, rfl, _⟩ := h; rfl) fun f cdv A outer s H hgd hr => ?_
  have nd := sc_keeping_turns.nd; have hu : (A.deeper (PyProof.Rows.envOfC "keeping_turns" (defScope st_keeping_turns) s.heap.objs.size f cdv)).units + 65 < cLine := (by have := hr.un; omega)
  refine ⟨_, (ss_one (s_ret (d_lc [("row", 2), ("turn", 3)] rfl nd (i_items (d_call (h_maps.mono hl_maps) hgd hr rfl (a_cons (v 0) a_nil))) (by rfl) (fun _ _ _ _ _ => (g_tup (n := 2) rfl (g_cons (gv 2 nd) (g_cons (gv 3 nd) g_nil)))) (fun _ _ _ _ _ => (ts_one (t_val (d_call (h_are_alike.mono hl_are_alike) hgd hr rfl (a_cons (v 0) (a_cons (d_ix (v 2) (v 1) (fun _ _ => rfl)) (a_cons (v 1) a_nil))))))) (fun _ _ _ _ _ => (v 3))))), fun b ds Φ h => ?_⟩
  obtain ⟨_, _, rfl, R, rfl, i, rfl, k, rfl, hk, hR, h⟩ := h
  simp [ρ0, S_maps]
  refine ⟨hR, fun acc hacc => ?_⟩
  simp [deown, wipeE, itemsD]
  refine lc_l (fun q : List Int × D => PyData.tuple [.tuple (q.1.map .int), q.2]) (fun r a b' => b = b' ∧ ∃ l : List P2, a = l.map pD ∧ (∀ e ∈ r, e ∈ acc) ∧ l.length + r.length ≤ 7200 ∧ ∀ t ∈ l, Dir t ∧ Sz 130 t ∧ md ((room (tops R) (put (rt R k).2 t) : Nat) - (k : Int)) (kinds R) = 0) (fun x r a b' hI X hX => ?_) (fun a b' hI => ?_) acc [] b ⟨rfl, [], rfl, fun _ h => h, by have := hacc.few; simpa using this, fun t ht => by (cases ht)⟩
  · obtain ⟨rfl, l, rfl, hr, hlen, hl⟩ := hI
    obtain ⟨t, dt, st, rfl⟩ := hacc.of x (hr x (List.mem_cons_self ..))
    simp only [List.length_cons] at hlen
    simp [mI_get hk, S_are_alike]
    refine ⟨hR, ?_⟩
    by_cases z : md ((room (tops R) (put (rt R k).2 t) : Nat) - (k : Int)) (kinds R) = 0
    · rw [if_pos z]
      refine ⟨by omega, hX _ _ ⟨rfl, l ++ [t], by simp, fun e he => hr e (List.mem_cons_of_mem _ he), by simp; omega, fun s hs => ?_⟩⟩
      rcases List.mem_append.mp hs with w | w
      · exact hl s w
      · rw [List.mem_singleton.mp w]; exact ⟨dt, st, z⟩
    · rw [if_neg z]
      exact hX _ _ ⟨rfl, l, rfl, fun e he => hr e (List.mem_cons_of_mem _ he), by omega, hl⟩
  · obtain ⟨rfl, l, rfl, _, hlen, hl⟩ := hI
    exact h l (by simpa using hlen) hl
def S_falls : SpF := fun ds Φ => as2 ds fun d e => asR d fun R => asP e fun x => RG R ∧ Dir x ∧ Sz 800 x ∧
  Φ (.tuple ((if (rt R (room (tops R) x)).1 = x then srt2 (room (tops R) x : Nat) (md ((room (tops R) x : Nat) - (1 : Int)) R.length : Nat) else [((room (tops R) x : Nat) : Int)]).map .int))
theorem cl_falls {P : Program} {w : World} {K : PySem.W.Frag} {mg : Str → Option Value} {base : Heap} (T : Txt K mg) : Cl P w K mg base "falls" 6 (spP K S_falls) := by
  have h_squeezed := cl_squeezed (P := P) (w := w) (base := base) T
  have hl_squeezed : 5 ≤ 5 := by decide
  have h_top_at := cl_top_at (P := P) (w := w) (base := base) T
  have hl_top_at : 1 ≤ 5 := by decide
  refine cl_pure (k := 5) T.at_falls sc_falls (by decide) (fun ds Φ h => by obtain ⟨_, _, rfl, _⟩ := h; rfl) fun f cdv A outer s H hgd hr => ?_
  have nd := sc_falls.nd; have hu : (A.deeper (PyProof.Rows.envOfC "falls" (defScope st_falls) s.heap.objs.size f cdv)).units + 65 < cLine := (by have := hr.un; omega)
  refine ⟨_, (ss_cons (ss 2 nd (d_call (h_squeezed.mono hl_squeezed) hgd hr rfl (a_cons (v 0) (a_cons (v 1) a_nil)))) (ss_cons (s_if (te_ne hu (d_call (h_top_at.mono hl_top_at) hgd hr rfl (a_cons (v 0) (a_cons (v 2) a_nil))) (v 1)) (ss_one (s_ret (d_tup (a_cons (v 2) a_nil)))) ss_nil) (ss_one (s_ret (d_ty call_tuple_of fd_tuple PyProof.Rows.boot_tuple rfl T.ml_tuple (a_cons (d_sort2 rfl rfl T.ml_sorted (v 2) d_bool (d_modA (d_subA (v 2) d_int) (d_fn call_len fd_len boot_len rfl T.ml_len (a_cons (v 0) a_nil))) d_bool) a_nil)))))), fun b ds Φ h => ?_⟩
  obtain ⟨_, _, rfl, R, rfl, x, rfl, hR, dx, hx, h⟩ := h
  have h0 := hR.pos
  have h0' : ¬ R = [] := fun e => by rw [e] at h0; exact absurd h0 (by decide)
  have hrm : room (tops R) x < R.length := by have := room_lt x (l := tops R) (by rw [tops_len]; exact h0); rwa [tops_len] at this
  simp [ρ0, S_squeezed, S_at1, md_eq h0, h0', md_lt' hrm]
  refine ⟨hR, dx, hx, h0, ?_⟩
  by_cases z : (rt R (room (tops R) x)).1 = x
  · rw [if_pos z] at h ⊢
    exact h
  · rw [if_neg z] at h ⊢
    exact h
def S_a_little_on : SpF := fun ds Φ => as2 ds fun d e => asR d fun R => asP e fun t => RG R ∧ Dir t ∧ Sz 400 t ∧ (t ∉ pts R → Φ (pD t)) ∧ ∀ k, k < (pts R).length → tp (pts R) k = t → Φ (pD (betw t (tp (pts R) ((k + 1) % (pts R).length))))
theorem cl_a_little_on {P : Program} {w : World} {K : PySem.W.Frag} {mg : Str → Option Value} {base : Heap} (T : Txt K mg) : Cl P w K mg base "a_little_on" 5 (spP K S_a_little_on) := by
  have h_turning_points := cl_turning_points (P := P) (w := w) (base := base) T
  have hl_turning_points : 4 ≤ 4 := by decide
  have h_between := cl_between (P := P) (w := w) (base := base) T
  have hl_between : 4 ≤ 4 := by decide
  refine cl_pure (k := 4) T.at_a_little_on sc_a_little_on (by decide) (fun ds Φ h => by obtain ⟨_, _, rfl, _⟩ := h; rfl) fun f cdv A outer s H hgd hr => ?_
  have nd := sc_a_little_on.nd; have hu : (A.deeper (PyProof.Rows.envOfC "a_little_on" (defScope st_a_little_on) s.heap.objs.size f cdv)).units + 65 < cLine := (by have := hr.un; omega)
  refine ⟨_, (ss_cons (ss 2 nd (d_call (h_turning_points.mono hl_turning_points) hgd hr rfl (a_cons (v 0) a_nil))) (ss_cons (s_if (t_notIn hu (v 1) (v 2)) (ss_one (s_ret (v 1))) ss_nil) (ss_one (s_ret (d_call (h_between.mono hl_between) hgd hr rfl (a_cons (v 1) (a_cons (d_ix (v 2) (d_modA (d_addA (d_index hu (v 2) (v 1)) d_int) (d_fn call_len fd_len boot_len rfl T.ml_len (a_cons (v 2) a_nil))) (fun _ _ => rfl)) a_nil))))))), fun b ds Φ h => ?_⟩
  obtain ⟨_, _, rfl, R, rfl, t, rfl, hR, dt, ht, h1, h2⟩ := h
  have h0 := hR.good.np
  have h0' : ¬ pts R = [] := fun z => by rw [z] at h0; exact absurd h0 (by decide)
  obtain ⟨hok, hlen⟩ := pts_ok hR
  simp [ρ0, S_turning_points]
  refine ⟨hR, ?_⟩
  by_cases z : t ∈ pts R
  · rw [if_pos z]
    obtain ⟨k, hk, e⟩ := mem_tp' z
    have hm := md_lt (i := (k : Int) + 1) h0
    have oc := hok _ (tp_mem' hm)
    refine ⟨(pts R).map pD, k, pD t, rfl, sh_lp, sh_pp, by rw [List.getElem?_map, tp_get' hk, e]; rfl, ?_, fun m z' hmk hz' => ?_, ?_⟩
    · have := ev_pp (i := t.1) (j := t.2) (k := t.1) (l := t.2); simpa using this
    · rw [List.getElem?_map, tp_get' (by omega)] at hz'
      cases hz'
      have hne : tp (pts R) m ≠ t := fun w => by
        have := tp_lt hR.good.sp hmk hk
        rw [w, e] at this
        exact lt_irr t this
      exact (ev_pp (i := (tp (pts R) m).1) (j := (tp (pts R) m).2) (k := t.1) (l := t.2)).trans (decide_eq_false hne)
    · simp [ixm h0, h0', S_between]
      refine ⟨dt, oc.1, ht, oc.2.mono (by decide), ?_⟩
      rw [md_succ]
      exact h2 k hk e
  · rw [if_neg z]
    exact h1 z
def S_is_number : SpF := fun ds Φ => as1 ds fun d => asI d fun i => Φ (.bool true)
theorem cl_is_number {P : Program} {w : World} {K : PySem.W.Frag} {mg : Str → Option Value} {base : Heap} (T : Txt K mg) : Cl P w K mg base "is_number" 1 (spP K S_is_number) := by
  refine cl_pure (k := 0) T.at_is_number sc_is_number (by decide) (fun ds Φ h => by obtain ⟨_, rfl, _⟩ := h; rfl) fun f cdv A outer s H hgd hr => ?_
  have nd := sc_is_number.nd; have hu : (A.deeper (PyProof.Rows.envOfC "is_number" (defScope st_is_number) s.heap.objs.size f cdv)).units + 65 < cLine := (by have := hr.un; omega)
  refine ⟨_, (ss_one (s_ret (d_and (d_isT (.inl rfl) PyProof.Rows.boot_int rfl T.ml_isinstance rfl T.ml_int (v 0)) (d_one (d_not (d_isT (.inr (.inl rfl)) PyProof.Rows.boot_bool rfl T.ml_isinstance rfl T.ml_bool (v 0))))))), fun b ds Φ h => ?_⟩
  obtain ⟨_, rfl, i, rfl, h⟩ := h
  simp [ρ0, isDict, isT, tyN]
  exact h
def S_is_index : SpF := fun ds Φ => as1 ds fun d => asI d fun i => Φ (.bool (decide (0 ≤ i)))
theorem cl_is_index {P : Program} {w : World} {K : PySem.W.Frag} {mg : Str → Option Value} {base : Heap} (T : Txt K mg) : Cl P w K mg base "is_index" 2 (spP K S_is_index) := by
  have h_is_number := cl_is_number (P := P) (w := w) (base := base) T
  have hl_is_number : 1 ≤ 1 := by decide
  refine cl_pure (k := 1) T.at_is_index sc_is_index (by decide) (fun ds Φ h => by obtain ⟨_, rfl, _⟩ := h; rfl) fun f cdv A outer s H hgd hr => ?_
  have nd := sc_is_index.nd; have hu : (A.deeper (PyProof.Rows.envOfC "is_index" (defScope st_is_index) s.heap.objs.size f cdv)).units + 65 < cLine := (by have := hr.un; omega)
  refine ⟨_, (ss_one (s_ret (d_and (d_call (h_is_number.mono hl_is_number) hgd hr rfl (a_cons (v 0) a_nil)) (d_one (dc_ge (v 0) d_int))))), fun b ds Φ h => ?_⟩
  obtain ⟨_, rfl, i, rfl, h⟩ := h
  simp [ρ0, S_is_number]
  exact h
def S_check_kind : SpF := fun ds Φ => as2 ds fun d e => asR d fun R => asI e fun i => RG R ∧ 0 ≤ i ∧ i < (kinds R : Nat) ∧ Φ .none
theorem cl_check_kind {P : Program} {w : World} {K : PySem.W.Frag} {mg : Str → Option Value} {base : Heap} (T : Txt K mg) : Cl P w K mg base "check_kind" 8 (spP K S_check_kind) := by
  have h_unlike_many := cl_unlike_many (P := P) (w := w) (base := base) T
  have hl_unlike_many : 7 ≤ 7 := by decide
  have h_is_index := cl_is_index (P := P) (w := w) (base := base) T
  have hl_is_index : 2 ≤ 7 := by decide
  refine cl_pure (k := 7) T.at_check_kind sc_check_kind (by decide) (fun ds Φ h => by obtain ⟨_, _, rfl, _⟩ := h; rfl) fun f cdv A outer s H hgd hr => ?_
  have nd := sc_check_kind.nd; have hu : (A.deeper (PyProof.Rows.envOfC "check_kind" (defScope st_check_kind) s.heap.objs.size f cdv)).units + 65 < cLine := (by have := hr.un; omega)
  refine ⟨_, (ss_one (s_if (t_w (u_or (t_not (t_val (d_call (h_is_index.mono hl_is_index) hgd hr rfl (a_cons (v 1) a_nil)))) (u_or1 (tc_ge (v 1) (d_call (h_unlike_many.mono hl_unlike_many) hgd hr rfl (a_cons (v 0) a_nil)))))) (ss_one s_never) ss_nil)), fun b ds Φ h => ?_⟩
  obtain ⟨_, _, rfl, R, rfl, i, rfl, hR, h1, h2, h⟩ := h
  have : ¬ i < 0 := by omega
  have : ¬ (kinds R : Int) ≤ i := by omega
  simp [ρ0, S_is_index, S_unlike_many, h1, *]
def S_turn_to_rest : SpF := fun ds Φ => as3 ds fun d e f => asR d fun R => asI e fun i => asI f fun j => RG R ∧ 0 ≤ j ∧ j < (kinds R : Nat) ∧ Φ (pD (turnB (rt R (md i R.length)).2 (betw (rt R (md j R.length)).1 (rt R (md j R.length)).2)))
theorem cl_turn_to_rest {P : Program} {w : World} {K : PySem.W.Frag} {mg : Str → Option Value} {base : Heap} (T : Txt K mg) : Cl P w K mg base "turn_to_rest" 9 (spP K S_turn_to_rest) := by
  have h_check_kind := cl_check_kind (P := P) (w := w) (base := base) T
  have hl_check_kind : 8 ≤ 8 := by decide
  have h_turn_between := cl_turn_between (P := P) (w := w) (base := base) T
  have hl_turn_between : 3 ≤ 8 := by decide
  have h_between := cl_between (P := P) (w := w) (base := base) T
  have hl_between : 4 ≤ 8 := by decide
  have h_rest_at := cl_rest_at (P := P) (w := w) (base := base) T
  have hl_rest_at : 1 ≤ 8 := by decide
  have h_top_at := cl_top_at (P := P) (w := w) (base := base) T
  have hl_top_at : 1 ≤ 8 := by decide
  refine cl_pure (k := 8) T.at_turn_to_rest sc_turn_to_rest (by decide) (fun ds Φ h => by obtain ⟨_, _, _, rfl, _⟩ := h; rfl) fun f cdv A outer s H hgd hr => ?_
  have nd := sc_turn_to_rest.nd; have hu : (A.deeper (PyProof.Rows.envOfC "turn_to_rest" (defScope st_turn_to_rest) s.heap.objs.size f cdv)).units + 65 < cLine := (by have := hr.un; omega)
  refine ⟨_, (ss_cons (s_expr (d_call (h_check_kind.mono hl_check_kind) hgd hr rfl (a_cons (v 0) (a_cons (v 2) a_nil)))) (ss_one (s_ret (d_call (h_turn_between.mono hl_turn_between) hgd hr rfl (a_cons (d_call (h_rest_at.mono hl_rest_at) hgd hr rfl (a_cons (v 0) (a_cons (v 1) a_nil))) (a_cons (d_call (h_between.mono hl_between) hgd hr rfl (a_cons (d_call (h_top_at.mono hl_top_at) hgd hr rfl (a_cons (v 0) (a_cons (v 2) a_nil))) (a_cons (d_call (h_rest_at.mono hl_rest_at) hgd hr rfl (a_cons (v 0) (a_cons (v 2) a_nil))) a_nil))) a_nil)))))), fun b ds Φ h => ?_⟩
  obtain ⟨_, _, _, rfl, R, rfl, i, rfl, j, rfl, hR, h1, h2, h⟩ := h
  have h0 := hR.pos
  have m1 := md_lt (i := i) h0
  have m2 := md_lt (i := j) h0
  simp [ρ0, S_check_kind, S_at1, S_turn, S_between]
  exact ⟨hR, h1, h2, h0, hR.d1 m2, hR.d2 m2, hR.s1 m2 (by decide), hR.s2 m2 (by decide), hR.d2 m1, betw_dir (hR.d1 m2) (hR.d2 m2), hR.s2 m1 (by decide), (betw_sz (hR.d1 m2) (hR.d2 m2) (hR.s1 m2 (Nat.le_refl _)) (hR.s2 m2 (Nat.le_refl _))).mono (by decide), h⟩
end K96

/-! KB7: promises: simplest turns. -/
namespace K96
open PySem L2 DL
theorem fmod_nat (a c : Nat) : (a : Int).fmod (c : Int) = ((a % c : Nat) : Int) := by
  rw [Int.fmod_eq_emod_of_nonneg _ (by omega)]; rfl
def S_is_prime_to : SpF := fun ds Φ => as2 ds fun d e => asI d fun a => asI e fun c => Φ (.bool (decide (gcdI a c = 1)))
theorem cl_is_prime_to {P : Program} {w : World} {K : PySem.W.Frag} {mg : Str → Option Value} {base : Heap} (T : Txt K mg) : Cl P w K mg base "is_prime_to" 1 (spP K S_is_prime_to) := by
  refine cl_pure (k := 0) T.at_is_prime_to sc_is_prime_to (by decide) (fun ds Φ h => by obtain ⟨_, _, rfl, _⟩ := h; rfl) fun f cdv A outer s H hgd hr => ?_
  have nd := sc_is_prime_to.nd; have hu : (A.deeper (PyProof.Rows.envOfC "is_prime_to" (defScope st_is_prime_to) s.heap.objs.size f cdv)).units + 65 < cLine := (by have := hr.un; omega)
  refine ⟨_, (ss_cons (s_par 0 1 rfl nd (a_cons (d_fn call_abs fd_abs PyProof.Rows.boot_abs rfl T.ml_abs (a_cons (v 0) a_nil)) (a_cons (d_fn call_abs fd_abs PyProof.Rows.boot_abs rfl T.ml_abs (a_cons (v 1) a_nil)) a_nil))) (ss_cons (s_while PassesOwn.never (te_ne hu (v 1) d_int) (ss_one (s_par 0 1 rfl nd (a_cons (v 1) (a_cons (d_modA (v 0) (v 1)) a_nil))))) (ss_one (s_ret (de_eq hu (v 0) d_int))))), fun b ds Φ h => ?_⟩
  obtain ⟨_, _, rfl, a, rfl, c, rfl, h⟩ := h
  simp [ρ0]
  refine wh_ind (fun m ρ b => ∃ x y : Nat, m = y ∧ ρ = [.dat (.int x), .dat (.int y)] ∧ Nat.gcd x y = Nat.gcd a.natAbs c.natAbs) c.natAbs ⟨a.natAbs, c.natAbs, rfl, rfl, rfl⟩ fun m ρ b hI X hX => ?_
  obtain ⟨x, y, rfl, rfl, hg⟩ := hI
  simp
  by_cases hy : m = 0
  · rw [if_pos hy]
    rw [hy, Nat.gcd_zero_right] at hg
    unfold gcdI at h
    rw [← hg] at h
    exact h
  · rw [if_neg hy]
    refine ⟨hy, hX (x % m) _ _ (Nat.mod_lt _ (by omega)) ⟨m, x % m, rfl, by rw [fmod_nat], ?_⟩⟩
    rw [← hg, Nat.gcd_comm m, ← Nat.gcd_rec, Nat.gcd_comm]
def S_by_weight : SpF := fun ds Φ => as1 ds fun d => asI d fun m => 1 ≤ m ∧ m ≤ 1000 ∧ ∀ l : List P2, l.length ≤ 3000 → (∀ v ∈ l, Dir v ∧ wt v = m ∧ Sz 20 v) → Φ (.list (l.map pD))
theorem cl_by_weight {P : Program} {w : World} {K : PySem.W.Frag} {mg : Str → Option Value} {base : Heap} (T : Txt K mg) : Cl P w K mg base "by_weight" 2 (spP K S_by_weight) := by
  have h_is_prime_to := cl_is_prime_to (P := P) (w := w) (base := base) T
  have hl_is_prime_to : 1 ≤ 1 := by decide
  refine cl_pure (k := 1) T.at_by_weight sc_by_weight (by decide) (fun ds Φ h => by obtain ⟨_, rfl, _⟩ := h; rfl) fun f cdv A outer s H hgd hr => ?_
  have nd := sc_by_weight.nd; have hu : (A.deeper (PyProof.Rows.envOfC "by_weight" (defScope st_by_weight) s.heap.objs.size f cdv)).units + 65 < cLine := (by have := hr.un; omega)
  refine ⟨_, (ss_cons (s_own 1 nd rfl (by first | exact Or.inl rfl | exact Or.inr rfl) (by first | exact .inr rfl | exact .inl rfl)) (ss_cons (s_for PassesOwn.never rfl (i_rg3 rfl T.ml_range (a_cons (v 0) (a_cons (d_subA (d_neg (v 0)) d_int) (a_cons (d_neg d_int) a_nil)))) (gv 2 nd) (ss_cons (ss 3 nd (d_subA (v 0) (d_fn call_abs fd_abs PyProof.Rows.boot_abs rfl T.ml_abs (a_cons (v 2) a_nil)))) (ss_one (s_if (t_w (u_and (t_val (d_call (h_is_prime_to.mono hl_is_prime_to) hgd hr rfl (a_cons (v 2) (a_cons (v 3) a_nil)))) (u_and1 (t_w (u_or (tc_gt (v 3) d_int) (u_or1 (te_eq hu (v 2) d_int))))))) (ss_one (s_append 1 rfl (by first | exact Or.inl rfl | exact Or.inr (Or.inl rfl)) (a_cons (d_tup (a_cons (v 2) (a_cons (v 3) a_nil))) a_nil))) ss_nil)))) (ss_one (s_frz 1 (s_ret (v 1)))))), fun b ds Φ h => ?_⟩
  obtain ⟨_, rfl, m, rfl, h1, h2, h⟩ := h
  simp [ρ0]
  refine fun p => ⟨m, -m - 1, -1, ⟨rfl, rfl, rfl⟩, (m - (-m - 1)).toNat, RgC.neg (by omega) (by omega) (by omega) (by omega), ?_⟩
  refine for_l (fun k : Nat => PyData.int (m + (k : Int) * -1)) (fun r ρ b' => ∃ q l t2 t3, List.range (m - (-m - 1)).toNat = q ++ r ∧ (∀ v ∈ l, Dir v ∧ wt v = m ∧ Sz 20 v) ∧ l.length ≤ q.length ∧ ρ = [.dat (.int m), .own p (.list (l.map pD)), t2, t3]) (fun k r ρ b' hI X hX => ?_) (fun ρ b' hI => ?_) (List.range (m - (-m - 1)).toNat) _ _ ⟨[], [], .no, .no, rfl, fun v hv => (by cases hv), Nat.le_refl _, rfl⟩
  · obtain ⟨q, l, t2, t3, e, hl, hlen, rfl⟩ := hI
    obtain ⟨hk, _, hlt⟩ := range_at e
    have key := fun l' (hl' : ∀ v ∈ l', Dir v ∧ wt v = m ∧ Sz 20 v) (hn : l'.length ≤ q.length + 1) => hX [.dat (.int m), .own p (.list (l'.map pD)), .dat (.int (m + (k : Int) * -1)), .dat (.int (m - absI (m + (k : Int) * -1)))] b' ⟨q ++ [k], l', _, _, by rw [e]; simp, hl', by simpa using hn, rfl⟩
    simp [S_is_prime_to]
    simp only [Int.mul_neg, Int.mul_one] at key
    generalize ea : m + -(k : Int) = a at key ⊢
    have hq : q.length ≤ 2001 := by omega
    have habs : absI a ≤ m := by unfold absI; omega
    have go : (gcdI a (m - absI a) = 1 ∧ (0 < m - absI a ∨ a = 1)) → X [.dat (.int m), .own p (.list ((l ++ [(a, m - absI a)]).map pD)), .dat (.int a), .dat (.int (m - absI a))] b' := fun ⟨g1, g2⟩ => by
      have dv : Dir (a, m - absI a) := by
        constructor
        · have : (Int.gcd a (m - absI a) : Int) = 1 := g1
          exact_mod_cast this
        · rcases g2 with z | z
          · exact .inl z
          · by_cases w : m - absI a = 0
            · exact .inr ⟨w, by show 0 < a; omega⟩
            · left; show 0 < m - absI a; omega
      have wv : wt (a, m - absI a) = m := by unfold wt absI; omega
      have sv : Sz 20 (a, m - absI a) := ⟨Bd.of 1000 (by show a.natAbs ≤ 1000; unfold absI at habs; omega) (by decide), Bd.of 1000 (by show (m - absI a).natAbs ≤ 1000; unfold absI at habs ⊢; omega) (by decide)⟩
      have hmem : ∀ v ∈ l ++ [(a, m - absI a)], Dir v ∧ wt v = m ∧ Sz 20 v := fun v hv => by
        rcases List.mem_append.mp hv with z | z
        · exact hl v z
        · rw [List.mem_singleton.mp z]; exact ⟨dv, wv, sv⟩
      have := key (l ++ [(a, m - absI a)]) hmem (by simp; omega)
      simpa using this
    have no := key l hl (by omega)
    simp at go
    by_cases c1 : gcdI a (m - absI a) = 1
    · rw [if_pos c1]
      by_cases c2 : absI a < m
      · rw [if_pos c2]
        exact ⟨by omega, go c1 (.inl c2)⟩
      · rw [if_neg c2]
        by_cases c3 : a = 1
        · rw [if_pos c3]
          exact ⟨by omega, go c1 (.inr c3)⟩
        · rw [if_neg c3]; exact no
    · rw [if_neg c1]; exact no
  · obtain ⟨q, l, t2, t3, e, hl, hlen, rfl⟩ := hI
    rw [List.append_nil] at e
    have hq : q.length = (m - (-m - 1)).toNat := by rw [← e, List.length_range]
    simp
    exact h l (by omega) hl
def S_is_at_most : SpF := fun ds Φ => as2 ds fun d e => asP d fun p => asP e fun q => Sz 3000 p ∧ Sz 3000 q ∧ Φ (.bool (decide (le' p q)))
theorem cl_is_at_most {P : Program} {w : World} {K : PySem.W.Frag} {mg : Str → Option Value} {base : Heap} (T : Txt K mg) : Cl P w K mg base "is_at_most" 4 (spP K S_is_at_most) := by
  have h_is_less := cl_is_less (P := P) (w := w) (base := base) T
  have hl_is_less : 3 ≤ 3 := by decide
  refine cl_pure (k := 3) T.at_is_at_most sc_is_at_most (by decide) (fun ds Φ h => by obtain ⟨_, _, rfl, _⟩ := h; rfl) fun f cdv A outer s H hgd hr => ?_
  have nd := sc_is_at_most.nd; have hu : (A.deeper (PyProof.Rows.envOfC "is_at_most" (defScope st_is_at_most) s.heap.objs.size f cdv)).units + 65 < cLine := (by have := hr.un; omega)
  refine ⟨_, (ss_one (s_ret (d_or (de_eq hu (v 0) (v 1)) (d_one (d_call (h_is_less.mono hl_is_less) hgd hr rfl (a_cons (v 0) (a_cons (v 1) a_nil))))))), fun b ds Φ h => ?_⟩
  obtain ⟨_, _, rfl, p, rfl, q, rfl, hp, hq, h⟩ := h
  have e : decide (le' p q) = (decide (p = q) || decide (lt p q)) := by
    rw [Bool.eq_iff_iff, decide_eq_true_eq]; unfold le'; simp
  rw [e] at h
  simp [ρ0, S_before]
  by_cases z : p = q
  · rw [if_pos z]; simpa [z] using h
  · rw [if_neg z]
    exact ⟨hp, hq, by simpa [z] using h⟩
theorem SB.size' {s : Int} {p o low high : P2} (h : SB s p o low high) : wt low ≤ wt p ∧ wt high ≤ wt o := by
  have hd := h.d
  have hs := h.s1
  have ev : ∀ v : P2, v.1 = crs v high * low.1 + crs low v * high.1 ∧ v.2 = crs v high * low.2 + crs low v * high.2 := fun v => by
    have t1 : crs low high * v.1 = crs v high * low.1 + crs low v * high.1 := by unfold crs; grind
    have t2 : crs low high * v.2 = crs v high * low.2 + crs low v * high.2 := by unfold crs; grind
    rw [hd] at t1 t2
    exact ⟨by omega, by omega⟩
  have es : ∀ v : P2, s * v.1 = crs v high * (s * low.1) + crs low v * (s * high.1) := fun v => by
    have := (ev v).1
    conv => lhs; rw [this]
    grind
  have oo : crs o high ≥ 0 := h.h
  have p1 := Int.mul_nonneg (Int.le_of_lt h.ph) h.q1
  have p2 := Int.mul_nonneg h.l h.q3
  have p3 := Int.mul_nonneg (Int.le_of_lt h.ph) h.q2
  have p4 := Int.mul_nonneg h.l h.q4
  have o1 := Int.mul_nonneg oo h.q1
  have o2 := Int.mul_nonneg (Int.le_of_lt h.lo) h.q3
  have o3 := Int.mul_nonneg oo h.q2
  have o4 := Int.mul_nonneg (Int.le_of_lt h.lo) h.q4
  exact h.size (by rw [es p]; omega) (by rw [(ev p).2]; omega) (by rw [es o]; omega) (by rw [(ev o).2]; omega)
theorem wt_sz {k : Nat} {v : P2} (h : wt v < 2 ^ k) : Sz k v := by
  unfold wt absI at h
  have e : ((2 ^ k : Nat) : Int) = (2 : Int) ^ k := by exact_mod_cast rfl
  constructor
  · unfold Bd; omega
  · unfold Bd; omega
theorem sz_wt {k : Nat} {v : P2} (h : Sz k v) : wt v < 2 ^ (k + 1) := by
  have e : ((2 ^ k : Nat) : Int) = (2 : Int) ^ k := by exact_mod_cast rfl
  have h1 := h.1
  have h2 := h.2
  unfold Bd at h1 h2
  unfold wt absI
  rw [Int.pow_succ]
  omega
theorem oth_sz {k : Nat} {q : P2} (h : Sz k q) (hk : 1 ≤ k) : Sz k (oth q) := by
  unfold oth
  split
  · exact ⟨by unfold Bd; exact Nat.one_lt_two_pow (by omega), Bd.zero _⟩
  · exact h
theorem SB.szs {s : Int} {p q low high : P2} (h : SB s p (oth q) low high) (hp : Sz 300 p) (hq : Sz 300 q) : Sz 301 low ∧ Sz 301 high ∧ Sz 302 (addP low high) := by
  obtain ⟨a, c⟩ := h.size'
  have h1 := sz_wt hp
  have h2 := sz_wt (oth_sz hq (by decide))
  have l1 : Sz 301 low := wt_sz (by omega)
  have l2 : Sz 301 high := wt_sz (by omega)
  exact ⟨l1, l2, l1.1.add l2.1, l1.2.add l2.2⟩
def S_simplest_amid : SpF := fun ds Φ => as2 ds fun d e => asP d fun p => asP e fun q => Dir p ∧ Dir q ∧ Sz 300 p ∧ Sz 300 q ∧ ∀ v, Simp p q v → Sz 302 v → Φ (pD v)
theorem sz10 {k : Nat} (h : 1 ≤ k) : Sz k (1, 0) := ⟨by unfold Bd; exact Nat.one_lt_two_pow (by omega), Bd.zero _⟩
theorem cl_simplest_amid {P : Program} {w : World} {K : PySem.W.Frag} {mg : Str → Option Value} {base : Heap} (T : Txt K mg) : Cl P w K mg base "simplest_amid" 5 (spP K S_simplest_amid) := by
  have h_is_amid := cl_is_amid (P := P) (w := w) (base := base) T
  have hl_is_amid : 4 ≤ 4 := by decide
  have h_is_less := cl_is_less (P := P) (w := w) (base := base) T
  have hl_is_less : 3 ≤ 4 := by decide
  have h_is_at_most := cl_is_at_most (P := P) (w := w) (base := base) T
  have hl_is_at_most : 4 ≤ 4 := by decide
  refine cl_pure (k := 4) T.at_simplest_amid sc_simplest_amid (by decide) (fun ds Φ h => by obtain ⟨_, _, rfl, _⟩ := h; rfl) fun f cdv A outer s H hgd hr => ?_
  have nd := sc_simplest_amid.nd; have hu : (A.deeper (PyProof.Rows.envOfC "simplest_amid" (defScope st_simplest_amid) s.heap.objs.size f cdv)).units + 65 < cLine := (by have := hr.un; omega)
  refine ⟨_, (ss_cons (s_asg (d_tup (a_cons (d_tup (a_cons d_int (a_cons d_int a_nil))) (a_cons (d_tup (a_cons d_int (a_cons d_int a_nil))) a_nil))) (g_tup (n := 2) rfl (g_cons (gv 2 nd) (g_cons (gv 3 nd) g_nil)))) (ss_cons (s_if (t_val (d_call (h_is_amid.mono hl_is_amid) hgd hr rfl (a_cons (v 0) (a_cons (v 1) (a_cons (d_gTup rfl T.g_EAST) a_nil))))) (ss_one (s_ret (d_gTup rfl T.g_EAST))) ss_nil) (ss_cons (s_if (t_val (d_call (h_is_amid.mono hl_is_amid) hgd hr rfl (a_cons (v 0) (a_cons (v 1) (a_cons (d_tup (a_cons d_int (a_cons d_int a_nil))) a_nil))))) (ss_one (s_ret (d_tup (a_cons d_int (a_cons d_int a_nil))))) ss_nil) (ss_cons (s_if (t_not (t_val (d_call (h_is_less.mono hl_is_less) hgd hr rfl (a_cons (v 0) (a_cons (d_tup (a_cons d_int (a_cons d_int a_nil))) a_nil))))) (ss_one (s_asg (d_tup (a_cons (d_tup (a_cons d_int (a_cons d_int a_nil))) (a_cons (d_tup (a_cons (d_neg d_int) (a_cons d_int a_nil))) a_nil))) (g_tup (n := 2) rfl (g_cons (gv 2 nd) (g_cons (gv 3 nd) g_nil))))) ss_nil) (ss_cons (ss 4 nd (d_tup (a_cons (d_addA (d_ix (v 2) d_int (fun _ _ => rfl)) (d_ix (v 3) d_int (fun _ _ => rfl))) (a_cons (d_addA (d_ix (v 2) d_int (fun _ _ => rfl)) (d_ix (v 3) d_int (fun _ _ => rfl))) a_nil)))) (ss_cons (s_while PassesOwn.never (t_not (t_val (d_call (h_is_amid.mono hl_is_amid) hgd hr rfl (a_cons (v 0) (a_cons (v 1) (a_cons (v 4) a_nil)))))) (ss_cons (s_asg (d_if (t_val (d_call (h_is_at_most.mono hl_is_at_most) hgd hr rfl (a_cons (v 4) (a_cons (v 0) a_nil)))) (d_tup (a_cons (v 4) (a_cons (v 3) a_nil))) (d_tup (a_cons (v 2) (a_cons (v 4) a_nil)))) (g_tup (n := 2) rfl (g_cons (gv 2 nd) (g_cons (gv 3 nd) g_nil)))) (ss_one (ss 4 nd (d_tup (a_cons (d_addA (d_ix (v 2) d_int (fun _ _ => rfl)) (d_ix (v 3) d_int (fun _ _ => rfl))) (a_cons (d_addA (d_ix (v 2) d_int (fun _ _ => rfl)) (d_ix (v 3) d_int (fun _ _ => rfl))) a_nil))))))) (ss_one (s_ret (v 4))))))))), fun b ds Φ h => ?_⟩
  obtain ⟨_, _, rfl, p, rfl, q, rfl, dp, dq, hp, hq, h⟩ := h
  simp [ρ0, at0, at1, S_is_amid]
  refine ⟨dp, dq, one_dir, hp.mono (by decide), hq.mono (by decide), sz10 (by decide), ?_⟩
  by_cases a1 : amid p q (1, 0)
  · rw [if_pos a1]
    exact h (1, 0) (simp_of_one one_dir a1 (by decide)) (sz10 (by decide))
  rw [if_neg a1]
  refine ⟨dp, dq, north_dir, hp.mono (by decide), hq.mono (by decide), sz01 (by decide), ?_⟩
  by_cases a2 : amid p q (0, 1)
  · rw [if_pos a2]
    exact h (0, 1) (simp_of_one north_dir a2 (by decide)) (sz01 (by decide))
  rw [if_neg a2]
  obtain ⟨ha, _⟩ := arc_of dp dq a1 a2
  simp [S_before]
  refine ⟨hp.mono (by decide), sz01 (by decide), ?_⟩
  by_cases z : 0 < crs p (0, 1)
  · rw [if_pos z]
    have sb0 := sb_first dp dq a1 a2 z
    refine wh_ind (fun m ρ b => ∃ low high : P2, SB (1) p (oth q) low high ∧ (m : Int) = crs low p + crs (oth q) high ∧ ρ = [.dat (pD p), .dat (pD q), .dat (pD low), .dat (pD high), .dat (pD (addP low high))]) (crs (1, 0) p + crs (oth q) (0, 1)).toNat ⟨(1, 0), (0, 1), sb0, by have := sb_nn sb0; omega, rfl⟩ fun m ρ b hI X hX => ?_
    obtain ⟨low, high, sb, hm, rfl⟩ := hI
    obtain ⟨zl, zh, zs⟩ := sb.szs hp hq
    have step := sb_step dp dq ha sb
    simp [at0, at1, S_is_amid, S_is_at_most]
    refine ⟨dp, dq, sb.dir, hp.mono (by decide), hq.mono (by decide), zs.mono (by decide), ?_⟩
    by_cases w : amid p q (addP low high)
    · rw [if_pos w]
      exact h _ (sb_end dp dq ha sb w) zs
    · rw [if_neg w]
      have step := step w
      refine ⟨zs.mono (by decide), hp.mono (by decide), ?_⟩
      by_cases v : le' (addP low high) p
      · rw [if_pos v] at step ⊢
        have nn := sb_nn step.1
        exact hX (crs (addP low high) p + crs (oth q) high).toNat _ _ (by omega) ⟨addP low high, high, step.1, by omega, rfl⟩
      · rw [if_neg v] at step ⊢
        have nn := sb_nn step.1
        exact hX (crs low p + crs (oth q) (addP low high)).toNat _ _ (by omega) ⟨low, addP low high, step.1, by omega, rfl⟩
  · rw [if_neg z]
    have sb0 := sb_second dp dq a1 a2 z
    refine wh_ind (fun m ρ b => ∃ low high : P2, SB (-1) p (oth q) low high ∧ (m : Int) = crs low p + crs (oth q) high ∧ ρ = [.dat (pD p), .dat (pD q), .dat (pD low), .dat (pD high), .dat (pD (addP low high))]) (crs (0, 1) p + crs (oth q) (-1, 0)).toNat ⟨(0, 1), (-1, 0), sb0, by have := sb_nn sb0; omega, rfl⟩ fun m ρ b hI X hX => ?_
    obtain ⟨low, high, sb, hm, rfl⟩ := hI
    obtain ⟨zl, zh, zs⟩ := sb.szs hp hq
    have step := sb_step dp dq ha sb
    simp [at0, at1, S_is_amid, S_is_at_most]
    refine ⟨dp, dq, sb.dir, hp.mono (by decide), hq.mono (by decide), zs.mono (by decide), ?_⟩
    by_cases w : amid p q (addP low high)
    · rw [if_pos w]
      exact h _ (sb_end dp dq ha sb w) zs
    · rw [if_neg w]
      have step := step w
      refine ⟨zs.mono (by decide), hp.mono (by decide), ?_⟩
      by_cases v : le' (addP low high) p
      · rw [if_pos v] at step ⊢
        have nn := sb_nn step.1
        exact hX (crs (addP low high) p + crs (oth q) high).toNat _ _ (by omega) ⟨addP low high, high, step.1, by omega, rfl⟩
      · rw [if_neg v] at step ⊢
        have nn := sb_nn step.1
        exact hX (crs low p + crs (oth q) (addP low high)).toNat _ _ (by omega) ⟨low, addP low high, step.1, by omega, rfl⟩
def S_simplest_to : SpF := fun ds Φ => as3 ds fun d e f => asR d fun R => asI e fun i => asI f fun j => ∃ k : Nat, j = k ∧ k < R.length ∧ RG R ∧
  ∀ v, Simp (turnB (rt R (md i R.length)).2 (rt R k).1) (turnB (rt R (md i R.length)).2 (rt R ((k + 1) % R.length)).1) v → Sz 302 v → Φ (pD v)
/-- a turn amid a room leads to the room's rest -/
theorem room_of_amid {R : Ring} (hR : RG R) {i k : Nat} (hi : i < R.length) (hk : k < R.length) {v : P2} (dv : Dir v) (h : amid (turnB (rt R i).2 (rt R k).1) (turnB (rt R i).2 (rt R ((k + 1) % R.length)).1) v) : room (tops R) (put (rt R i).2 v) = k := by
  have hm := Nat.mod_lt (k + 1) hR.pos
  rw [amid_rest (hR.d2 hi) (hR.d1 hk) (hR.d1 hm) dv] at h
  have := inRoom_iff hR.good.srt hR.good.dt (put_dir (hR.d2 hi) dv) (k := k) (by rw [tops_len]; exact hk)
  refine (this.mp (.inr ?_)).symm
  rw [tops_len, tp_tops hk, tp_tops hm]
  exact h
theorem cl_simplest_to {P : Program} {w : World} {K : PySem.W.Frag} {mg : Str → Option Value} {base : Heap} (T : Txt K mg) : Cl P w K mg base "simplest_to" 7 (spP K S_simplest_to) := by
  have h_is_index := cl_is_index (P := P) (w := w) (base := base) T
  have hl_is_index : 2 ≤ 6 := by decide
  have h_rooms := cl_rooms (P := P) (w := w) (base := base) T
  have hl_rooms : 4 ≤ 6 := by decide
  have h_simplest_amid := cl_simplest_amid (P := P) (w := w) (base := base) T
  have hl_simplest_amid : 5 ≤ 6 := by decide
  have h_next_rest := cl_next_rest (P := P) (w := w) (base := base) T
  have hl_next_rest : 6 ≤ 6 := by decide
  refine cl_pure (k := 6) T.at_simplest_to sc_simplest_to (by decide) (fun ds Φ h => by obtain ⟨_, _, _, rfl, _⟩ := h; rfl) fun f cdv A outer s H hgd hr => ?_
  have nd := sc_simplest_to.nd; have hu : (A.deeper (PyProof.Rows.envOfC "simplest_to" (defScope st_simplest_to) s.heap.objs.size f cdv)).units + 65 < cLine := (by have := hr.un; omega)
  refine ⟨_, (ss_cons (s_if (t_w (u_or (t_not (t_val (d_call (h_is_index.mono hl_is_index) hgd hr rfl (a_cons (v 2) a_nil)))) (u_or1 (tc_ge (v 2) (d_fn call_len fd_len boot_len rfl T.ml_len (a_cons (v 0) a_nil)))))) (ss_one s_never) ss_nil) (ss_cons (s_asg (d_call (h_rooms.mono hl_rooms) hgd hr rfl (a_cons (v 0) (a_cons (v 1) (a_cons (v 2) a_nil)))) (g_tup (n := 2) rfl (g_cons (gv 3 nd) (g_cons (gv 4 nd) g_nil)))) (ss_cons (ss 5 nd (d_call (h_simplest_amid.mono hl_simplest_amid) hgd hr rfl (a_cons (v 3) (a_cons (v 4) a_nil)))) (ss_cons (s_if (te_ne hu (d_call (h_next_rest.mono hl_next_rest) hgd hr rfl (a_cons (v 0) (a_cons (v 1) (a_cons (v 5) a_nil)))) (v 2)) (ss_one s_never) ss_nil) (ss_one (s_ret (v 5))))))), fun b ds Φ h => ?_⟩
  obtain ⟨_, _, _, rfl, R, rfl, i, rfl, j, rfl, k, rfl, hk, hR, h⟩ := h
  have h0 := hR.pos
  have m1 := md_lt (i := i) h0
  have m3 := md_lt (i := (k : Int) + 1) h0
  have : ¬ R.length ≤ k := by omega
  simp [ρ0, S_is_index, S_rooms, S_simplest_amid, S_next_rest, this]
  rw [md_lt' hk, md_succ] at *
  have t1 := turn_sz (hR.d2 m1) (hR.d1 hk) (hR.s2 m1 (Nat.le_refl _)) (hR.s1 hk (Nat.le_refl _))
  have t2 := turn_sz (hR.d2 m1) (hR.d1 m3) (hR.s2 m1 (Nat.le_refl _)) (hR.s1 m3 (Nat.le_refl _))
  refine ⟨hR, turn_dir (hR.d2 m1) (hR.d1 hk), turn_dir (hR.d2 m1) (hR.d1 m3), t1.mono (by decide), t2.mono (by decide), fun a c hv sv => ⟨hR, hv.1, sv.mono (by decide), ?_, h (a, c) hv sv⟩⟩
  exact congrArg Nat.cast (room_of_amid hR m1 hk hv.1 hv.2.1)
end K96

/-! KL2: more readings; chains, parts. -/
namespace K96
open PySem L2 DL
@[simp] theorem cut_last {α : Type} {xs : List α} : cutD xs none (some (-1)) = xs.dropLast := by
  unfold cutD
  have e : HT.sIx xs.length xs.length (some (-1)) = xs.length - 1 := by
    simp only [HT.sIx]
    rw [if_pos (by decide)]; omega
  rw [HT.sIx_none, e, List.drop_zero, Nat.sub_zero, List.dropLast_eq_take]
@[simp] theorem asLP_rev {l : List P2} {X : List P2 → Prop} : asLP (.list (l.map pD).reverse) X ↔ X l.reverse := by
  rw [← List.map_reverse]; exact asLP_b
@[simp] theorem tP_len {l : List P2} {Φ : D → Prop} : oLen [tP l] Φ ↔ Φ (.int l.length) := by unfold tP; simp
@[simp] theorem tP_it {l : List P2} {X : List D → Prop} : itD (tP l) X ↔ X (l.map pD) := Iff.rfl
@[simp] theorem sh_tP {l : List P2} : SeqAt.shaped (tP l) = true := sh_tp
@[simp] theorem ev_tP {l m : List P2} : PyData.eqv (tP l) (tP m) = decide (l = m) := ev_tp
@[simp] theorem tP_list {l : List P2} {Φ : D → Prop} : oList [tP l] Φ ↔ Φ (.list (l.map pD)) := Iff.rfl
/-! ### popS, chainR -/
theorem popS_sub : ∀ (st : List P2) (p : P2), ∃ t, st = t ++ popS st p
  | [], p => ⟨[], rfl⟩
  | [b], p => ⟨[], rfl⟩
  | b :: a :: rest, p => by
    unfold popS
    split
    · obtain ⟨t, e⟩ := popS_sub (a :: rest) p
      exact ⟨b :: t, by rw [List.cons_append, ← e]⟩
    · exact ⟨[], rfl⟩
theorem chainR_len (l : List P2) : (chainR l).length ≤ l.length := by
  refine snoc_ind (Q := fun l => (chainR l).length ≤ l.length) (Nat.le_refl _) (fun l p ih => ?_) l
  rw [chainR_snoc]
  obtain ⟨t, e⟩ := popS_sub (chainR l) p
  have := congrArg List.length e
  simp only [List.length_append, List.length_cons, List.length_nil] at this ⊢
  omega
theorem mem_chainR (l : List P2) : ∀ x ∈ chainR l, x ∈ l := by
  refine snoc_ind (Q := fun l => ∀ x ∈ chainR l, x ∈ l) (fun x hx => hx) (fun l p ih x hx => ?_) l
  rw [chainR_snoc] at hx
  obtain ⟨t, e⟩ := popS_sub (chainR l) p
  rcases List.mem_cons.mp hx with z | z
  · rw [z]; simp
  · have : x ∈ chainR l := by rw [e]; simp [z]
    simp [ih x this]
theorem at_last2 {α : Type} {l : List α} {x y : α} : atI (l ++ [x, y]) (-2) = some x := by
  unfold atI ixN
  rw [if_neg (by decide), if_pos (by simp only [List.length_append, List.length_cons, List.length_nil]; omega)]
  have : (-2 + ((l ++ [x, y]).length : Int)).toNat = l.length := by simp only [List.length_append, List.length_cons, List.length_nil]; omega
  rw [Option.bind_some, this]
  simp
theorem at_last1 {α : Type} {l : List α} {x y : α} : atI (l ++ [x, y]) (-1) = some y := by
  have := at_last (l := l ++ [x]) (x := y)
  simpa using this
/-- a part: convex corners from the least one on -/
structure PartOk (P : List P2) : Prop where
  cvx : Cvx P
  three : 3 ≤ P.length
  ten : P.length ≤ 10
  least : ∀ i, 0 < i → i < P.length → lexL (tp P 0) (tp P i)
  far : ∀ p ∈ P, p.1.natAbs ≤ 99 ∧ p.2.natAbs ≤ 99
theorem PartOk.inj {P : List P2} (h : PartOk P) : Inj P := h.cvx.inj h.three
theorem PartOk.sz {P : List P2} (h : PartOk P) {n : Nat} (hn : 7 ≤ n) : ∀ p ∈ P, Sz n p := fun p hp =>
  ⟨(Bd.of (k := 7) 99 (h.far p hp).1 (by decide)).mono hn, (Bd.of (k := 7) 99 (h.far p hp).2 (by decide)).mono hn⟩
theorem lexLe_strict {l : List P2} (hn : l.Nodup) (h : l.Pairwise fun x y => lexLe x y = true) : l.Pairwise lexL := by
  rw [List.nodup_iff_pairwise_ne] at hn
  refine (hn.and h).imp fun {a c} ⟨h1, h2⟩ => ?_
  have h2 := of_decide_eq_true h2
  have : ¬ (a.1 = c.1 ∧ a.2 = c.2) := fun z => h1 (Prod.ext z.1 z.2)
  unfold lexL; omega
theorem nodup_dedup (l : List P2) : (dedup l).Nodup := by
  refine snoc_ind (Q := fun l => (dedup l).Nodup) List.nodup_nil (fun l x ih => ?_) l
  rw [dedup_snoc]
  split
  · exact ih
  · next hx =>
    rw [List.nodup_append]
    refine ⟨ih, by simp, fun a ha c hc => ?_⟩
    rw [List.mem_singleton.mp hc]
    intro z; rw [z] at ha; exact hx ha
/-- the rows of a hull -/
def rowsP (l : List P2) : List P2 := (dedup l).mergeSort lexLe
theorem rowsP_ok (l : List P2) : (rowsP l).Pairwise lexL ∧ (∀ x, x ∈ rowsP l ↔ x ∈ l) ∧ (rowsP l).length ≤ l.length := by
  refine ⟨lexLe_strict ?_ ?_, fun x => ?_, ?_⟩
  · unfold rowsP; rw [(List.mergeSort_perm _ _).nodup_iff]; exact nodup_dedup l
  · unfold rowsP; exact List.pairwise_mergeSort (le := lexLe) (fun a b c => lexLe_trans a b c) (fun a b => lexLe_total a b) _
  · unfold rowsP; rw [List.mem_mergeSort, mem_dedup]
  · unfold rowsP; rw [List.length_mergeSort]; exact dedup_len l
end K96

/-! KB8: promises: hulls. -/
namespace K96
open PySem L2 DL
def S_turn_of : SpF := fun ds Φ => as3 ds fun d e f => asP d fun p => asP e fun q => asP f fun r => Sz 1000 p ∧ Sz 1000 q ∧ Sz 1000 r ∧ Φ (.int (turn3 p q r))
theorem cl_turn_of {P : Program} {w : World} {K : PySem.W.Frag} {mg : Str → Option Value} {base : Heap} (T : Txt K mg) : Cl P w K mg base "turn_of" 1 (spP K S_turn_of) := by
  refine cl_pure (k := 0) T.at_turn_of sc_turn_of (by decide) (fun ds Φ h => by obtain ⟨_, _, _, rfl, _⟩ := h; rfl) fun f cdv A outer s H hgd hr => ?_
  have nd := sc_turn_of.nd; have hu : (A.deeper (PyProof.Rows.envOfC "turn_of" (defScope st_turn_of) s.heap.objs.size f cdv)).units + 65 < cLine := (by have := hr.un; omega)
  refine ⟨_, (ss_one (s_ret (d_subA (d_mulA (d_subA (d_ix (v 1) d_int (fun _ _ => rfl)) (d_ix (v 0) d_int (fun _ _ => rfl))) (d_subA (d_ix (v 2) d_int (fun _ _ => rfl)) (d_ix (v 1) d_int (fun _ _ => rfl)))) (d_mulA (d_subA (d_ix (v 1) d_int (fun _ _ => rfl)) (d_ix (v 0) d_int (fun _ _ => rfl))) (d_subA (d_ix (v 2) d_int (fun _ _ => rfl)) (d_ix (v 1) d_int (fun _ _ => rfl))))))), fun b ds Φ h => ?_⟩
  obtain ⟨_, _, _, rfl, p, rfl, q, rfl, r, rfl, hp, hq, hr', h⟩ := h
  simp [ρ0, at0, at1]
  exact ⟨(hq.1.sub hp.1).cm (hr'.2.sub hq.2), (hq.2.sub hp.2).cm (hr'.1.sub hq.1), h⟩
def S_chain : SpF := fun ds Φ => as1 ds fun d => asLP d fun l => l.length ≤ 100000 ∧ (∀ p ∈ l, Sz 100 p) ∧ Φ (.list ((chainR l).reverse.map pD))
theorem popS_cons (c a : P2) (rest : List P2) (p : P2) : popS (c :: a :: rest) p = if turn3 a c p ≤ 0 then popS (a :: rest) p else c :: a :: rest := rfl
theorem cl_chain {P : Program} {w : World} {K : PySem.W.Frag} {mg : Str → Option Value} {base : Heap} (T : Txt K mg) : Cl P w K mg base "chain" 2 (spP K S_chain) := by
  have h_turn_of := cl_turn_of (P := P) (w := w) (base := base) T
  have hl_turn_of : 1 ≤ 1 := by decide
  refine cl_pure (k := 1) T.at_chain sc_chain (by decide) (fun ds Φ h => by obtain ⟨_, rfl, _⟩ := h; rfl) fun f cdv A outer s H hgd hr => ?_
  have nd := sc_chain.nd; have hu : (A.deeper (PyProof.Rows.envOfC "chain" (defScope st_chain) s.heap.objs.size f cdv)).units + 65 < cLine := (by have := hr.un; omega)
  refine ⟨_, (ss_cons (s_own 1 nd rfl (by first | exact Or.inl rfl | exact Or.inr rfl) (by first | exact .inr rfl | exact .inl rfl)) (ss_cons (s_for PassesOwn.never rfl (i_it (v 0)) (gv 2 nd) (ss_cons (s_while PassesOwn.never (t_lend 1 (t_w (u_and (tc_gt (d_fn call_len fd_len boot_len rfl T.ml_len (a_cons (v 1) a_nil)) d_int) (u_and1 (tc_le (d_call (h_turn_of.mono hl_turn_of) hgd hr rfl (a_cons (d_ix (v 1) (d_neg d_int) (fun _ _ => rfl)) (a_cons (d_ix (v 1) (d_neg d_int) (fun _ _ => rfl)) (a_cons (v 2) a_nil)))) d_int))))) (ss_one (s_pop 1 rfl (by first | exact Or.inl rfl | exact Or.inr (Or.inl rfl))))) (ss_one (s_append 1 rfl (by first | exact Or.inl rfl | exact Or.inr (Or.inl rfl)) (a_cons (v 2) a_nil))))) (ss_one (s_frz 1 (s_ret (v 1)))))), fun b ds Φ h => ?_⟩
  obtain ⟨_, rfl, l, rfl, hl, hs, h⟩ := h
  simp [ρ0]
  refine fun p => for_l pD (fun r ρ b' => ∃ q t2, l = q ++ r ∧ ρ = [.dat (.list (l.map pD)), .own p (.list ((chainR q).reverse.map pD)), t2]) (fun x r ρ b' hI X hX => ?_) (fun ρ b' hI => ?_) l _ _ ⟨[], .no, rfl, rfl⟩
  · obtain ⟨q, t2, e, rfl⟩ := hI
    have hq := congrArg List.length e
    simp only [List.length_append, List.length_cons] at hq
    have hx : Sz 100 x := hs x (by rw [e]; simp)
    have hmem : ∀ y ∈ chainR q, Sz 100 y := fun y hy => hs y (by rw [e]; simp [mem_chainR q y hy])
    have hcl := chainR_len q
    simp
    refine wh_ind (fun m ρ b' => ∃ st : List P2, m = st.length ∧ (∃ t, chainR q = t ++ st) ∧ popS st x = popS (chainR q) x ∧ ρ = [.dat (.list (l.map pD)), .own p (.list (st.reverse.map pD)), .dat (pD x)]) (chainR q).length ⟨chainR q, rfl, ⟨[], rfl⟩, rfl, by simp⟩ fun m ρ b' hI X' hX' => ?_
    obtain ⟨st, rfl, ⟨t, et⟩, ep, rfl⟩ := hI
    have key := hX [.dat (.list (l.map pD)), .own p (.list ((chainR (q ++ [x])).reverse.map pD)), .dat (pD x)] b' ⟨q ++ [x], _, by rw [e]; simp, rfl⟩
    rw [chainR_snoc, ← ep] at key
    have hst : st.length ≤ q.length := by
      have := congrArg List.length et
      simp only [List.length_append] at this; omega
    match st, et, ep, key, hX', hst with
    | [], et, ep, key, hX', hst =>
      simp [bare, popS] at key ⊢
      exact key
    | [c], et, ep, key, hX', hst =>
      simp [bare, popS] at key ⊢
      exact key
    | c :: a :: rest, et, ep, key, hX', hst =>
      have hc := hmem c (by rw [et]; simp)
      have ha := hmem a (by rw [et]; simp)
      have hcond : (1 : Int) < ((rest.length : Int) + 2) := by omega
      simp only [List.length_cons] at hst
      simp [bare, at_last2, at_last1, S_turn_of, hcond]
      refine ⟨ha.mono (by decide), hc.mono (by decide), hx.mono (by decide), ?_⟩
      rw [popS_cons] at key
      by_cases z : turn3 a c x ≤ 0
      · rw [if_pos z] at key ⊢
        have ep2 : popS (a :: rest) x = popS (chainR q) x := by rw [← ep, popS_cons, if_pos z]
        have e2 : (rest.map pD).reverse ++ [pD a, pD c] = ((rest.map pD).reverse ++ [pD a]) ++ [pD c] := by simp
        rw [e2]
        have := hX' (rest.length + 1) [.dat (.list (l.map pD)), .own p (.list ((a :: rest).reverse.map pD)), .dat (pD x)] b' (by simp) ⟨a :: rest, rfl, ⟨t ++ [c], by rw [et]; simp⟩, ep2, rfl⟩
        rw [pPop]
        simpa using this
      · rw [if_neg z] at key ⊢
        refine ⟨by omega, ?_⟩
        simpa using key
  · obtain ⟨q, t2, e, rfl⟩ := hI
    rw [List.append_nil] at e
    subst e
    simpa using h
def S_hull_of : SpF := fun ds Φ => as1 ds fun d => ∃ l : List P2, (d = .list (l.map pD) ∨ d = tP l) ∧ l.length ≤ 1000 ∧ ∃ P, PartOk P ∧ (∀ x, x ∈ l ↔ x ∈ P) ∧ Φ (tP P)
theorem cl_hull_of {P : Program} {w : World} {K : PySem.W.Frag} {mg : Str → Option Value} {base : Heap} (T : Txt K mg) : Cl P w K mg base "hull_of" 3 (spP K S_hull_of) := by
  have h_chain := cl_chain (P := P) (w := w) (base := base) T
  have hl_chain : 2 ≤ 2 := by decide
  refine cl_pure (k := 2) T.at_hull_of sc_hull_of (by decide) (fun ds Φ h => by obtain ⟨_, rfl, _⟩ := h; rfl) fun f cdv A outer s H hgd hr => ?_
  have nd := sc_hull_of.nd; have hu : (A.deeper (PyProof.Rows.envOfC "hull_of" (defScope st_hull_of) s.heap.objs.size f cdv)).units + 65 < cLine := (by have := hr.un; omega)
  refine ⟨_, (ss_cons (ss 1 nd (d_fn (cr_sortK rfl hu) fd_sortK PyProof.Rows.boot_sorted rfl T.ml_sorted (a_cons (d_dc [("point", 2)] hu rfl nd (i_it (v 0)) (by rfl) (fun _ _ _ _ _ => (gv 2 nd)) (fun _ _ _ _ _ => (v 2)) (fun _ _ _ _ _ => d_bool)) a_nil))) (ss_cons (s_if (tc_lt (d_fn call_len fd_len boot_len rfl T.ml_len (a_cons (v 1) a_nil)) d_int) (ss_one s_never) ss_nil) (ss_cons (s_par 3 4 rfl nd (a_cons (d_call (h_chain.mono hl_chain) hgd hr rfl (a_cons (v 1) a_nil)) (a_cons (d_call (h_chain.mono hl_chain) hgd hr rfl (a_cons (d_rev (v 1)) a_nil)) a_nil))) (ss_cons (ss 5 nd (d_tup (a_star (d_slice (v 3) o_none (o_some (d_neg d_int))) (a_star (d_slice (v 4) o_none (o_some (d_neg d_int))) a_nil)))) (ss_cons (s_if (tc_lt (d_fn call_len fd_len boot_len rfl T.ml_len (a_cons (v 5) a_nil)) d_int) (ss_one s_never) ss_nil) (ss_one (s_ret (v 5)))))))), fun b ds Φ h => ?_⟩
  obtain ⟨d0, rfl, l, hd, hl, P, hP, hm, h⟩ := h
  obtain ⟨r1, r2, r3⟩ := rowsP_ok l
  have heq : hullP (rowsP l) = P := hull_eq hP.cvx hP.three hP.inj hP.least r1 (fun x => (r2 x).trans (hm x))
  have hsz : ∀ x ∈ rowsP l, Sz 100 x := fun x hx => hP.sz (by decide) x ((hm x).mp ((r2 x).mp hx))
  have hrl : 3 ≤ (rowsP l).length := by
    have := len_sub (l := P) (m := rowsP l) (by
      rw [List.nodup_iff_pairwise_ne, List.pairwise_iff_getElem]
      intro i j hi hj hij e
      have := hP.inj i j hi hj (by unfold tp; rw [List.getD_eq_getElem?_getD, List.getD_eq_getElem?_getD, List.getElem?_eq_getElem hi, List.getElem?_eq_getElem hj, e])
      omega) (fun x hx => (r2 x).mpr ((hm x).mpr hx))
    have := hP.three
    omega
  have hit : ∀ X : List D → Prop, itD d0 X = X (l.map pD) := fun X => by
    rcases hd with z | z
    · rw [z]; rfl
    · rw [z]; rfl
  simp [ρ0, hit, deown, wipeE]
  refine dc_l pD (fun r acc b' => b = b' ∧ ∃ q, l = q ++ r ∧ acc = keysL q) (fun x r acc b' hI X hX => ?_) (fun acc b' hI => ?_) l [] b ⟨rfl, [], rfl, rfl⟩
  · obtain ⟨rfl, q, e, rfl⟩ := hI
    have h1 := dedup_len q
    have h2 := congrArg List.length e
    simp only [List.length_append, List.length_cons] at h2
    simp [okV, put_keys]
    refine ⟨?_, hX _ _ ⟨rfl, q ++ [x], by rw [e]; simp, rfl⟩⟩
    unfold keysL; rw [List.length_map]; omega
  · obtain ⟨rfl, q, e, rfl⟩ := hI
    rw [List.append_nil] at e
    subst e
    have hdl := dedup_len l
    refine ⟨keysL l, dedup l, rfl, by unfold keysL; rw [List.map_map]; rfl, by unfold keysL; rw [List.length_map, sl_eq]; omega, ?_⟩
    have e0 : (dedup l).mergeSort lexLe = rowsP l := rfl
    have c1 : ¬ ((rowsP l).length : Int) < 3 := by omega
    have k1 := chainR_len (rowsP l)
    have k2 := chainR_len (rowsP l).reverse
    rw [List.length_reverse] at k2
    have ef : (chainR (rowsP l)).reverse.dropLast ++ (chainR (rowsP l).reverse).reverse.dropLast = P := heq
    have efD : ((chainR (rowsP l)).reverse.map pD).dropLast ++ ((chainR (rowsP l).reverse).reverse.map pD).dropLast = P.map pD := by
      rw [← ef, List.map_append, List.map_dropLast, List.map_dropLast]
    have efL := congrArg List.length efD
    have p3 := hP.three
    have p10 := hP.ten
    simp only [List.length_map, List.length_append, List.length_dropLast, List.length_reverse] at efL
    have c2 : ¬ ((P.length : Int) < 3) := by omega
    rw [e0]
    rw [List.map_reverse, List.map_reverse, List.dropLast_reverse, List.dropLast_reverse] at efD
    simp [c1, S_chain]
    refine ⟨by omega, fun a c hx => hsz (a, c) hx, by omega, fun a c hx => hsz (a, c) hx, by omega, ?_⟩
    rw [efD]
    refine ⟨by omega, h⟩
def S_part : SpF := fun ds Φ => as1 ds fun d => asTP d fun P => PartOk P ∧ Φ (.bool true)
theorem cl_is_hull {P : Program} {w : World} {K : PySem.W.Frag} {mg : Str → Option Value} {base : Heap} (T : Txt K mg) : Cl P w K mg base "is_hull" 4 (spP K S_part) := by
  have h_hull_of := cl_hull_of (P := P) (w := w) (base := base) T
  have hl_hull_of : 3 ≤ 3 := by decide
  refine cl_pure (k := 3) T.at_is_hull sc_is_hull (by decide) (fun ds Φ h => by obtain ⟨_, rfl, _⟩ := h; rfl) fun f cdv A outer s H hgd hr => ?_
  have nd := sc_is_hull.nd; have hu : (A.deeper (PyProof.Rows.envOfC "is_hull" (defScope st_is_hull) s.heap.objs.size f cdv)).units + 65 < cLine := (by have := hr.un; omega)
  refine ⟨_, (ss_one (s_try (ss_one (s_ret (de_eq hu (d_call (h_hull_of.mono hl_hull_of) hgd hr rfl (a_cons (v 0) a_nil)) (v 0)))))), fun b ds Φ h => ?_⟩
  obtain ⟨_, rfl, P, rfl, hP, h⟩ := h
  have := hP.ten
  simp [ρ0, S_hull_of]
  exact ⟨P, .inr rfl, by omega, P, hP, fun _ _ => Iff.rfl, by simpa using h⟩
def S_is_sized : SpF := fun ds Φ => as2 ds fun d e => asT d fun xs => asI e fun n => Φ (.bool (decide ((xs.length : Int) = n)))
theorem cl_is_sized {P : Program} {w : World} {K : PySem.W.Frag} {mg : Str → Option Value} {base : Heap} (T : Txt K mg) : Cl P w K mg base "is_sized" 1 (spP K S_is_sized) := by
  refine cl_pure (k := 0) T.at_is_sized sc_is_sized (by decide) (fun ds Φ h => by obtain ⟨_, _, rfl, _⟩ := h; rfl) fun f cdv A outer s H hgd hr => ?_
  have nd := sc_is_sized.nd; have hu : (A.deeper (PyProof.Rows.envOfC "is_sized" (defScope st_is_sized) s.heap.objs.size f cdv)).units + 65 < cLine := (by have := hr.un; omega)
  refine ⟨_, (ss_one (s_ret (d_and (d_isT (.inr (.inr rfl)) PyProof.Rows.boot_tuple rfl T.ml_isinstance rfl T.ml_tuple (v 0)) (d_one (de_eq hu (d_fn call_len fd_len boot_len rfl T.ml_len (a_cons (v 0) a_nil)) (v 1)))))), fun b ds Φ h => ?_⟩
  obtain ⟨_, _, rfl, xs, rfl, n, rfl, h⟩ := h
  simp [ρ0, isDict, isT, tyN]
  exact h
def S_is_couple : SpF := fun ds Φ => as1 ds fun d => asP d fun p => Φ (.bool true)
theorem cl_is_couple {P : Program} {w : World} {K : PySem.W.Frag} {mg : Str → Option Value} {base : Heap} (T : Txt K mg) : Cl P w K mg base "is_couple" 2 (spP K S_is_couple) := by
  have h_is_number := cl_is_number (P := P) (w := w) (base := base) T
  have hl_is_number : 1 ≤ 1 := by decide
  have h_is_sized := cl_is_sized (P := P) (w := w) (base := base) T
  have hl_is_sized : 1 ≤ 1 := by decide
  refine cl_pure (k := 1) T.at_is_couple sc_is_couple (by decide) (fun ds Φ h => by obtain ⟨_, rfl, _⟩ := h; rfl) fun f cdv A outer s H hgd hr => ?_
  have nd := sc_is_couple.nd; have hu : (A.deeper (PyProof.Rows.envOfC "is_couple" (defScope st_is_couple) s.heap.objs.size f cdv)).units + 65 < cLine := (by have := hr.un; omega)
  refine ⟨_, (ss_one (s_ret (d_and (d_call (h_is_sized.mono hl_is_sized) hgd hr rfl (a_cons (v 0) (a_cons d_int a_nil))) (d_and (d_call (h_is_number.mono hl_is_number) hgd hr rfl (a_cons (d_ix (v 0) d_int (fun _ _ => rfl)) a_nil)) (d_one (d_call (h_is_number.mono hl_is_number) hgd hr rfl (a_cons (d_ix (v 0) d_int (fun _ _ => rfl)) a_nil))))))), fun b ds Φ h => ?_⟩
  obtain ⟨_, rfl, p, rfl, h⟩ := h
  simp [ρ0, S_is_sized, S_is_number, at0, at1]
  exact h
def S_is_tuple_of : SpT := fun d Φ => asTP d fun P => P.length ≤ 1000 ∧ Φ (.bool true)
theorem cl_is_tuple_of {P : Program} {w : World} {K : PySem.W.Frag} {mg : Str → Option Value} {base : Heap} (T : Txt K mg) {fo : Addr} (hF : ClF P w K mg base fo 2 (spP K S_is_couple)) : Cl P w K mg base "is_tuple_of" 3 (spT K fo S_is_tuple_of) := by
  refine cl_fn (k := 2) T.at_is_tuple_of sc_is_tuple_of rfl (by decide) fun f cdv A outer s H hgd hr => ?_
  have nd := sc_is_tuple_of.nd; have hu : (A.deeper (PyProof.Rows.envOfC "is_tuple_of" (defScope st_is_tuple_of) s.heap.objs.size f cdv)).units + 65 < cLine := (by have := hr.un; omega)
  refine ⟨_, (ss_one (s_ret (d_and (d_isT (.inr (.inr rfl)) PyProof.Rows.boot_tuple rfl T.ml_isinstance rfl T.ml_tuple (v 0)) (d_one (d_fn (cr_all rfl) fd_all PyProof.Rows.boot_all rfl T.ml_all (a_cons (d_lc [("one", 2)] rfl nd (i_it (v 0)) (by rfl) (fun _ _ _ _ _ => (gv 2 nd)) (fun _ _ _ _ _ => ts_nil) (fun _ _ _ _ _ => (d_callV 1 hF hgd hr (a_cons (v 2) a_nil)))) a_nil)))))), fun b d Φ h => ?_⟩
  obtain ⟨l, rfl, hl, h⟩ := h
  have e1 : isDict (tP l) = false := rfl
  have e2 : isT "tuple" (tP l) = true := rfl
  simp [ρ0, e1, e2, deown, wipeE]
  refine lc_map pD (fun _ => .bool true) l (by rw [sl_eq]; omega) (fun p hp X hX => ?_) ?_
  · simp [S_is_couple]
    exact hX
  · have e : l.map (fun _ => PyData.bool true) = (l.map fun _ => true).map .bool := by rw [List.map_map]; rfl
    rw [e]
    refine oAll_i ?_
    have e2 : (l.map fun _ => true).all id = true := by simp
    rw [e2]; exact h
theorem cl_is_corners {P : Program} {w : World} {K : PySem.W.Frag} {mg : Str → Option Value} {base : Heap} (T : Txt K mg) : Cl P w K mg base "is_corners" 4 (spP K S_part) := by
  obtain ⟨fo, fd, ps, F, hb, hm, hk⟩ := (cl_is_couple (P := P) (w := w) (base := base) T).ex
  have hmF : mg "is_couple" = some (.ref fo) := hm
  have h_is_tuple_of := cl_is_tuple_of (P := P) (w := w) (base := base) T (fo := fo) ⟨fd, ps, F, hb, hk⟩
  have hl_is_tuple_of : 3 ≤ 3 := by decide
  refine cl_pure (k := 3) T.at_is_corners sc_is_corners (by decide) (fun ds Φ h => by obtain ⟨_, rfl, _⟩ := h; rfl) fun f cdv A outer s H hgd hr => ?_
  have nd := sc_is_corners.nd; have hu : (A.deeper (PyProof.Rows.envOfC "is_corners" (defScope st_is_corners) s.heap.objs.size f cdv)).units + 65 < cLine := (by have := hr.un; omega)
  refine ⟨_, (ss_one (s_ret (d_callT (h_is_tuple_of.mono hl_is_tuple_of) hgd hr rfl rfl hmF (v 0)))), fun b ds Φ h => ?_⟩
  obtain ⟨_, rfl, l, rfl, hP, h⟩ := h
  have := hP.ten
  simp [ρ0, S_is_tuple_of]
  exact ⟨by omega, h⟩
def S_checked_part : SpF := fun ds Φ => as1 ds fun d => asTP d fun P => PartOk P ∧ Φ (tP P)
theorem cl_checked_part {P : Program} {w : World} {K : PySem.W.Frag} {mg : Str → Option Value} {base : Heap} (T : Txt K mg) : Cl P w K mg base "checked_part" 5 (spP K S_checked_part) := by
  have h_is_corners := cl_is_corners (P := P) (w := w) (base := base) T
  have hl_is_corners : 4 ≤ 4 := by decide
  have h_is_hull := cl_is_hull (P := P) (w := w) (base := base) T
  have hl_is_hull : 4 ≤ 4 := by decide
  refine cl_pure (k := 4) T.at_checked_part sc_checked_part (by decide) (fun ds Φ h => by obtain ⟨_, rfl, _⟩ := h; rfl) fun f cdv A outer s H hgd hr => ?_
  have nd := sc_checked_part.nd; have hu : (A.deeper (PyProof.Rows.envOfC "checked_part" (defScope st_checked_part) s.heap.objs.size f cdv)).units + 65 < cLine := (by have := hr.un; omega)
  refine ⟨_, (ss_cons (s_if (t_w (u_or (t_not (t_val (d_call (h_is_corners.mono hl_is_corners) hgd hr rfl (a_cons (v 0) a_nil)))) (u_or1 (tc_lt (d_fn call_len fd_len boot_len rfl T.ml_len (a_cons (v 0) a_nil)) d_int)))) (ss_one s_never) ss_nil) (ss_cons (s_if (tc_gt (d_fn call_len fd_len boot_len rfl T.ml_len (a_cons (v 0) a_nil)) (d_gInt rfl T.g_MOST_CORNERS)) (ss_one s_never) ss_nil) (ss_cons (s_for PassesOwn.never rfl (i_enum rfl T.ml_enumerate (v 0)) (g_tup (n := 2) rfl (g_cons (gv 1 nd) (g_cons (g_tup (n := 2) rfl (g_cons (gv 2 nd) (g_cons (gv 3 nd) g_nil))) g_nil))) (ss_one (s_if (tc_gt (d_fn (call_max2 rfl) fd_max2 PyProof.Rows.boot_max rfl T.ml_max (a_cons (d_fn call_abs fd_abs PyProof.Rows.boot_abs rfl T.ml_abs (a_cons (v 2) a_nil)) (a_cons (d_fn call_abs fd_abs PyProof.Rows.boot_abs rfl T.ml_abs (a_cons (v 3) a_nil)) a_nil))) (d_gInt rfl T.g_MOST_FAR)) (ss_one s_never) ss_nil))) (ss_cons (s_if (t_not (t_val (d_call (h_is_hull.mono hl_is_hull) hgd hr rfl (a_cons (v 0) a_nil)))) (ss_one s_never) ss_nil) (ss_one (s_ret (v 0))))))), fun b ds Φ h => ?_⟩
  obtain ⟨_, rfl, P, rfl, hP, h⟩ := h
  have p3 := hP.three
  have p10 := hP.ten
  have c1 : ¬ (P.length : Int) < 3 := by omega
  have c2 : ¬ (10 : Int) < P.length := by omega
  simp [ρ0, S_part, c1, c2, enum_map]
  refine ⟨hP, ?_⟩
  refine for_l (fun p : P2 × Nat => PyData.tuple [.int (p.2 : Nat), pD p.1]) (fun r ρ b' => ∃ q t1 t2 t3, P.zipIdx = q ++ r ∧ ρ = [.dat (tP P), t1, t2, t3]) (fun a r ρ b' hI X hX => ?_) (fun ρ b' hI => ?_) P.zipIdx _ _ ⟨[], .no, .no, .no, rfl, rfl⟩
  · obtain ⟨q, t1, t2, t3, e, rfl⟩ := hI
    obtain ⟨a, i⟩ := a
    obtain ⟨rfl, ha, hlt⟩ := zip_at e
    have hf := hP.far a (List.mem_of_getElem? ha)
    have c3 : ¬ (99 : Int) < (if absI a.2 > absI a.1 then absI a.2 else absI a.1) := by unfold absI; split <;> omega
    simp at c3
    simp [c3]
    exact hX _ _ ⟨q ++ [(a, q.length)], _, _, _, by rw [e]; simp, rfl⟩
  · obtain ⟨q, t1, t2, t3, e, rfl⟩ := hI
    simp [S_part]
    exact ⟨hP, h⟩
end K96

/-! KB9: promises: the law's hull. -/
namespace K96
open PySem L2 DL
structure HullOk (l P : List P2) : Prop where
  cvx : Cvx P
  three : 3 ≤ P.length
  least : ∀ i, 0 < i → i < P.length → lexL (tp P 0) (tp P i)
  sub : ∀ p ∈ P, p ∈ l
def Flat (l : List P2) : Prop := ∀ p ∈ l, ∀ q ∈ l, ∀ r ∈ l, turn3 p q r = 0
/-- the way closes -/
theorem wrap_close {S : List P2} (hs : S.Nodup) (h2 : 2 ≤ S.length) : ∀ (n : Nat) (h : P2) (l : List P2), Walk S (l ++ [h]) → tp (l ++ [h]) 0 = tp S 0 → l.length + n = S.length + 1 →
    ∃ l' h', wrapG S n h l = l' ++ [h'] ∧ tp S 0 ≠ h' ∧ ∀ s ∈ S, s ≠ h' → BestG h' (tp S 0) s
  | 0, h, l, w, _, hl => by
    have := len_sub w.nodup (fun x hx => (w.ext x hx).1)
    simp only [List.length_append, List.length_singleton] at this
    omega
  | n + 1, h, l, w, h0, hl => by
    obtain ⟨hS, d, hd⟩ := w.ext h (by simp)
    have hf : firstG S h ≠ h ∧ firstG S h ∈ S := by
      unfold firstG
      by_cases e : h = tp S 0
      · rw [if_neg (by simpa using e)]
        refine ⟨fun z => ?_, tp_mem' (by omega)⟩
        rw [List.nodup_iff_pairwise_ne, List.pairwise_iff_getElem] at hs
        apply hs 0 1 (by omega) (by omega) (by omega)
        have z := (z.trans e).symm
        unfold tp at z
        rw [List.getD_eq_getElem?_getD, List.getD_eq_getElem?_getD, List.getElem?_eq_getElem (show 0 < S.length by omega), List.getElem?_eq_getElem (show 1 < S.length by omega)] at z
        simpa using z
      · rw [if_pos e]; exact ⟨fun z => e z.symm, tp_mem' (by omega)⟩
    have hpos := hd _ hf.2 hf.1
    obtain ⟨a, b, c, e⟩ := scan_best (h := h) S (firstG S h) hd hpos
    have gS : scanG h (firstG S h) S ∈ S := a.elim (fun z => by rw [z]; exact hf.2) id
    have gne : scanG h (firstG S h) S ≠ h := fun z => by
      rw [z] at b; unfold dot subP at b; simp at b
    have ge := next_ext hd b e
    unfold wrapG
    by_cases hr : scanG h (firstG S h) S = tp S 0
    · rw [if_pos hr]
      rw [hr] at e gne
      exact ⟨l, h, rfl, gne, e⟩
    · rw [if_neg hr]
      have w' := w.step gS ge gne e (by rw [h0]; exact hr)
      refine wrap_close hs h2 n _ (l ++ [h]) w' ?_ (by simp; omega)
      rw [tp_snoc_lt (by simp)]; exact h0
theorem flat_two {S : List P2} (hs : S.Nodup) (h2 : 2 ≤ S.length) (w0 : Walk S ([] ++ [tp S 0])) (hW : (wrapG S (S.length + 1) (tp S 0) []).length ≤ 2) : Flat S := by
  obtain ⟨w, e0⟩ := wrap_walk hs h2 (S.length + 1) (tp S 0) [] w0 rfl (by simp)
  obtain ⟨l', h', e1, hne, hb⟩ := wrap_close hs h2 (S.length + 1) (tp S 0) [] w0 rfl (by simp)
  generalize wrapG S (S.length + 1) (tp S 0) [] = W at *
  subst e1
  have key : ∃ g, g ≠ tp S 0 ∧ ∀ s ∈ S, crs (subP g (tp S 0)) (subP s (tp S 0)) = 0 := by
    match l', hW, w, e0, hb, hne with
    | [], hW, w, e0, hb, hne => exact absurd e0.symm hne
    | [x], hW, w, e0, hb, hne =>
      have ex : x = tp S 0 := e0
      subst ex
      refine ⟨h', fun z => hne z.symm, fun s hs' => ?_⟩
      have ed := (w.edge 0 (by simp)).2
      have t0 : tp ([tp S 0] ++ [h']) 0 = tp S 0 := rfl
      have t1 : tp ([tp S 0] ++ [h']) (0 + 1) = h' := rfl
      rw [t0, t1] at ed
      by_cases z0 : s = tp S 0
      · rw [z0]; unfold crs subP; simp
      · by_cases z1 : s = h'
        · rw [z1]; unfold crs; grind
        · have b1 := (ed s hs' z0).1
          have b2 := (hb s hs' z1).1
          have : crs (subP (tp S 0) h') (subP s h') = - crs (subP h' (tp S 0)) (subP s (tp S 0)) := by unfold crs subP; grind
          omega
    | x :: y :: r, hW, w, e0, hb, hne => simp at hW
  obtain ⟨g, hg, hc⟩ := key
  intro p hp q hq r hr
  have a := hc p hp
  have b := hc q hq
  have c := hc r hr
  -- all along one line
  have hz : ¬ ((subP g (tp S 0)).1 = 0 ∧ (subP g (tp S 0)).2 = 0) := fun z => by
    unfold subP at z
    exact hg (Prod.ext (by have := z.1; simp only at this; omega) (by have := z.2; simp only at this; omega))
  have par : ∀ u v : P2, crs (subP g (tp S 0)) u = 0 → crs (subP g (tp S 0)) v = 0 → crs u v = 0 := fun u v h1 h2 => by
    generalize subP g (tp S 0) = d at hz h1 h2
    have hn := nrm_pos hz
    have e : (d.1 * d.1 + d.2 * d.2) * crs u v = dot d u * crs d v - crs d u * dot d v := by unfold dot crs; grind
    rw [h1, h2, Int.mul_zero, Int.zero_mul] at e
    have e : (d.1 * d.1 + d.2 * d.2) * crs u v = 0 := by omega
    exact (Int.mul_eq_zero.mp e).resolve_left (by omega)
  rw [turn3_crs']
  refine par _ _ ?_ ?_
  · have : crs (subP g (tp S 0)) (subP q p) = crs (subP g (tp S 0)) (subP q (tp S 0)) - crs (subP g (tp S 0)) (subP p (tp S 0)) := by unfold crs subP; grind
    omega
  · have : crs (subP g (tp S 0)) (subP r p) = crs (subP g (tp S 0)) (subP r (tp S 0)) - crs (subP g (tp S 0)) (subP p (tp S 0)) := by unfold crs subP; grind
    omega
theorem flat_few {S : List P2} (h : S.length < 3) : Flat S := by
  intro p hp q hq r hr
  have : p = q ∨ p = r ∨ q = r := by
    match S, h, hp, hq, hr with
    | [], _, hp, _, _ => cases hp
    | [x], _, hp, hq, _ => left; rw [List.mem_singleton.mp hp, List.mem_singleton.mp hq]
    | [x, y], _, hp, hq, hr =>
      simp only [List.mem_cons, List.not_mem_nil, or_false] at hp hq hr
      rcases hp with a | a <;> rcases hq with b | b <;> rcases hr with c | c <;> simp [a, b, c]
    | x :: y :: z :: r', h, _, _, _ => simp at h; omega
  have z := turn3_same p q
  rcases this with e | e | e
  · subst e; exact (turn3_same p r).2.1
  · subst e; exact (turn3_same p q).2.2
  · subst e; exact (turn3_same p q).1
def S_law_hull : SpF := fun ds Φ => as1 ds fun d => asLP d fun l => l.length < 64 ∧ (∀ p ∈ l, Sz 7 p) ∧ (Flat l → Φ .none) ∧ ∀ P, HullOk l P → Φ (tP P)
theorem wrap_hull {l S : List P2} (hs : S.Pairwise lexL) (hm : ∀ x, x ∈ S ↔ x ∈ l) (h3 : 3 ≤ S.length) (hw : 2 < (wrapG S (S.length + 1) (tp S 0) []).length) : HullOk l (wrapG S (S.length + 1) (tp S 0) []) := by
  obtain ⟨c, e0, hsub⟩ := wrap_cvx hs (by omega)
  refine ⟨c, hw, fun i h0 hi => ?_, fun p hp => (hm p).mp (hsub p hp)⟩
  have hne := (c.inj (by omega))
  obtain ⟨k, hk, ek⟩ := mem_tp' (hsub _ (tp_mem' hi))
  have hk0 : k ≠ 0 := fun z => by
    subst z
    have := hne 0 i (by omega) hi (e0.trans ek)
    omega
  rw [e0, ← ek]
  rw [List.pairwise_iff_getElem] at hs
  have := hs 0 k (by omega) hk (by omega)
  unfold tp
  rw [List.getD_eq_getElem?_getD, List.getD_eq_getElem?_getD, List.getElem?_eq_getElem (show 0 < S.length by omega), List.getElem?_eq_getElem hk]
  exact this
theorem at_tp {l : List P2} {k : Nat} (h : k < l.length) : atI (l.map pD) (k : Int) = some (pD (tp l k)) := at_nat (by rw [List.getElem?_map, tp_get' h]; rfl)
theorem at_tp0 {l : List P2} (h : 0 < l.length) : atI (l.map pD) 0 = some (pD (tp l 0)) := at_tp (k := 0) h
theorem at_tp1 {l : List P2} (h : 1 < l.length) : atI (l.map pD) 1 = some (pD (tp l 1)) := at_tp (k := 1) h
theorem ix0 {l : List P2} {Φ : D → Prop} (h : 0 < l.length) : oIxA (.list (l.map pD)) (.int 0) Φ ↔ Φ (pD (tp l 0)) := ixn (k := 0) h
theorem ix1 {l : List P2} {Φ : D → Prop} (h : 1 < l.length) : oIxA (.list (l.map pD)) (.int 1) Φ ↔ Φ (pD (tp l 1)) := ixn (k := 1) h
theorem cl__law_hull {P : Program} {w : World} {K : PySem.W.Frag} {mg : Str → Option Value} {base : Heap} (T : Txt K mg) : Cl P w K mg base "_law_hull" 2 (spP K S_law_hull) := by
  have h__law_cross := cl__law_cross (P := P) (w := w) (base := base) T
  have hl__law_cross : 1 ≤ 1 := by decide
  refine cl_pure (k := 1) T.at__law_hull sc__law_hull (by decide) (fun ds Φ h => by obtain ⟨_, rfl, _⟩ := h; rfl) fun f cdv A outer s H hgd hr => ?_
  have nd := sc__law_hull.nd; have hu : (A.deeper (PyProof.Rows.envOfC "_law_hull" (defScope st__law_hull) s.heap.objs.size f cdv)).units + 65 < cLine := (by have := hr.un; omega)
  refine ⟨_, (ss_cons (ss 1 nd (d_sortedSet rfl T.ml_sorted rfl T.ml_set hu rfl (v 0))) (ss_cons (s_if (tc_lt (d_fn call_len fd_len boot_len rfl T.ml_len (a_cons (v 1) a_nil)) d_int) (ss_one (s_ret d_none)) ss_nil) (ss_cons (s_parO2 2 3 rfl nd (d_ix (v 1) d_int (fun _ _ => rfl))) (ss_cons (s_for PassesOwn.never rfl (i_rg1 rfl T.ml_range (a_cons (d_addA (d_fn call_len fd_len boot_len rfl T.ml_len (a_cons (v 1) a_nil)) d_int) a_nil)) (gv 4 nd) (ss_cons (s_append 3 rfl (by first | exact Or.inl rfl | exact Or.inr (Or.inl rfl)) (a_cons (v 2) a_nil)) (ss_cons (ss 5 nd (d_if (te_ne hu (v 2) (d_ix (v 1) d_int (fun _ _ => rfl))) (d_ix (v 1) d_int (fun _ _ => rfl)) (d_ix (v 1) d_int (fun _ _ => rfl)))) (ss_cons (s_for PassesOwn.never rfl (i_it (v 1)) (gv 6 nd) (ss_cons (s_par 7 8 rfl nd (a_cons (d_tup (a_cons (d_subA (d_ix (v 5) d_int (fun _ _ => rfl)) (d_ix (v 2) d_int (fun _ _ => rfl))) (a_cons (d_subA (d_ix (v 5) d_int (fun _ _ => rfl)) (d_ix (v 2) d_int (fun _ _ => rfl))) a_nil))) (a_cons (d_tup (a_cons (d_subA (d_ix (v 6) d_int (fun _ _ => rfl)) (d_ix (v 2) d_int (fun _ _ => rfl))) (a_cons (d_subA (d_ix (v 6) d_int (fun _ _ => rfl)) (d_ix (v 2) d_int (fun _ _ => rfl))) a_nil))) a_nil))) (ss_cons (ss 9 nd (d_call (h__law_cross.mono hl__law_cross) hgd hr rfl (a_cons (v 7) (a_cons (v 8) a_nil)))) (ss_cons (ss 10 nd (dc_gt (d_addA (d_fn call_abs fd_abs PyProof.Rows.boot_abs rfl T.ml_abs (a_cons (d_ix (v 8) d_int (fun _ _ => rfl)) a_nil)) (d_fn call_abs fd_abs PyProof.Rows.boot_abs rfl T.ml_abs (a_cons (d_ix (v 8) d_int (fun _ _ => rfl)) a_nil))) (d_addA (d_fn call_abs fd_abs PyProof.Rows.boot_abs rfl T.ml_abs (a_cons (d_ix (v 7) d_int (fun _ _ => rfl)) a_nil)) (d_fn call_abs fd_abs PyProof.Rows.boot_abs rfl T.ml_abs (a_cons (d_ix (v 7) d_int (fun _ _ => rfl)) a_nil))))) (ss_one (s_if (t_w (u_or (tc_lt (v 9) d_int) (u_or1 (t_w (u_and (te_eq hu (v 9) d_int) (u_and (t_val (v 10)) (u_and1 (tc_gt (d_addA (d_mulA (d_ix (v 7) d_int (fun _ _ => rfl)) (d_ix (v 8) d_int (fun _ _ => rfl))) (d_mulA (d_ix (v 7) d_int (fun _ _ => rfl)) (d_ix (v 8) d_int (fun _ _ => rfl)))) d_int)))))))) (ss_one (ss 5 nd (v 6))) ss_nil)))))) (ss_cons (ss 2 nd (v 5)) (ss_one (s_if (te_eq hu (v 2) (d_ix (v 1) d_int (fun _ _ => rfl))) (ss_one s_break) ss_nil))))))) (ss_one (s_frz 3 (s_ret (d_if (tc_gt (d_fn call_len fd_len boot_len rfl T.ml_len (a_cons (v 3) a_nil)) d_int) (d_ty call_tuple_of fd_tuple PyProof.Rows.boot_tuple rfl T.ml_tuple (a_cons (v 3) a_nil)) d_none)))))))), fun b ds Φ h => ?_⟩
  obtain ⟨_, rfl, l, rfl, hl, hs, hn, h⟩ := h
  simp [ρ0, oSortSet]
  refine ⟨l, rfl, hl, fun S hS => ?_⟩
  have hp := lexLe_strict hS.1 hS.2.2
  have hm := hS.2.1
  have hSz : ∀ x ∈ S, Sz 7 x := fun x hx => hs x ((hm x).mp hx)
  have hSl : S.length < 64 := Nat.lt_of_le_of_lt (len_sub hS.1 fun x hx => (hm x).mp hx) hl
  by_cases h3 : (S.length : Int) < 3
  · rw [if_pos h3]
    exact hn fun p hp q hq r hr => flat_few (S := S) (by omega) p ((hm p).mpr hp) q ((hm q).mpr hq) r ((hm r).mpr hr)
  rw [if_neg h3]
  have h0 : 0 < S.length := by omega
  have h1 : 1 < S.length := by omega
  simp [at_tp0 h0]
  intro p
  have erg : rgD 0 ((S.length : Int) + 1) = (List.range (S.length + 1)).map fun k => .int (k : Nat) := rg_map (S.length + 1)
  rw [erg]
  refine ⟨by omega, by omega, ?_⟩
  generalize hW : wrapG S (S.length + 1) (tp S 0) [] = W
  have hfe : ∃ d, Ext S d (tp S 0) := first_ext fun s hs' hne => by
    obtain ⟨k, hk, e⟩ := mem_tp' hs'
    have hk0 : 0 < k := by
      rcases Nat.eq_zero_or_pos k with z | z
      · subst z; exact absurd e.symm hne
      · exact z
    have hp := hp
    rw [List.pairwise_iff_getElem] at hp
    have := hp 0 k h0 hk hk0
    rw [← e]
    unfold tp
    rw [List.getD_eq_getElem?_getD, List.getD_eq_getElem?_getD, List.getElem?_eq_getElem h0, List.getElem?_eq_getElem hk]
    exact this
  have hw0 : Walk S ([] ++ [tp S 0]) := ⟨fun x hx => by rw [List.mem_singleton.mp hx]; exact ⟨tp_mem' h0, hfe⟩, fun i hi => by simp at hi, fun i h1 h2 => by simp at h2; omega⟩
  have hlast : ∀ (t2 t4 t5 t6 t7 t8 t9 t10 : Sl), W.length < 16777216 → (bSeq (sFrz 3 (sRet (wIfE (wB (w2 (oCmp fGt) (wFn oLen (wCons (wVar 3) wNil)) (wC (.int 2)))) (wFn oTuple (wCons (wVar 3) wNil)) (wC .none)))) (fin fun d _ => Φ d)) (.nx [.dat (.list (l.map pD)), .dat (.list (S.map pD)), t2, .own p (.list (W.map pD)), t4, t5, t6, t7, t8, t9, t10] b) := fun t2 t4 t5 t6 t7 t8 t9 t10 hz => by
    simp
    by_cases h2 : (2 : Int) < W.length
    · rw [if_pos h2]
      refine h W ?_
      rw [← hW]
      exact wrap_hull hp hm (by omega) (by rw [hW]; omega)
    · rw [if_neg h2]
      exact hn fun p hp q hq r hr => flat_two hS.1 (by omega) hw0 (by rw [hW]; omega) p ((hm p).mpr hp) q ((hm q).mpr hq) r ((hm r).mpr hr)
  have hWl : W.length ≤ S.length := by
    obtain ⟨w, _⟩ := wrap_walk hS.1 (by omega) (S.length + 1) (tp S 0) [] hw0 rfl (by simp)
    rw [hW] at w
    exact len_sub w.nodup fun x hx => (w.ext x hx).1
  refine for_l (fun k : Nat => PyData.int (k : Int)) (fun r ρ b' => b = b' ∧ ∃ here found t4 t5 t6 t7 t8 t9 t10, here ∈ S ∧ found.length + r.length ≤ S.length + 1 ∧ wrapG S r.length here found = W ∧ ρ = [.dat (.list (l.map pD)), .dat (.list (S.map pD)), .dat (pD here), .own p (.list (found.map pD)), t4, t5, t6, t7, t8, t9, t10]) (fun k r ρ b' hI X hX => ?_) (fun ρ b' hI => ?_) (List.range (S.length + 1)) _ _ ⟨rfl, tp S 0, [], .no, .no, .no, .no, .no, .no, .no, tp_mem' h0, by simp, by rw [List.length_range]; exact hW, rfl⟩
  · obtain ⟨rfl, here, found, t4, t5, t6, t7, t8, t9, t10, mh, hfl, ew, rfl⟩ := hI
    simp only [List.length_cons] at hfl ew
    unfold wrapG at ew
    simp [at_tp0 h0, at_tp1 h1]
    refine ⟨by omega, ?_⟩
    have hg0 : firstG S here ∈ S := by unfold firstG; split <;> exact tp_mem' (by omega)
    have eg : (if here = tp S 0 then tp S 1 else tp S 0) = firstG S here := by unfold firstG; by_cases e : here = tp S 0 <;> simp [e]
    generalize firstG S here = g0 at eg hg0 ew
    by_cases e : here = tp S 0
    case' pos => rw [if_pos e] at eg ⊢; rw [eg]
    case' neg => rw [if_neg e] at eg ⊢; rw [eg]
    all_goals
      refine for_l pD (fun r' ρ b' => b = b' ∧ ∃ g t6 t7 t8 t9 t10, g ∈ S ∧ scanG here g r' = scanG here g0 S ∧ (∀ x ∈ r', x ∈ S) ∧ ρ = [.dat (.list (l.map pD)), .dat (.list (S.map pD)), .dat (pD here), .own p (.list ((found ++ [here]).map pD)), .dat (.int (k : Nat)), .dat (pD g), t6, t7, t8, t9, t10]) (fun x r' ρ b' hI X' hX' => ?_) (fun ρ b' hI => ?_) S _ _ ⟨rfl, g0, t6, t7, t8, t9, t10, hg0, rfl, fun _ h => h, by simp⟩
      · obtain ⟨rfl, g, t6, t7, t8, t9, t10, hg, esc, hr, rfl⟩ := hI
        have hx := hr x (List.mem_cons_self ..)
        have key := hX' [.dat (.list (l.map pD)), .dat (.list (S.map pD)), .dat (pD here), .own p (.list ((found ++ [here]).map pD)), .dat (.int (k : Nat)), .dat (pD (if betterG here g x = true then x else g)), .dat (pD x), .dat (pD (subP g here)), .dat (pD (subP x here)), .dat (.int (crs (subP g here) (subP x here))), .dat (.bool (decide (n1 (subP x here) > n1 (subP g here))))] b ⟨rfl, _, _, _, _, _, _, by split <;> assumption, esc, fun y hy => hr y (List.mem_cons_of_mem _ hy), rfl⟩
        have z1 : Sz 8 (subP g here) := ⟨(hSz g hg).1.sub (hSz here mh).1, (hSz g hg).2.sub (hSz here mh).2⟩
        have z2 : Sz 8 (subP x here) := ⟨(hSz x hx).1.sub (hSz here mh).1, (hSz x hx).2.sub (hSz here mh).2⟩
        have c1 := z1.1.cm z2.1
        have c2 := z1.2.cm z2.2
        simp only [List.map_append, List.map_cons, List.map_nil] at key
        have hb : betterG here g x = (decide (crs (subP g here) (subP x here) < 0) || (decide (crs (subP g here) (subP x here) = 0) && (decide (n1 (subP x here) > n1 (subP g here)) && decide (dot (subP g here) (subP x here) > 0)))) := rfl
        rw [hb] at key
        simp [at0, at1, S_cross]
        refine ⟨z1.mono (by decide), z2.mono (by decide), ?_⟩
        by_cases a1 : crs (subP g here) (subP x here) < 0
        · rw [decide_eq_true a1, Bool.true_or, if_pos rfl] at key
          rw [if_pos (show crs (g.fst - here.fst, g.snd - here.snd) (x.fst - here.fst, x.snd - here.snd) < 0 from a1)]
          exact key
        · rw [decide_eq_false a1, Bool.false_or] at key
          rw [if_neg (show ¬ crs (g.fst - here.fst, g.snd - here.snd) (x.fst - here.fst, x.snd - here.snd) < 0 from a1)]
          by_cases a2 : crs (subP g here) (subP x here) = 0
          · rw [decide_eq_true a2, Bool.true_and] at key
            rw [if_pos (show crs (g.fst - here.fst, g.snd - here.snd) (x.fst - here.fst, x.snd - here.snd) = 0 from a2)]
            by_cases a3 : n1 (subP x here) > n1 (subP g here)
            · rw [if_pos (show absI (g.fst - here.fst) + absI (g.snd - here.snd) < absI (x.fst - here.fst) + absI (x.snd - here.snd) from a3)]
              refine ⟨c1, c2, ?_⟩
              by_cases a4 : dot (subP g here) (subP x here) > 0
              · rw [if_pos (show 0 < (g.fst - here.fst) * (x.fst - here.fst) + (g.snd - here.snd) * (x.snd - here.snd) from a4)]
                rw [decide_eq_true a4, Bool.and_true] at key
                rw [if_pos (decide_eq_true a3)] at key
                exact key
              · rw [if_neg (show ¬ 0 < (g.fst - here.fst) * (x.fst - here.fst) + (g.snd - here.snd) * (x.snd - here.snd) from a4)]
                rw [decide_eq_false a4, Bool.and_false, if_neg (by decide)] at key
                exact key
            · rw [if_neg (show ¬ absI (g.fst - here.fst) + absI (g.snd - here.snd) < absI (x.fst - here.fst) + absI (x.snd - here.snd) from a3)]
              rw [if_neg (by rw [decide_eq_false a3, Bool.false_and]; decide)] at key
              exact key
          · rw [decide_eq_false a2, Bool.false_and, if_neg (by decide)] at key
            rw [if_neg (show ¬ crs (g.fst - here.fst, g.snd - here.snd) (x.fst - here.fst, x.snd - here.snd) = 0 from a2)]
            exact key
      · obtain ⟨rfl, g, t6, t7, t8, t9, t10, hg, esc, hr, rfl⟩ := hI
        have esc : g = scanG here g0 S := esc
        rw [← esc] at ew
        simp [at_tp0 h0]
        by_cases z : g = tp S 0
        · rw [if_pos z] at ew ⊢
          rw [← ew] at hlast
          simpa using hlast (.dat (pD g)) (.dat (.int (k : Nat))) (.dat (pD g)) t6 t7 t8 t9 t10 (by simp; omega)
        · rw [if_neg z] at ew ⊢
          exact hX _ _ ⟨rfl, g, found ++ [here], .dat (.int (k : Nat)), .dat (pD g), t6, t7, t8, t9, t10, hg, by simp; omega, ew, by simp⟩
  · obtain ⟨rfl, here, found, t4, t5, t6, t7, t8, t9, t10, mh, hfl, ew, rfl⟩ := hI
    have ew : found = W := ew
    subst ew
    exact hlast _ _ _ _ _ _ _ _ (by omega)
end K96

/-! KB10: promises: the law's ring. -/
namespace K96
open PySem L2 DL
def S_law_spread : SpF := fun ds Φ => as2 ds fun d e => asTP d fun P => asP e fun x => PartOk P ∧ Sz 200 x ∧ ∀ n, Bd 300 n → Φ (.int n)
theorem cl__law_spread {P : Program} {w : World} {K : PySem.W.Frag} {mg : Str → Option Value} {base : Heap} (T : Txt K mg) : Cl P w K mg base "_law_spread" 2 (spP K S_law_spread) := by
  have h__law_cross := cl__law_cross (P := P) (w := w) (base := base) T
  have hl__law_cross : 1 ≤ 1 := by decide
  refine cl_pure (k := 1) T.at__law_spread sc__law_spread (by decide) (fun ds Φ h => by obtain ⟨_, _, rfl, _⟩ := h; rfl) fun f cdv A outer s H hgd hr => ?_
  have nd := sc__law_spread.nd; have hu : (A.deeper (PyProof.Rows.envOfC "_law_spread" (defScope st__law_spread) s.heap.objs.size f cdv)).units + 65 < cLine := (by have := hr.un; omega)
  refine ⟨_, (ss_cons (s_setLc 2 [("corner", 3)] rfl nd rfl rfl rfl (i_it (v 0)) (by rfl) (fun _ _ _ _ _ => (gv 3 nd)) (fun _ _ _ _ _ => ts_nil) (fun _ _ _ _ _ => (d_call (h__law_cross.mono hl__law_cross) hgd hr rfl (a_cons (v 1) (a_cons (v 3) a_nil))))) (ss_one (s_ret (d_subA (d_fn (cr_max rfl) fd_maxL PyProof.Rows.boot_max rfl T.ml_max (a_cons (v 2) a_nil)) (d_fn (cr_min rfl) fd_minL PyProof.Rows.boot_min rfl T.ml_min (a_cons (v 2) a_nil)))))), fun b ds Φ h => ?_⟩
  obtain ⟨_, _, rfl, P, rfl, x, rfl, hP, hx, h⟩ := h
  have p10 := hP.ten
  have p3 := hP.three
  simp [ρ0, deown, wipeE]
  refine lc_map pD (fun c => .int (crs x c)) P (by rw [sl_eq]; omega) (fun c hc X hX => ?_) ?_
  · simp [S_cross]
    exact ⟨hx.mono (by decide), hP.sz (by decide) c hc, hX⟩
  · have e : P.map (fun c => PyData.int (crs x c)) = (P.map fun c => crs x c).map .int := by rw [List.map_map]; rfl
    have hb : ∀ n ∈ P.map (fun c => crs x c), Bd 250 n := fun n hn => by
      obtain ⟨c, hc, rfl⟩ := List.mem_map.mp hn
      have hs := hP.sz (n := 7) (Nat.le_refl _) c hc
      exact ((hx.1.mul hs.2).sub (hx.2.mul hs.1)).mono (by decide)
    rw [e]
    refine ⟨_, rfl, by rw [List.length_map]; omega, fun m hm _ => ?_⟩
    refine ⟨_, rfl, by rw [List.length_map]; omega, fun k hk _ => ?_⟩
    exact h _ (((hb m hm).sub (hb k hk)).mono (by decide))
def S_law_width : SpF := fun ds Φ => as2 ds fun d e => asTP d fun P => asP e fun x => PartOk P ∧ Dir x ∧ Sz 200 x ∧ ∀ p : P2, Sz 700 p → Φ (pD p)
theorem fdiv_bd {k : Nat} {a g : Int} (ha : Bd k a) (hg : 0 < g) : Bd k (a.fdiv g) := by
  refine ha.le ?_
  rw [Int.fdiv_eq_ediv_of_nonneg _ (Int.le_of_lt hg)]
  exact Int.natAbs_ediv_le_natAbs _ _
theorem cl__law_width {P : Program} {w : World} {K : PySem.W.Frag} {mg : Str → Option Value} {base : Heap} (T : Txt K mg) : Cl P w K mg base "_law_width" 3 (spP K S_law_width) := by
  have h__law_spread := cl__law_spread (P := P) (w := w) (base := base) T
  have hl__law_spread : 2 ≤ 2 := by decide
  have h__law_gcd := cl__law_gcd (P := P) (w := w) (base := base) T
  have hl__law_gcd : 1 ≤ 2 := by decide
  refine cl_pure (k := 2) T.at__law_width sc__law_width (by decide) (fun ds Φ h => by obtain ⟨_, _, rfl, _⟩ := h; rfl) fun f cdv A outer s H hgd hr => ?_
  have nd := sc__law_width.nd; have hu : (A.deeper (PyProof.Rows.envOfC "_law_width" (defScope st__law_width) s.heap.objs.size f cdv)).units + 65 < cLine := (by have := hr.un; omega)
  refine ⟨_, (ss_cons (s_par 2 3 rfl nd (a_cons (d_call (h__law_spread.mono hl__law_spread) hgd hr rfl (a_cons (v 0) (a_cons (v 1) a_nil))) (a_cons (d_addA (d_mulA (d_ix (v 1) d_int (fun _ _ => rfl)) (d_ix (v 1) d_int (fun _ _ => rfl))) (d_mulA (d_ix (v 1) d_int (fun _ _ => rfl)) (d_ix (v 1) d_int (fun _ _ => rfl)))) a_nil))) (ss_cons (ss 4 nd (d_call (h__law_gcd.mono hl__law_gcd) hgd hr rfl (a_cons (d_mulA (v 2) (v 2)) (a_cons (v 3) a_nil)))) (ss_one (s_ret (d_tup (a_cons (d_ty call_int1 fd_int PyProof.Rows.boot_int rfl T.ml_int (a_cons (d_divA (d_mulA (v 2) (v 2)) (v 4)) a_nil)) (a_cons (d_ty call_int1 fd_int PyProof.Rows.boot_int rfl T.ml_int (a_cons (d_divA (v 3) (v 4)) a_nil)) a_nil))))))), fun b ds Φ h => ?_⟩
  obtain ⟨_, _, rfl, P, rfl, x, rfl, hP, dx, hx, h⟩ := h
  simp [ρ0, S_law_spread, at0, at1]
  refine ⟨hP, hx, fun n hn => ?_⟩
  refine ⟨hx.1.cm hx.1, hx.2.cm hx.2, hn.cm hn, ?_⟩
  have hl := nrm_pos (p := x) (dir_nz dx)
  have b1 : Bd 600 (n * n) := hn.mul hn
  have b2 : Bd 401 (x.1 * x.1 + x.2 * x.2) := (hx.1.mul hx.1).add (hx.2.mul hx.2)
  have hg : 0 < gcdI (n * n) (x.1 * x.1 + x.2 * x.2) := gcdI_pos (fun z => by omega)
  have hgb : Bd 600 (gcdI (n * n) (x.1 * x.1 + x.2 * x.2)) := gcd_bd (fun z => by omega) b1 (b2.mono (by decide))
  have c1 : ∀ y, CDivA y (gcdI (n * n) (x.1 * x.1 + x.2 * x.2)) := fun y => cdiv hgb (by decide) (by omega)
  simp [S_law_gcd, c1]
  refine ⟨b1.mono (by decide), b2.mono (by decide), hn.cm hn, ?_⟩
  exact h (_, _) ⟨(fdiv_bd b1 hg).mono (by decide), (fdiv_bd b2 hg).mono (by decide)⟩
def S_law_wider : SpF := fun ds Φ => as2 ds fun d e => asP d fun p => asP e fun q => Sz 700 p ∧ Sz 700 q ∧ ∀ k, Φ (.bool k)
theorem cl__law_wider {P : Program} {w : World} {K : PySem.W.Frag} {mg : Str → Option Value} {base : Heap} (T : Txt K mg) : Cl P w K mg base "_law_wider" 1 (spP K S_law_wider) := by
  refine cl_pure (k := 0) T.at__law_wider sc__law_wider (by decide) (fun ds Φ h => by obtain ⟨_, _, rfl, _⟩ := h; rfl) fun f cdv A outer s H hgd hr => ?_
  have nd := sc__law_wider.nd; have hu : (A.deeper (PyProof.Rows.envOfC "_law_wider" (defScope st__law_wider) s.heap.objs.size f cdv)).units + 65 < cLine := (by have := hr.un; omega)
  refine ⟨_, (ss_one (s_ret (dc_gt (d_mulA (d_ix (v 0) d_int (fun _ _ => rfl)) (d_ix (v 1) d_int (fun _ _ => rfl))) (d_mulA (d_ix (v 1) d_int (fun _ _ => rfl)) (d_ix (v 0) d_int (fun _ _ => rfl)))))), fun b ds Φ h => ?_⟩
  obtain ⟨_, _, rfl, p, rfl, q, rfl, hp, hq, h⟩ := h
  simp [ρ0, at0, at1]
  exact ⟨hp.1.cm hq.2, hq.1.cm hp.2, h _⟩
def S_law_side_ways : SpF := fun ds Φ => as1 ds fun d => asTP d fun P => PartOk P ∧ Φ (.list ((ways P).map pD))
theorem zip_sides {P : List P2} (h : 1 ≤ P.length) : zipD (P.map pD) ((P.map pD).drop 1 ++ (P.map pD).take 1) = (List.range P.length).map fun a => .tuple [pD (tp P a), pD (tp P (nx P.length a))] := by
  apply List.ext_getElem?
  intro i
  rw [List.getElem?_map]
  by_cases hi : i < P.length
  · rw [List.getElem?_range hi]
    refine zipD_get (by rw [List.getElem?_map, tp_get' hi]; rfl) ?_
    unfold nx
    by_cases z : i + 1 = P.length
    · rw [if_pos z, List.getElem?_append_right (by simp; omega)]
      simp only [List.length_drop, List.length_map]
      rw [show i - (P.length - 1) = 0 by omega, List.getElem?_take, if_pos (by decide), List.getElem?_map, tp_get' (by omega)]; rfl
    · rw [if_neg z, List.getElem?_append_left (by simp; omega), List.getElem?_drop, List.getElem?_map, Nat.add_comm 1 i, tp_get' (by omega)]; rfl
  · have l1 : (zipD (P.map pD) ((P.map pD).drop 1 ++ (P.map pD).take 1))[i]? = none := List.getElem?_eq_none (by
      unfold zipD
      simp only [List.length_zipWith, List.length_map, List.length_append, List.length_drop, List.length_take]
      omega)
    have l2 : (List.range P.length)[i]? = none := List.getElem?_eq_none (by rw [List.length_range]; omega)
    rw [l1, l2]; rfl
theorem sd_sz {P : List P2} (hP : PartOk P) {a : Nat} (ha : a < P.length) : Bd 8 (sd P a).1 ∧ Bd 8 (sd P a).2 := by
  have h1 := hP.sz (n := 7) (Nat.le_refl _) _ (tp_mem' ha)
  have h2 := hP.sz (n := 7) (Nat.le_refl _) _ (tp_mem' (nx_lt ha))
  exact ⟨h2.1.sub h1.1, h2.2.sub h1.2⟩
theorem cl__law_side_ways {P : Program} {w : World} {K : PySem.W.Frag} {mg : Str → Option Value} {base : Heap} (T : Txt K mg) : Cl P w K mg base "_law_side_ways" 3 (spP K S_law_side_ways) := by
  have h__law_in_order := cl__law_in_order (P := P) (w := w) (base := base) T
  have hl__law_in_order : 2 ≤ 2 := by decide
  have h__law_direction := cl__law_direction (P := P) (w := w) (base := base) T
  have hl__law_direction : 2 ≤ 2 := by decide
  refine cl_pure (k := 2) T.at__law_side_ways sc__law_side_ways (by decide) (fun ds Φ h => by obtain ⟨_, rfl, _⟩ := h; rfl) fun f cdv A outer s H hgd hr => ?_
  have nd := sc__law_side_ways.nd; have hu : (A.deeper (PyProof.Rows.envOfC "_law_side_ways" (defScope st__law_side_ways) s.heap.objs.size f cdv)).units + 65 < cLine := (by have := hr.un; omega)
  refine ⟨_, (ss_one (s_ret (d_call (h__law_in_order.mono hl__law_in_order) hgd hr rfl (a_cons (d_lc [("one", 1), ("other", 2)] rfl nd (i_zip rfl T.ml_zip (a_cons (v 0) (a_cons (d_addA (d_slice (v 0) (o_some d_int) o_none) (d_slice (v 0) o_none (o_some d_int))) a_nil))) (by rfl) (fun _ _ _ _ _ => (g_tup (n := 2) rfl (g_cons (gv 1 nd) (g_cons (gv 2 nd) g_nil)))) (fun _ _ _ _ _ => ts_nil) (fun _ _ _ _ _ => (d_call (h__law_direction.mono hl__law_direction) hgd hr rfl (a_cons (d_subA (d_ix (v 2) d_int (fun _ _ => rfl)) (d_ix (v 1) d_int (fun _ _ => rfl))) (a_cons (d_subA (d_ix (v 2) d_int (fun _ _ => rfl)) (d_ix (v 1) d_int (fun _ _ => rfl))) a_nil))))) a_nil)))), fun b ds Φ h => ?_⟩
  obtain ⟨_, rfl, P, rfl, hP, h⟩ := h
  have p10 := hP.ten
  have p3 := hP.three
  have et : tP P = .tuple (P.map pD) := rfl
  rw [et]
  have s1 : HT.sIx P.length 0 (some 1) = 1 := by have := HT.sIx_nat P.length 0 1; rw [Nat.min_eq_left (by omega)] at this; exact this
  have s2 : HT.sIx P.length P.length (some 1) = 1 := by have := HT.sIx_nat P.length P.length 1; rw [Nat.min_eq_left (by omega)] at this; exact this
  have k1 : cutD (P.map pD) (some 1) none = (P.map pD).drop 1 := cut_drop (k := 1)
  have k2 : cutD (P.map pD) none (some 1) = (P.map pD).take 1 := cut_take (k := 1)
  have n1 : ¬ P = [] := fun e => by rw [e] at p3; simp at p3
  simp only [ρ0]
  simp [deown, wipeE, s1, s2, k1, k2, HT.sIx_none]
  have zs := zip_sides (P := P) (by omega)
  rw [List.drop_one] at zs
  rw [zs]
  have nt : ¬ (P.map pD).tail = [] := fun e => by have := congrArg List.length e; simp at this; omega
  refine ⟨by omega, nt, by omega, ?_⟩
  refine lc_map (fun a : Nat => PyData.tuple [pD (tp P a), pD (tp P (nx P.length a))]) (fun a => pD (dirn (sd P a).1 (sd P a).2)) (List.range P.length) (by rw [sl_eq, List.length_range]; omega) (fun a ha X hX => ?_) ?_
  · have ha := List.mem_range.mp ha
    obtain ⟨b1, b2⟩ := sd_sz hP ha
    simp [at0, at1, S_direction]
    refine ⟨fun z1 z2 => sd_nz hP.three hP.inj ha ⟨z1, z2⟩, b1.mono (by decide), b2.mono (by decide), hX⟩
  · have e : (List.range P.length).map (fun a => pD (dirn (sd P a).1 (sd P a).2)) = ((List.range P.length).map fun a => dirn (sd P a).1 (sd P a).2).map pD := by rw [List.map_map]; rfl
    rw [e]
    simp only [S_in_order, as1_b, asLP_b]
    refine ⟨by rw [List.length_map, List.length_range]; omega, fun p hp => ?_, h⟩
    obtain ⟨a, ha, rfl⟩ := List.mem_map.mp hp
    have ha := List.mem_range.mp ha
    obtain ⟨b1, b2⟩ := sd_sz hP ha
    exact (dirn_sz (sd_nz hP.three hP.inj ha) b1 b2).mono (by decide)
end K96

/-! KB11: promises: the law's ring. -/
namespace K96
open PySem L2 DL
def encC (d : P2) (c : P2) : D := .tuple [.int (crs d c), pD c]
theorem encC_inj {d c e : P2} (h : encC d c = encC d e) : c = e := by
  unfold encC at h
  injection h with h; injection h with _ h; injection h with h _
  exact pD_inj h
theorem alike_C (d c e : P2) : PySem.W.alike (encC d c) (encC d e) = true := by simp [encC, pD, PySem.W.alike, PySem.W.alikeAll]
theorem dle_C {d c e : P2} (h : PySem.W.dataLe false id (encC d c) (encC d e) = true) : crs d c ≤ crs d e := by
  apply Int.not_lt.mp
  intro hlt
  have h : (!PySem.W.dataLt (encC d e) (encC d c)) = true := h
  unfold encC at h
  rw [PySem.W.dataLt_pair (by simp [PySem.W.alike]) (by simp [pD, PySem.W.alike, PySem.W.alikeAll]), PySem.W.dataLt_int] at h
  rw [if_neg (by rw [ev_int]; simp; omega)] at h
  simp at h
  omega
theorem srt_ends {P : List P2} (d : P2) (h : 0 < P.length) : ∃ c0 c1, c0 ∈ P ∧ c1 ∈ P ∧ atI (srtD (P.map (encC d))) 0 = some (encC d c0) ∧ (∀ c ∈ P, crs d c0 ≤ crs d c) ∧ atI (srtD (P.map (encC d))) (-1) = some (encC d c1) ∧ (∀ c ∈ P, crs d c ≤ crs d c1) := by
  have hp : (srtD (P.map (encC d))).Pairwise (fun a c => PySem.W.dataLe false id a c = true) := PySem.W.sort_pairwise (PySem.W.sortLe_total _ _ _) _
  have hm : ∀ y, y ∈ srtD (P.map (encC d)) ↔ ∃ c ∈ P, encC d c = y := fun y => by unfold srtD; rw [List.mem_mergeSort, List.mem_map]
  have hl : (srtD (P.map (encC d))).length = P.length := by unfold srtD; rw [List.length_mergeSort, List.length_map]
  generalize srtD (P.map (encC d)) = S at hp hm hl
  have hne : S ≠ [] := fun e => by rw [e] at hl; simp at hl; omega
  obtain ⟨y, S', e1⟩ := List.exists_cons_of_ne_nil hne
  have e2 : S = S.dropLast ++ [S.getLast hne] := (List.dropLast_concat_getLast hne).symm
  obtain ⟨c0, m0, r0⟩ := (hm y).mp (by rw [e1]; simp)
  obtain ⟨c1, m1, r1⟩ := (hm (S.getLast hne)).mp (List.getLast_mem hne)
  refine ⟨c0, c1, m0, m1, by rw [e1, at0, r0], fun c hc => ?_, by rw [e2, at_last, r1], fun c hc => ?_⟩
  · have mc := (hm (encC d c)).mpr ⟨c, hc, rfl⟩
    rw [e1] at mc hp
    rcases List.mem_cons.mp mc with z | z
    · rw [encC_inj (z.trans r0.symm)]; exact Int.le_refl _
    · have := (List.pairwise_cons.mp hp).1 _ z
      rw [← r0] at this
      exact dle_C this
  · have mc := (hm (encC d c)).mpr ⟨c, hc, rfl⟩
    rw [e2] at mc hp
    rcases List.mem_append.mp mc with z | z
    · have := (List.pairwise_append.mp hp).2.2 _ z (S.getLast hne) (by simp)
      rw [← r1] at this
      exact dle_C this
    · rw [encC_inj ((List.mem_singleton.mp z).trans r1.symm)]; exact Int.le_refl _
theorem crs_subP (d p q : P2) : crs d (subP p q) = crs d p - crs d q := by unfold crs subP; grind
/-- a lowest corner is below all -/
theorem min_low {P : List P2} (h : Cvx P) (h3 : 3 ≤ P.length) {d : P2} (nf : ∀ a, a < P.length → crs d (sd P a) ≠ 0) {i : Nat} (hi : i < P.length) (hm : ∀ j, j < P.length → crs d (tp P i) ≤ crs d (tp P j)) : Low P d i := by
  intro j hj hne
  refine h.low h3 hi hj hne ?_ ?_
  · have n1 := nf i hi
    have := hm _ (nx_lt hi)
    unfold sd at n1
    rw [crs_subP] at n1 ⊢
    omega
  · have n1 := nf _ (pv_lt hi)
    have := hm _ (pv_lt hi)
    unfold sd at n1
    rw [nx_pv hi, crs_subP] at n1
    rw [crs_subP]
    omega
theorem max_top {P : List P2} (h : Cvx P) (h3 : 3 ≤ P.length) {d : P2} (nf : ∀ a, a < P.length → crs d (sd P a) ≠ 0) {i : Nat} (hi : i < P.length) (hm : ∀ j, j < P.length → crs d (tp P j) ≤ crs d (tp P i)) : Top P d i := by
  intro j hj hne
  refine h.top h3 hi hj hne ?_ ?_
  · have n1 := nf i hi
    have := hm _ (nx_lt hi)
    unfold sd at n1
    rw [crs_subP] at n1 ⊢
    omega
  · have n1 := nf _ (pv_lt hi)
    have := hm _ (pv_lt hi)
    unfold sd at n1
    rw [nx_pv hi, crs_subP] at n1
    rw [crs_subP]
    omega
theorem low_one {P : List P2} {d : P2} {i j : Nat} (hi : i < P.length) (hj : j < P.length) (a : Low P d i) (c : Low P d j) : i = j := by
  apply Classical.byContradiction
  intro h
  have h1 := a j hj (fun e => h e.symm)
  have h2 := c i hi h
  rw [crs_subP] at h1 h2
  omega
theorem top_one {P : List P2} {d : P2} {i j : Nat} (hi : i < P.length) (hj : j < P.length) (a : Top P d i) (c : Top P d j) : i = j := by
  apply Classical.byContradiction
  intro h
  have h1 := a j hj (fun e => h e.symm)
  have h2 := c i hi h
  rw [crs_subP] at h1 h2
  omega
def midW (W : List P2) (k : Nat) : P2 := betw (tp W k) (tp W ((k + 1) % W.length))
open Classical in
/-- the corner that is lowest, highest along a way -/
noncomputable def loC (P : List P2) (d : P2) : P2 := if h : ∃ m, m < P.length ∧ Low P d m then tp P h.choose else (0, 0)
open Classical in
noncomputable def hiC (P : List P2) (d : P2) : P2 := if h : ∃ m, m < P.length ∧ Top P d m then tp P h.choose else (0, 0)
theorem loC_eq {P : List P2} {d : P2} {m : Nat} (hm : m < P.length) (h : Low P d m) : loC P d = tp P m := by
  have e : ∃ m, m < P.length ∧ Low P d m := ⟨m, hm, h⟩
  unfold loC
  rw [dif_pos e, low_one e.choose_spec.1 hm e.choose_spec.2 h]
theorem hiC_eq {P : List P2} {d : P2} {m : Nat} (hm : m < P.length) (h : Top P d m) : hiC P d = tp P m := by
  have e : ∃ m, m < P.length ∧ Top P d m := ⟨m, hm, h⟩
  unfold hiC
  rw [dif_pos e, top_one e.choose_spec.1 hm e.choose_spec.2 h]
noncomputable def fT (P : List P2) (k : Nat) : P2 := dirn ((loC P (midW (ways P) k)).2 - (hiC P (midW (ways P) k)).2) ((hiC P (midW (ways P) k)).1 - (loC P (midW (ways P) k)).1)
section
variable {P : List P2} (hP : PartOk P)
include hP
theorem ways_sz : ∀ w ∈ ways P, Sz 8 w := fun w hw => by
  obtain ⟨a, ha, rfl⟩ := mem_ways.mp hw
  obtain ⟨b1, b2⟩ := sd_sz hP ha
  exact dirn_sz (sd_nz hP.three hP.inj ha) b1 b2
theorem ways_few : (ways P).length ≤ 10 := by
  have := lawOrd_len ((List.range P.length).map (fun a => dirn (sd P a).1 (sd P a).2))
  rw [List.length_map, List.length_range] at this
  have := hP.ten
  unfold ways; omega
theorem mid_ok' {k : Nat} (hk : k < (ways P).length) : Dir (midW (ways P) k) ∧ Sz 28 (midW (ways P) k) ∧ ∀ a, a < P.length → crs (midW (ways P) k) (sd P a) ≠ 0 := by
  have w0 := ways_pos hP.three
  have ws := ways_srt hP.three hP.inj
  have wl := ways_dir hP.three hP.inj
  have m1 := tp_mem hk
  have m2 := tp_mem (l := ways P) (i := (k + 1) % (ways P).length) (Nat.mod_lt _ w0)
  have hd := betw_dir (wl _ m1) (wl _ m2)
  refine ⟨hd, (betw_sz (wl _ m1) (wl _ m2) (ways_sz hP _ m1) (ways_sz hP _ m2)).mono (by decide), ?_⟩
  have := (up_room ws wl hd hk (betw_amid (wl _ m1) (wl _ m2))).2
  exact fun a ha => not_way_nz hP.three hP.inj hd this ha
/-- what the sorted rows tell -/
theorem ends_ok {k : Nat} (hk : k < (ways P).length) {c0 c1 : P2} (m0 : c0 ∈ P) (m1 : c1 ∈ P) (h0 : ∀ c ∈ P, crs (midW (ways P) k) c0 ≤ crs (midW (ways P) k) c) (h1 : ∀ c ∈ P, crs (midW (ways P) k) c ≤ crs (midW (ways P) k) c1) :
    loC P (midW (ways P) k) = c0 ∧ hiC P (midW (ways P) k) = c1 ∧ ¬ (c0.2 - c1.2 = 0 ∧ c1.1 - c0.1 = 0) := by
  obtain ⟨_, _, nf⟩ := mid_ok' hP hk
  obtain ⟨i, hi, rfl⟩ := mem_tp' m0
  obtain ⟨j, hj, rfl⟩ := mem_tp' m1
  have l1 := min_low hP.cvx hP.three nf hi (fun a ha => h0 _ (tp_mem' ha))
  have t1 := max_top hP.cvx hP.three nf hj (fun a ha => h1 _ (tp_mem' ha))
  refine ⟨loC_eq hi l1, hiC_eq hj t1, fun ⟨z1, z2⟩ => ?_⟩
  have : i = j := hP.inj i j hi hj (Prod.ext (by omega) (by omega))
  subst this
  have p3 := hP.three
  have : ∃ a, a < P.length ∧ a ≠ i := by
    by_cases z : i = 0
    · exact ⟨1, by omega, by omega⟩
    · exact ⟨0, by omega, fun e => z e.symm⟩
  obtain ⟨a, ha, hne⟩ := this
  have := l1 a ha hne
  have := t1 a ha hne
  omega
theorem fT_ok {k : Nat} (hk : k < (ways P).length) : Dir (fT P k) ∧ Sz 8 (fT P k) := by
  obtain ⟨c0, c1, m0, m1, _, h0, _, h1⟩ := srt_ends (P := P) (midW (ways P) k) (by have := hP.three; omega)
  obtain ⟨e0, e1, hn⟩ := ends_ok hP hk m0 m1 h0 h1
  unfold fT
  rw [e0, e1]
  have s0 := hP.sz (n := 7) (Nat.le_refl _) c0 m0
  have s1 := hP.sz (n := 7) (Nat.le_refl _) c1 m1
  exact ⟨dirn_dir hn, dirn_sz hn (s0.2.sub s1.2) (s1.1.sub s0.1)⟩
theorem ups_pos : 0 < (ups (ways P) (fT P)).length := by
  refine top_some hP.cvx hP.three hP.inj (fT P) fun k hk i m hi hm ht hl => ?_
  unfold fT
  have e1 : hiC P (midW (ways P) k) = tp P i := hiC_eq hi ht
  have e2 : loC P (midW (ways P) k) = tp P m := loC_eq hm hl
  rw [e1, e2]
theorem ups_ok : (∀ u ∈ ups (ways P) (fT P), Dir u ∧ Sz 8 u) ∧ (ups (ways P) (fT P)).length ≤ 10 := by
  constructor
  · intro u hu
    obtain ⟨k, hk, _, rfl⟩ := mem_ups.mp hu
    exact fT_ok hP hk
  · have h1 := lawOrd_len (upsRaw (ways P) (fT P))
    have h2 : (upsRaw (ways P) (fT P)).length ≤ (ways P).length := by
      unfold upsRaw
      rw [List.length_map]
      have := List.length_filter_le (fun k => decide (amid (tp (ways P) k) (tp (ways P) ((k + 1) % (ways P).length)) (fT P k))) (List.range (ways P).length)
      rwa [List.length_range] at this
    have := ways_few hP
    unfold ups; omega
/-- a ring over the tops -/
theorem ring_RG {R : Ring} (h1 : tops R = ups (ways P) (fT P)) (h2 : ∀ k, k < R.length → (rt R k).2 ∈ ways P ∧ amid (tp (tops R) k) (tp (tops R) ((k + 1) % R.length)) (rt R k).2) : RG R := by
  obtain ⟨u1, u2⟩ := ups_ok hP
  have hl : R.length = (ups (ways P) (fT P)).length := by rw [← h1, tops_len]
  refine ⟨ring_good (W := ways P) (f := fT P) (ways_srt hP.three hP.inj) (ways_dir hP.three hP.inj) (fun k hk => (fT_ok hP hk).1) ⟨h1, fun k hk => ⟨(rt R k).2, ?_, h2 k hk⟩⟩ (ups_pos hP), fun a ha => ?_, by omega⟩
  · rw [List.getElem?_map, rt_get hk]; rfl
  · obtain ⟨k, hk, e⟩ := List.getElem_of_mem ha
    have e' : rt R k = a := rt_of (by rw [List.getElem?_eq_getElem hk, e])
    have m1 : a.1 ∈ ups (ways P) (fT P) := by rw [← h1]; exact List.mem_map.mpr ⟨a, ha, rfl⟩
    have m2 := (h2 k hk).1
    rw [e'] at m2
    exact ⟨(u1 _ m1).2.mono (by decide), (ways_sz hP _ m2).mono (by decide)⟩
end
end K96

/-! KB12: promises: the law's ring. -/
namespace K96
open PySem L2 DL
/-- each rest lies between its tops -/
def Mids (R : Ring) : Prop := ∀ k, k < R.length → amid (rt R k).1 (rt R ((k + 1) % R.length)).1 (rt R k).2
def S_law_ring : SpF := fun ds Φ => as1 ds fun d => asTP d fun P => PartOk P ∧ ∀ R, RG R → Mids R → Φ (rD R)
theorem alikeC (P : List P2) (d : P2) : PySem.W.AllAlike (P.map (encC d)) := fun x hx y hy => by
  obtain ⟨a, _, rfl⟩ := List.mem_map.mp hx
  obtain ⟨c, _, rfl⟩ := List.mem_map.mp hy
  exact alike_C d a c
theorem sortC (P : List P2) (d : P2) : PySem.W.Sortable (P.map (encC d)) := .inl fun x hx => by
  obtain ⟨a, _, rfl⟩ := List.mem_map.mp hx
  exact ⟨_, _, rfl⟩
theorem depthC (P : List P2) (d : P2) : ∀ x ∈ P.map (encC d), x.depth ≤ 60 := fun x hx => by
  obtain ⟨a, _, rfl⟩ := List.mem_map.mp hx
  unfold encC
  simp [PyData.depth, PyData.depthAll]
noncomputable def rawN (P : List P2) (q : List Nat) : List P2 := (q.filter fun k => decide (amid (tp (ways P) k) (tp (ways P) ((k + 1) % (ways P).length)) (fT P k))).map (fT P)
theorem rawN_snoc (P : List P2) (q : List Nat) (k : Nat) : rawN P (q ++ [k]) = rawN P q ++ (if amid (tp (ways P) k) (tp (ways P) ((k + 1) % (ways P).length)) (fT P k) then [fT P k] else []) := by
  unfold rawN
  rw [List.filter_append, List.map_append]
  congr 1
  by_cases h : amid (tp (ways P) k) (tp (ways P) ((k + 1) % (ways P).length)) (fT P k)
  · simp [h]
  · simp [h]
theorem rawN_len (P : List P2) (q : List Nat) : (rawN P q).length ≤ q.length := by
  unfold rawN; rw [List.length_map]; exact List.length_filter_le ..
theorem encC_eq {d c : P2} : PyData.tuple [.int (crs d c), .tuple [.int c.1, .int c.2]] = encC d c := rfl
@[simp] theorem encC_0 {d c : P2} {Φ : D → Prop} : oIxA (encC d c) (.int 1) Φ ↔ Φ (pD c) := by unfold encC; simp [at1]
theorem cl__law_ring {P : Program} {w : World} {K : PySem.W.Frag} {mg : Str → Option Value} {base : Heap} (T : Txt K mg) : Cl P w K mg base "_law_ring" 6 (spP K S_law_ring) := by
  have h__law_side_ways := cl__law_side_ways (P := P) (w := w) (base := base) T
  have hl__law_side_ways : 3 ≤ 5 := by decide
  have h__law_between := cl__law_between (P := P) (w := w) (base := base) T
  have hl__law_between : 5 ≤ 5 := by decide
  have h__law_cross := cl__law_cross (P := P) (w := w) (base := base) T
  have hl__law_cross : 1 ≤ 5 := by decide
  have h__law_direction := cl__law_direction (P := P) (w := w) (base := base) T
  have hl__law_direction : 2 ≤ 5 := by decide
  have h__law_amid := cl__law_amid (P := P) (w := w) (base := base) T
  have hl__law_amid : 5 ≤ 5 := by decide
  have h__law_in_order := cl__law_in_order (P := P) (w := w) (base := base) T
  have hl__law_in_order : 2 ≤ 5 := by decide
  have h__law_wider := cl__law_wider (P := P) (w := w) (base := base) T
  have hl__law_wider : 1 ≤ 5 := by decide
  have h__law_width := cl__law_width (P := P) (w := w) (base := base) T
  have hl__law_width : 3 ≤ 5 := by decide
  refine cl_pure (k := 5) T.at__law_ring sc__law_ring (by decide) (fun ds Φ h => by obtain ⟨_, rfl, _⟩ := h; rfl) fun f cdv A outer s H hgd hr => ?_
  have nd := sc__law_ring.nd; have hu : (A.deeper (PyProof.Rows.envOfC "_law_ring" (defScope st__law_ring) s.heap.objs.size f cdv)).units + 65 < cLine := (by have := hr.un; omega)
  refine ⟨_, (ss_cons (s_parO2 1 2 rfl nd (d_call (h__law_side_ways.mono hl__law_side_ways) hgd hr rfl (a_cons (v 0) a_nil))) (ss_cons (s_for PassesOwn.never rfl (i_rg1 rfl T.ml_range (a_cons (d_fn call_len fd_len boot_len rfl T.ml_len (a_cons (v 1) a_nil)) a_nil)) (gv 3 nd) (ss_cons (s_asg (d_tup (a_cons (d_ix (v 1) (v 3) (fun _ _ => rfl)) (a_cons (d_ix (v 1) (d_modA (d_ty call_int1 fd_int PyProof.Rows.boot_int rfl T.ml_int (a_cons (d_addA (v 3) d_int) a_nil)) (d_fn call_len fd_len boot_len rfl T.ml_len (a_cons (v 1) a_nil))) (fun _ _ => rfl)) a_nil))) (g_tup (n := 2) rfl (g_cons (gv 4 nd) (g_cons (gv 5 nd) g_nil)))) (ss_cons (ss 6 nd (d_call (h__law_between.mono hl__law_between) hgd hr rfl (a_cons (v 4) (a_cons (v 5) a_nil)))) (ss_cons (ss 7 nd (d_fn (cr_sortD hu) fd_sortD PyProof.Rows.boot_sorted rfl T.ml_sorted (a_cons (d_lc [("corner", 8)] rfl nd (i_it (v 0)) (by rfl) (fun _ _ _ _ _ => (gv 8 nd)) (fun _ _ _ _ _ => ts_nil) (fun _ _ _ _ _ => (d_tup (a_cons (d_call (h__law_cross.mono hl__law_cross) hgd hr rfl (a_cons (v 6) (a_cons (v 8) a_nil))) (a_cons (v 8) a_nil))))) a_nil))) (ss_cons (s_par 9 10 rfl nd (a_cons (d_ix (d_ix (v 7) d_int (fun _ _ => rfl)) d_int (fun _ _ => rfl)) (a_cons (d_ix (d_ix (v 7) (d_neg d_int) (fun _ _ => rfl)) d_int (fun _ _ => rfl)) a_nil))) (ss_cons (ss 11 nd (d_call (h__law_direction.mono hl__law_direction) hgd hr rfl (a_cons (d_subA (d_ix (v 9) d_int (fun _ _ => rfl)) (d_ix (v 10) d_int (fun _ _ => rfl))) (a_cons (d_subA (d_ix (v 10) d_int (fun _ _ => rfl)) (d_ix (v 9) d_int (fun _ _ => rfl))) a_nil)))) (ss_one (s_extend 2 rfl (by first | exact Or.inl rfl | exact Or.inr (Or.inl rfl)) (a_cons (d_if (t_val (d_call (h__law_amid.mono hl__law_amid) hgd hr rfl (a_cons (v 4) (a_cons (v 5) (a_cons (v 11) a_nil))))) (d_lst (a_cons (v 11) a_nil)) (d_lst a_nil)) a_nil))))))))) (ss_cons (s_frz 2 (s_parO2 2 12 rfl nd (d_call (h__law_in_order.mono hl__law_in_order) hgd hr rfl (a_cons (v 2) a_nil)))) (ss_cons (s_for PassesOwn.never rfl (i_rg1 rfl T.ml_range (a_cons (d_fn call_len fd_len boot_len rfl T.ml_len (a_cons (v 2) a_nil)) a_nil)) (gv 3 nd) (ss_cons (s_asg (d_tup (a_cons (d_ix (v 2) (v 3) (fun _ _ => rfl)) (a_cons (d_ix (v 2) (d_modA (d_ty call_int1 fd_int PyProof.Rows.boot_int rfl T.ml_int (a_cons (d_addA (v 3) d_int) a_nil)) (d_fn call_len fd_len boot_len rfl T.ml_len (a_cons (v 2) a_nil))) (fun _ _ => rfl)) a_nil))) (g_tup (n := 2) rfl (g_cons (gv 4 nd) (g_cons (gv 5 nd) g_nil)))) (ss_cons (s_setLc 13 [("way", 14)] rfl nd rfl rfl rfl (i_it (v 1)) (by rfl) (fun _ _ _ _ _ => (gv 14 nd)) (fun _ _ _ _ _ => (ts_one (t_val (d_call (h__law_amid.mono hl__law_amid) hgd hr rfl (a_cons (v 4) (a_cons (v 5) (a_cons (v 14) a_nil))))))) (fun _ _ _ _ _ => (v 14))) (ss_cons (ss 15 nd (d_ix (v 13) d_int (fun _ _ => rfl))) (ss_cons (s_for PassesOwn.never rfl (i_it (v 13)) (gv 14 nd) (ss_one (ss 15 nd (d_if (t_val (d_call (h__law_wider.mono hl__law_wider) hgd hr rfl (a_cons (d_call (h__law_width.mono hl__law_width) hgd hr rfl (a_cons (v 0) (a_cons (v 15) a_nil))) (a_cons (d_call (h__law_width.mono hl__law_width) hgd hr rfl (a_cons (v 0) (a_cons (v 14) a_nil))) a_nil)))) (v 14) (v 15))))) (ss_one (s_append 12 rfl (by first | exact Or.inl rfl | exact Or.inr (Or.inl rfl)) (a_cons (d_tup (a_cons (v 4) (a_cons (v 15) a_nil))) a_nil)))))))) (ss_one (s_frz 12 (s_ret (d_ty call_tuple_of fd_tuple PyProof.Rows.boot_tuple rfl T.ml_tuple (a_cons (v 12) a_nil))))))))), fun b ds Φ h => ?_⟩
  obtain ⟨_, rfl, P, rfl, hP, h⟩ := h
  have p10 := hP.ten
  have p3 := hP.three
  have w0 := ways_pos hP.three
  have w10 := ways_few hP
  have wl := ways_dir hP.three hP.inj
  have wz := ways_sz hP
  have hw0 : ¬ ways P = [] := fun e => by rw [e] at w0; simp at w0
  simp [ρ0, S_law_side_ways, rg_map]
  refine ⟨hP, fun p => ⟨by omega, ?_⟩⟩
  refine for_l (fun k : Nat => PyData.int (k : Int)) (fun r ρ b' => ∃ q t3 t4 t5 t6 t7 t9 t10 t11, List.range (ways P).length = q ++ r ∧ ρ = [.dat (tP P), .dat (.list ((ways P).map pD)), .own p (.list ((rawN P q).map pD)), t3, t4, t5, t6, t7, .no, t9, t10, t11, .no, .no, .no, .no]) (fun k r ρ b' hI X hX => ?_) (fun ρ b' hI => ?_) (List.range (ways P).length) _ _ ⟨[], .no, .no, .no, .no, .no, .no, .no, .no, rfl, rfl⟩
  · obtain ⟨q, t3, t4, t5, t6, t7, t9, t10, t11, e, rfl⟩ := hI
    obtain ⟨hk, hq, hlt⟩ := range_at e
    have m1 := tp_mem hlt
    have m2 := tp_mem (l := ways P) (i := (k + 1) % (ways P).length) (Nat.mod_lt _ w0)
    have hql : q.length ≤ 10 := by omega
    have hrl := rawN_len P q
    have ea := at_tp hlt
    have ea2 : atI ((ways P).map pD) (((k + 1) % (ways P).length : Nat) : Int) = some (pD (tp (ways P) ((k + 1) % (ways P).length))) := at_tp (Nat.mod_lt _ w0)
    have ea3 : atI ((ways P).map pD) (((k : Int) + 1).fmod ((ways P).length : Int)) = some (pD (tp (ways P) ((k + 1) % (ways P).length))) := by
      have efm : (((k : Int) + 1).fmod ((ways P).length : Int)) = (((k + 1) % (ways P).length : Nat) : Int) := fmod_nat (k + 1) (ways P).length
      rw [efm]; exact ea2
    obtain ⟨md1, md2, md3⟩ := mid_ok' hP hlt
    simp [hw0, ea3, ea, S_between, deown, wipeE]
    refine ⟨wl _ m1, wl _ m2, (wz _ m1).mono (by decide), (wz _ m2).mono (by decide), ?_⟩
    have emid : betw (tp (ways P) k) (tp (ways P) ((k + 1) % (ways P).length)) = midW (ways P) k := rfl
    rw [emid]
    refine lc_map pD (encC (midW (ways P) k)) P (by rw [sl_eq]; omega) (fun c hc X hX => ?_) ?_
    · simp [S_cross]
      exact ⟨md2.mono (by decide), hP.sz (by decide) c hc, hX⟩
    · obtain ⟨c0, c1, n0, n1, a0, g0, a1, g1⟩ := srt_ends (P := P) (midW (ways P) k) (by omega)
      obtain ⟨x0, x1, xn⟩ := ends_ok hP hlt n0 n1 g0 g1
      have s0 := hP.sz (n := 7) (Nat.le_refl _) c0 n0
      have s1 := hP.sz (n := 7) (Nat.le_refl _) c1 n1
      refine ⟨P.map (encC (midW (ways P) k)), rfl, alikeC P _, sortC P _, depthC P _, ?_⟩
      simp [a0, a1, at0, at1, S_direction]
      have ef : dirn (c0.2 - c1.2) (c1.1 - c0.1) = fT P k := by unfold fT; rw [x0, x1]
      obtain ⟨f1, f2⟩ := fT_ok hP hlt
      refine ⟨fun z1 z2 => xn ⟨z1, z2⟩, (s0.2.sub s1.2).mono (by decide), (s1.1.sub s0.1).mono (by decide), ?_⟩
      rw [ef]
      simp [S_is_amid]
      refine ⟨wl _ m1, wl _ m2, f1, (wz _ m1).mono (by decide), (wz _ m2).mono (by decide), f2.mono (by decide), ?_⟩
      have key := hX [.dat (tP P), .dat (.list ((ways P).map pD)), .own p (.list ((rawN P (q ++ [k])).map pD)), .dat (.int (k : Nat)), .dat (pD (tp (ways P) k)), .dat (pD (tp (ways P) ((k + 1) % (ways P).length))), .dat (pD (midW (ways P) k)), .dat (.list (srtD (P.map (encC (midW (ways P) k))))), .no, .dat (pD c0), .dat (pD c1), .dat (pD (fT P k)), .no, .no, .no, .no] b' ⟨q ++ [k], _, _, _, _, _, _, _, _, by rw [e]; simp, rfl⟩
      rw [rawN_snoc] at key
      by_cases z : amid (tp (ways P) k) (tp (ways P) ((k + 1) % (ways P).length)) (fT P k)
      · rw [if_pos z] at key ⊢
        refine ⟨by (try simp); omega, ?_⟩
        simpa using key
      · rw [if_neg z] at key ⊢
        refine ⟨by (try simp); omega, ?_⟩
        simpa using key
  · obtain ⟨q, t3, t4, t5, t6, t7, t9, t10, t11, e, rfl⟩ := hI
    rw [List.append_nil] at e
    subst e
    have eU : lawOrd (rawN P (List.range (ways P).length)) = ups (ways P) (fT P) := rfl
    obtain ⟨u1, u10⟩ := ups_ok hP
    have u0 := ups_pos hP
    have hu0 : ¬ ups (ways P) (fT P) = [] := fun e => by rw [e] at u0; simp at u0
    have hrl := rawN_len P (List.range (ways P).length)
    rw [List.length_range] at hrl
    have hraw : ∀ u ∈ rawN P (List.range (ways P).length), Sz 3000 u := fun u hu => (u1 u (mem_lawOrd.mpr hu)).2.mono (by decide)
    simp [S_in_order]
    refine ⟨by omega, fun a c hac => hraw (a, c) hac, fun p2 => ?_⟩
    rw [eU]
    generalize hU : ups (ways P) (fT P) = U at *
    simp [rg_map]
    refine ⟨by omega, ?_⟩
    refine for_l (fun k : Nat => PyData.int (k : Int)) (fun r ρ b' => ∃ (q : List Nat) (F : Ring) (t3 t4 t5 t6 t7 t9 t10 t11 t13 t14 t15 : Sl), List.range U.length = q ++ r ∧ F.length = q.length ∧ (∀ j, j < F.length → (rt F j).1 = tp U j ∧ (rt F j).2 ∈ ways P ∧ amid (tp U j) (tp U ((j + 1) % U.length)) (rt F j).2) ∧
      ρ = [.dat (tP P), .dat (.list ((ways P).map pD)), .dat (.list (U.map pD)), t3, t4, t5, t6, t7, .no, t9, t10, t11, .own p2 (.list (F.map cD)), t13, t14, t15]) (fun k r ρ b' hI X hX => ?_) (fun ρ b' hI => ?_) (List.range U.length) _ _ ⟨[], [], t3, t4, t5, t6, t7, t9, t10, t11, .no, .no, .no, rfl, rfl, fun j hj => absurd hj (Nat.not_lt_zero _), rfl⟩
    · obtain ⟨q, F, t3, t4, t5, t6, t7, t9, t10, t11, t13, t14, t15, e, hF, hF2, rfl⟩ := hI
      obtain ⟨hk, hq, hlt⟩ := range_at e
      have ea := at_tp hlt
      have ea2 : atI (U.map pD) (((k + 1) % U.length : Nat) : Int) = some (pD (tp U ((k + 1) % U.length))) := at_tp (Nat.mod_lt _ u0)
      have ea3 : atI (U.map pD) (((k : Int) + 1).fmod (U.length : Int)) = some (pD (tp U ((k + 1) % U.length))) := by
        have efm : (((k : Int) + 1).fmod (U.length : Int)) = (((k + 1) % U.length : Nat) : Int) := fmod_nat (k + 1) U.length
        rw [efm]; exact ea2
      have m1 := u1 _ (tp_mem hlt)
      have m2 := u1 _ (tp_mem (l := U) (i := (k + 1) % U.length) (Nat.mod_lt _ u0))
      simp [hu0, ea3, ea, deown, wipeE]
      refine lc_filt pD (fun w => decide (amid (tp U k) (tp U ((k + 1) % U.length)) w)) pD (ways P) (by rw [sl_eq]; omega) (fun w hw X h1 h2 => ?_) ?_
      · simp [S_is_amid]
        refine ⟨m1.1, m2.1, wl w hw, m1.2.mono (by decide), m2.2.mono (by decide), (wz w hw).mono (by decide), ?_⟩
        by_cases z : amid (tp U k) (tp U ((k + 1) % U.length)) w
        · rw [if_pos z]; exact h1 (decide_eq_true z)
        · rw [if_neg z]; exact h2 (decide_eq_false z)
      · generalize hS : (ways P).filter (fun w => decide (amid (tp U k) (tp U ((k + 1) % U.length)) w)) = S
        have hSm : ∀ w, w ∈ S ↔ w ∈ ways P ∧ amid (tp U k) (tp U ((k + 1) % U.length)) w := fun w => by rw [← hS, List.mem_filter, decide_eq_true_eq]
        have hS0 : 0 < S.length := by
          obtain ⟨w, hw, ha⟩ := ups_rest (ways_srt hP.three hP.inj) wl w0 (fun k hk => (fT_ok hP hk).1) (f := fT P) (k := k) (by rw [hU]; exact hlt)
          rw [hU] at ha
          exact List.length_pos_of_mem ((hSm w).mpr ⟨hw, ha⟩)
        simp [at_tp0 hS0]
        refine for_l pD (fun r' ρ b' => ∃ (w : P2) (t14 : Sl), w ∈ S ∧ (∀ x ∈ r', x ∈ S) ∧ ρ = [.dat (tP P), .dat (.list ((ways P).map pD)), .dat (.list (U.map pD)), .dat (.int (k : Nat)), .dat (pD (tp U k)), .dat (pD (tp U ((k + 1) % U.length))), t6, t7, .no, t9, t10, t11, .own p2 (.list (F.map cD)), .dat (.list (S.map pD)), t14, .dat (pD w)]) (fun x r' ρ b' hI X' hX' => ?_) (fun ρ b' hI => ?_) S _ _ ⟨tp S 0, t14, tp_mem hS0, fun _ h => h, rfl⟩
        · obtain ⟨w, t14, hw, hr, rfl⟩ := hI
          have hx := hr x (List.mem_cons_self ..)
          have hx1 := (hSm x).mp hx
          have hw1 := (hSm w).mp hw
          simp [S_law_width, S_law_wider]
          refine ⟨hP, wl _ hw1.1, (wz _ hw1.1).mono (by decide), fun a1 a2 hz1 => ⟨hP, wl _ hx1.1, (wz _ hx1.1).mono (by decide), fun c1 c2 hz2 => ⟨hz1, hz2, ?_, ?_⟩⟩⟩
          · exact hX' _ _ ⟨w, _, hw, fun y hy => hr y (List.mem_cons_of_mem _ hy), rfl⟩
          · exact hX' _ _ ⟨x, _, hx, fun y hy => hr y (List.mem_cons_of_mem _ hy), rfl⟩
        · obtain ⟨w, t14, hw, hr, rfl⟩ := hI
          have hw1 := (hSm w).mp hw
          simp
          refine ⟨by omega, hX _ _ ⟨q ++ [k], F ++ [(tp U k, w)], .dat (.int (k : Nat)), .dat (pD (tp U k)), .dat (pD (tp U ((k + 1) % U.length))), t6, t7, t9, t10, t11, .dat (.list (S.map pD)), t14, .dat (pD w), by rw [e]; simp, by simp [hF], fun j hj => ?_, by simp [cD]⟩⟩
          simp only [List.length_append, List.length_singleton] at hj
          by_cases z : j < F.length
          · have : rt (F ++ [(tp U k, w)]) j = rt F j := by unfold rt; rw [List.getD_eq_getElem?_getD, List.getD_eq_getElem?_getD, List.getElem?_append_left z]
            rw [this]; exact hF2 j z
          · have ej : j = F.length := by omega
            have : rt (F ++ [(tp U k, w)]) j = (tp U k, w) := by rw [ej]; unfold rt; rw [List.getD_eq_getElem?_getD, List.getElem?_append_right (Nat.le_refl _)]; simp
            rw [this]
            have ek : j = k := by omega
            rw [ek]
            exact ⟨rfl, hw1.1, hw1.2⟩
    · obtain ⟨q, F, t3, t4, t5, t6, t7, t9, t10, t11, t13, t14, t15, e, hF, hF2, rfl⟩ := hI
      rw [List.append_nil] at e
      have hq : q.length = U.length := by rw [← e, List.length_range]
      simp
      have hl : F.length = U.length := by omega
      have ht : tops F = U := by
        apply List.ext_getElem?
        intro i
        by_cases hi : i < F.length
        · unfold tops
          rw [List.getElem?_map, rt_get hi, tp_get' (by omega)]
          exact congrArg some (hF2 i hi).1
        · rw [List.getElem?_eq_none (by rw [tops_len]; omega), List.getElem?_eq_none (by omega)]
      refine h F (ring_RG hP (by rw [ht, hU]) fun j hj => ?_) fun j hj => ?_
      · rw [ht, hl]
        exact (hF2 j hj).2
      · rw [(hF2 j hj).1, (hF2 _ (Nat.mod_lt _ (by omega))).1, hl]
        exact (hF2 j hj).2.2
end K96

/-! KB13: texts of ints and couples; the law's same turns. -/
namespace K96
open PySem L2 DL
/-- the signs of an int's text -/
def iL (i : Int) : List Nat := TL.tl (Str.ofString (toString i))
theorem iL_nat (n : Nat) : iL (n : Int) = TL.numL n := TL.tl_num n
theorem iL_neg {i : Int} (h : i < 0) : iL i = 45 :: TL.numL i.natAbs := by
  obtain ⟨m, rfl⟩ : ∃ m, i = Int.negSucc m := by
    cases i with
    | ofNat n => exact absurd h (Int.not_lt.mpr (Int.natCast_nonneg n))
    | negSucc m => exact ⟨m, rfl⟩
  have e : toString (Int.negSucc m) = "-" ++ Nat.repr (m + 1) := rfl
  unfold iL
  have t := TL.tl_num (m + 1)
  rw [TL.tl_ofString] at t
  have e3 : toString (((m + 1 : Nat)) : Int) = (m + 1).repr := rfl
  rw [e3] at t
  rw [TL.tl_ofString, e, String.toList_append, List.map_append, t]
  rfl
theorem iL_of (i : Int) : iL i = (if i < 0 then [45] else []) ++ TL.numL i.natAbs := by
  by_cases h : i < 0
  · rw [if_pos h, iL_neg h]; rfl
  · rw [if_neg h]
    have : i = ((i.natAbs : Nat) : Int) := by omega
    conv => lhs; rw [this]
    rw [iL_nat]; rfl
theorem iL_sign {i : Int} {c : Nat} (h : c ∈ iL i) : c = 45 ∨ (48 ≤ c ∧ c ≤ 57) := by
  rw [iL_of] at h
  rcases List.mem_append.mp h with z | z
  · split at z
    · left; simpa using z
    · cases z
  · right
    have := TL.numL_digits i.natAbs c z
    omega
theorem iL_inj {i j : Int} (h : iL i = iL j) : i = j := by
  rw [iL_of, iL_of] at h
  have hd : ∀ n, ∀ c ∈ TL.numL n, c ≠ 45 := fun n c hc => by have := TL.numL_digits n c hc; omega
  by_cases a : i < 0
  · by_cases c : j < 0
    · rw [if_pos a, if_pos c] at h
      have := TL.numL_inj (List.append_cancel_left h)
      omega
    · rw [if_pos a, if_neg c] at h
      exact absurd rfl (hd j.natAbs 45 (by rw [List.nil_append] at h; rw [← h]; simp))
  · by_cases c : j < 0
    · rw [if_neg a, if_pos c] at h
      exact absurd rfl (hd i.natAbs 45 (by rw [List.nil_append] at h; rw [h]; simp))
    · rw [if_neg a, if_neg c] at h
      have := TL.numL_inj (List.append_cancel_left h)
      omega
theorem iL_ne (i : Int) : iL i ≠ [] := by
  rw [iL_of]
  intro e
  exact TL.numL_ne _ (List.append_eq_nil_iff.mp e).2
theorem shown_int (i : Int) : TL.tl (PyData.int i).shown = iL i := rfl
theorem tl_lit (s : String) : TL.tl ((s : String) : Str) = s.toList.map Char.toNat := TL.tl_ofString s
theorem shown_pD (p : P2) : TL.tl (pD p).shown = 40 :: (iL p.1 ++ [44, 32] ++ iL p.2 ++ [41]) := by
  have e : (pD p).shown = ("(" : Str) ++ Str.join ", " [(PyData.int p.1).shown, (PyData.int p.2).shown] ++ (if 2 == 1 then ",)" else ")" : String) := rfl
  rw [e, TL.tl_append, TL.tl_append, TL.tl_join]
  have e1 : TL.tl ("(" : Str) = [40] := rfl
  have e2 : TL.tl ((if 2 == 1 then ",)" else ")" : String) : Str) = [41] := rfl
  have e3 : TL.tl (", " : Str) = [44, 32] := rfl
  rw [e1, e2, e3]
  simp only [List.map_cons, List.map_nil, shown_int, TL.joinL]
  simp
theorem app_free {s : Nat} : ∀ {a c x y : List Nat}, s ∉ a → s ∉ c → a ++ s :: x = c ++ s :: y → a = c ∧ x = y
  | [], [], _, _, _, _, h => ⟨rfl, by simpa using h⟩
  | [], d :: c, _, _, _, hc, h => by
    simp only [List.nil_append, List.cons_append] at h
    exact absurd (by rw [(List.cons.inj h).1]; simp) hc
  | d :: a, [], _, _, ha, _, h => by
    simp only [List.nil_append, List.cons_append] at h
    exact absurd (by rw [(List.cons.inj h).1]; simp) ha
  | d :: a, e :: c, x, y, ha, hc, h => by
    simp only [List.cons_append] at h
    obtain ⟨h1, h2⟩ := List.cons.inj h
    obtain ⟨h3, h4⟩ := app_free (fun z => ha (List.mem_cons_of_mem _ z)) (fun z => hc (List.mem_cons_of_mem _ z)) h2
    exact ⟨by rw [h1, h3], h4⟩
theorem shown_inj {p q : P2} (h : (pD p).shown = (pD q).shown) : p = q := by
  have e := congrArg TL.tl h
  rw [shown_pD, shown_pD] at e
  have f : ∀ (s : Nat) (i : Int), s ≠ 45 → (s < 48 ∨ 57 < s) → s ∉ iL i := fun s i h1 h2 hm => by
    have := iL_sign hm; omega
  have e := (List.cons.inj e).2
  simp only [List.append_assoc, List.cons_append, List.nil_append] at e
  obtain ⟨a, c⟩ := app_free (f 44 _ (by decide) (by decide)) (f 44 _ (by decide) (by decide)) e
  have c := (List.cons.inj c).2
  obtain ⟨d, _⟩ := app_free (s := 41) (f 41 _ (by decide) (by decide)) (f 41 _ (by decide) (by decide)) c
  exact Prod.ext (iL_inj a) (iL_inj d)
theorem shown_ok (p : P2) : PyData.strOk (pD p).shown = true := by
  unfold PyData.strOk
  rw [← Array.all_toList, List.all_eq_true]
  intro c hc
  have hc : c ∈ TL.tl (pD p).shown := hc
  rw [shown_pD] at hc
  rw [decide_eq_true_eq]
  simp only [List.mem_cons, List.mem_append, List.not_mem_nil, or_false] at hc
  rcases hc with z | ((z | z | z) | z) | z
  · omega
  · have := iL_sign z; omega
  · omega
  · omega
  · have := iL_sign z; omega
  · omega
/-! ### what repr asks -/
structure Rp (M k : Nat) (d : D) : Prop where
  sh : d.showable = true
  nd : d.hasDict = false
  dep : d.depth ≤ k
  len : d.shown.length ≤ M
  lay : d.canLay0 = true
theorem Rp.mono {M N k l : Nat} {d : D} (h : Rp M k d) (h1 : M ≤ N) (h2 : k ≤ l) : Rp N l d := ⟨h.sh, h.nd, Nat.le_trans h.dep h2, Nat.le_trans h.len h1, h.lay⟩
theorem Rp_int {k : Nat} {i : Int} (h : Bd k i) (hk : k < 1900) : Rp (k + 2) 0 (.int i) := by
  have hl := h.log
  refine ⟨?_, rfl, Nat.le_refl _, ?_, rfl⟩
  · show decide (i.natAbs.log2 < 1920) = true
    exact decide_eq_true (by omega)
  · have := int_text_length_le (a := i) (k := k + 1) (by omega) (by omega)
    show (Str.ofString (toString i)).length ≤ _
    rw [ofString_length]; omega
theorem Rp_bool (b : Bool) : Rp 5 0 (.bool b) := by
  refine ⟨rfl, rfl, Nat.le_refl _, ?_, rfl⟩
  cases b <;> decide
theorem Rp_all {M k : Nat} : ∀ {xs : List D}, (∀ x ∈ xs, Rp M k x) → PyData.showableAll xs = true ∧ PyData.hasDictAll xs = false ∧ PyData.depthAll xs ≤ k ∧ ((PyData.shownAll xs).map (·.length)).sum ≤ xs.length * M ∧ (PyData.shownAll xs).length = xs.length ∧ PyData.canLayAll0 xs = true
  | [], _ => ⟨rfl, rfl, Nat.zero_le _, Nat.zero_le _, rfl, rfl⟩
  | x :: xs, h => by
    have hx := h x (List.mem_cons_self ..)
    obtain ⟨a, c, d, e, f, g⟩ := Rp_all (xs := xs) (fun y hy => h y (List.mem_cons_of_mem _ hy))
    refine ⟨?_, ?_, ?_, ?_, ?_, ?_⟩
    · simp only [PyData.showableAll, hx.sh, a, Bool.and_self]
    · simp only [PyData.hasDictAll, hx.nd, c, Bool.or_self]
    · simp only [PyData.depthAll]; exact Nat.max_le.mpr ⟨hx.dep, d⟩
    · simp only [PyData.shownAll, List.map_cons, List.sum_cons, List.length_cons, Nat.add_mul, Nat.one_mul]
      have := hx.len; omega
    · simp only [PyData.shownAll, List.length_cons, f]
    · simp only [PyData.canLayAll0, hx.lay, g, Bool.and_self]
theorem Rp_list {M k : Nat} {xs : List D} (h : ∀ x ∈ xs, Rp M k x) : Rp (xs.length * (M + 2) + 3) (k + 1) (.list xs) := by
  obtain ⟨a, c, d, e, f, g⟩ := Rp_all h
  refine ⟨a, c, Nat.succ_le_succ d, ?_, g⟩
  have := listText_len_le (PyData.shownAll xs)
  rw [f] at this
  show (listText (PyData.shownAll xs)).length ≤ _
  rw [Nat.mul_add]; omega
theorem Rp_tup {M k : Nat} {xs : List D} (h : ∀ x ∈ xs, Rp M k x) : Rp (xs.length * (M + 2) + 3) (k + 1) (.tuple xs) := by
  obtain ⟨a, c, d, e, f, g⟩ := Rp_all h
  refine ⟨a, c, Nat.succ_le_succ d, ?_, g⟩
  have := tupleText_len_le (PyData.shownAll xs)
  rw [f] at this
  show (tupleText (PyData.shownAll xs)).length ≤ _
  rw [Nat.mul_add]; omega
theorem Rp_pD {k : Nat} {p : P2} (h : Sz k p) (hk : k < 1900) : Rp (2 * k + 11) 1 (pD p) := by
  have := Rp_tup (M := k + 2) (k := 0) (xs := [.int p.1, .int p.2]) (fun x hx => by
    rcases List.mem_cons.mp hx with z | z
    · rw [z]; exact Rp_int h.1 hk
    · rw [List.mem_singleton.mp z]; exact Rp_int h.2 hk)
  exact this.mono (by simp only [List.length_cons, List.length_nil]; omega) (Nat.le_refl _)
theorem Rp.shaped {M : Nat} {d : D} (h : Rp M 60 d) : SeqAt.shaped d = true := by
  unfold SeqAt.shaped
  rw [h.lay, Bool.true_and, decide_eq_true_eq]
  exact Nat.le_trans h.dep (by decide)
theorem repr_i {M : Nat} {d : D} {Φ : D → Prop} (hs : isSeq d = true) (h : Rp M 60 d) (hM : M ≤ 16777216) (q : Φ (.str d.shown)) : oRepr [d] Φ :=
  ⟨d, rfl, hs, h.sh, h.nd, Nat.le_trans h.dep (by decide), Nat.le_trans h.len hM, q⟩
def S_law_alike : SpF := fun ds Φ => as2 ds fun d e => ∃ M, d = e ∧ isSeq d = true ∧ Rp M 60 d ∧ M ≤ 16777216 ∧ PyData.strOk d.shown = true ∧ Φ (.bool true)
theorem cl__law_alike {P : Program} {w : World} {K : PySem.W.Frag} {mg : Str → Option Value} {base : Heap} (T : Txt K mg) : Cl P w K mg base "_law_alike" 1 (spP K S_law_alike) := by
  refine cl_pure (k := 0) T.at__law_alike sc__law_alike (by decide) (fun ds Φ h => by obtain ⟨_, _, rfl, _⟩ := h; rfl) fun f cdv A outer s H hgd hr => ?_
  have nd := sc__law_alike.nd; have hu : (A.deeper (PyProof.Rows.envOfC "_law_alike" (defScope st__law_alike) s.heap.objs.size f cdv)).units + 65 < cLine := (by have := hr.un; omega)
  refine ⟨_, (ss_one (s_ret (d_and (de_eq hu (d_fn (cr_repr hgd hu) fd_repr PyProof.Rows.boot_repr rfl T.ml_repr (a_cons (v 0) a_nil)) (d_fn (cr_repr hgd hu) fd_repr PyProof.Rows.boot_repr rfl T.ml_repr (a_cons (v 1) a_nil))) (d_one (de_eq hu (v 0) (v 1)))))), fun b ds Φ h => ?_⟩
  obtain ⟨d, _, rfl, M, rfl, hs, hr2, hM, hok, h⟩ := h
  have sh := hr2.shaped
  have e1 : PyData.eqv d d = true := SeqAt.eqv_refl d hr2.lay
  have sh2 : SeqAt.shaped (.str d.shown) = true := by
    unfold SeqAt.shaped
    simp [PyData.canLay0, hok, PyData.depth]
  simp only [ρ0]
  simp
  refine repr_i hs hr2 hM ?_
  refine repr_i hs hr2 hM ?_
  simp [sh, sh2, e1]
  exact h
end K96

/-! KB14: promises: the law's same turns, kinds, turns, firm, richest. -/
namespace K96
open PySem L2 DL
abbrev S2 := Str × Str
def sS (a : P2 × P2) : S2 := ((pD a.1).shown, (pD a.2).shown)
def dS2 (x : S2) : D := .tuple [.str x.1, .str x.2]
theorem sS_inj {a c : P2 × P2} (h : sS a = sS c) : a = c := by
  unfold sS at h
  injection h with h1 h2
  exact Prod.ext (shown_inj h1) (shown_inj h2)
def leS (x y : S2) : Bool := PySem.W.dataLe false id (dS2 x) (dS2 y)
theorem leD_tot : PySem.W.TotalLe (PySem.W.dataLe false (id : D → D)) := PySem.W.sortLe_total _ _ _
theorem leS_tot : PySem.W.TotalLe leS := ⟨fun a b c => leD_tot.trans (dS2 a) (dS2 b) (dS2 c), fun a b => leD_tot.total (dS2 a) (dS2 b)⟩
theorem str_tri {x y : Str} (h1 : ¬ x.cps.toList < y.cps.toList) (h2 : ¬ y.cps.toList < x.cps.toList) : x = y := by
  have a := List.not_lt.mp h1
  have c := List.not_lt.mp h2
  exact TL.ext_tl (List.le_antisymm c a)
theorem leS_anti {x y : S2} (h1 : leS x y = true) (h2 : leS y x = true) : x = y := by
  have h1 : (!PySem.W.dataLt (dS2 y) (dS2 x)) = true := h1
  have h2 : (!PySem.W.dataLt (dS2 x) (dS2 y)) = true := h2
  unfold dS2 at h1 h2
  rw [PySem.W.dataLt_pair (by simp [PySem.W.alike]) (by simp [PySem.W.alike]), PySem.W.dataLt_str, PySem.W.dataLt_str, ev_str, ev_str] at h1 h2
  by_cases e1 : x.1 = y.1
  · by_cases e2 : x.2 = y.2
    · exact Prod.ext e1 e2
    · have e1' := e1.symm
      have e2' : ¬ y.2 = x.2 := fun z => e2 z.symm
      rw [if_pos (decide_eq_true e1'), if_neg (by simpa using e2')] at h1
      rw [if_pos (decide_eq_true e1), if_neg (by simpa using e2)] at h2
      simp at h1 h2
      exact absurd (str_tri (List.not_lt.mpr h2) (List.not_lt.mpr h1)) e2
  · have e1' : ¬ y.1 = x.1 := fun z => e1 z.symm
    rw [if_neg (by simpa using e1')] at h1
    rw [if_neg (by simpa using e1)] at h2
    simp at h1 h2
    exact absurd (str_tri (List.not_lt.mpr h2) (List.not_lt.mpr h1)) e1
def srtS (l : List S2) : List S2 := l.mergeSort leS
theorem srtS_D (l : List S2) : srtD (l.map dS2) = (srtS l).map dS2 := by
  unfold srtD srtS
  exact (PySem.W.sort_maps dS2 (fun a _ c _ => rfl)).symm
theorem srtS_eq (l m : List S2) : srtS l = srtS m ↔ l.Perm m := by
  constructor
  · intro h
    have a := List.mergeSort_perm l leS
    have c := List.mergeSort_perm m leS
    unfold srtS at h
    rw [h] at a
    exact a.symm.trans c
  · intro h
    refine List.Perm.eq_of_pairwise (le := fun x y => leS x y = true) (fun a c _ _ h1 h2 => leS_anti h1 h2) (PySem.W.sort_pairwise leS_tot l) (PySem.W.sort_pairwise leS_tot m) ?_
    exact (List.mergeSort_perm l leS).trans (h.trans (List.mergeSort_perm m leS).symm)
theorem ev_S (l m : List S2) : PyData.eqv (.list (l.map dS2)) (.list (m.map dS2)) = decide (l = m) := PySem.W.Datum.eqv l m
theorem same_S {R S : Ring} (hR : (tops R).Nodup) (hS : (tops S).Nodup) : srtS (S.map sS) = srtS (R.map sS) ↔ SameR S R := by
  rw [srtS_eq]
  have nd : ∀ T : Ring, (tops T).Nodup → (T.map sS).Nodup := fun T h => by
    unfold tops at h
    rw [List.nodup_iff_pairwise_ne, List.pairwise_map] at h ⊢
    exact h.imp fun {a c} hne e => hne (by rw [sS_inj e])
  rw [List.perm_ext_iff_of_nodup (nd S hS) (nd R hR)]
  unfold SameR
  constructor
  · intro h a
    constructor
    · intro ha
      obtain ⟨c, hc, e⟩ := List.mem_map.mp ((h (sS a)).mp (List.mem_map.mpr ⟨a, ha, rfl⟩))
      rw [← sS_inj e]; exact hc
    · intro ha
      obtain ⟨c, hc, e⟩ := List.mem_map.mp ((h (sS a)).mpr (List.mem_map.mpr ⟨a, ha, rfl⟩))
      rw [← sS_inj e]; exact hc
  · intro h x
    constructor
    · intro hx
      obtain ⟨a, ha, rfl⟩ := List.mem_map.mp hx
      exact List.mem_map.mpr ⟨a, (h a).mp ha, rfl⟩
    · intro hx
      obtain ⟨a, ha, rfl⟩ := List.mem_map.mp hx
      exact List.mem_map.mpr ⟨a, (h a).mpr ha, rfl⟩
theorem lay_S {l : List S2} (h : ∀ x ∈ l, PyData.strOk x.1 = true ∧ PyData.strOk x.2 = true) : SeqAt.shaped (.list (l.map dS2)) = true := by
  unfold SeqAt.shaped
  have h1 : PyData.canLayAll0 (l.map dS2) = true := by
    induction l with
    | nil => rfl
    | cons x l ih =>
      obtain ⟨a, c⟩ := h x (List.mem_cons_self ..)
      simp only [List.map_cons, PyData.canLayAll0, ih (fun y hy => h y (List.mem_cons_of_mem _ hy)), Bool.and_true]
      show PyData.canLayAll0 [_, _] = true
      simp only [PyData.canLayAll0, PyData.canLay0, a, c, Bool.and_true]
  have h2 : PyData.depthAll (l.map dS2) ≤ 1 := by
    have e : PySem.W.Datum.depth S2 = 1 := rfl
    rw [← e]
    exact PySem.W.depthAll_map l
  have h3 : (PyData.list (l.map dS2)).canLay0 = true := h1
  rw [h3, Bool.true_and, decide_eq_true_eq]
  have : (PyData.list (l.map dS2)).depth = PyData.depthAll (l.map dS2) + 1 := rfl
  omega
theorem ok_S {R : Ring} : ∀ x ∈ srtS (R.map sS), PyData.strOk x.1 = true ∧ PyData.strOk x.2 = true := fun x hx => by
  unfold srtS at hx
  rw [List.mem_mergeSort] at hx
  obtain ⟨a, _, rfl⟩ := List.mem_map.mp hx
  exact ⟨shown_ok _, shown_ok _⟩
theorem alike_S (l : List S2) : PySem.W.AllAlike (l.map dS2) := fun x hx y hy => by
  obtain ⟨a, _, rfl⟩ := List.mem_map.mp hx
  obtain ⟨c, _, rfl⟩ := List.mem_map.mp hy
  simp [dS2, PySem.W.alike, PySem.W.alikeAll]
theorem sort_S (l : List S2) : PySem.W.Sortable (l.map dS2) := .inl fun x hx => by
  obtain ⟨a, _, rfl⟩ := List.mem_map.mp hx
  exact ⟨_, _, rfl⟩
theorem depth_S (l : List S2) : ∀ x ∈ l.map dS2, x.depth ≤ 60 := fun x hx => by
  obtain ⟨a, _, rfl⟩ := List.mem_map.mp hx
  unfold dS2
  simp [PyData.depth, PyData.depthAll]
theorem oSort_S {l : List S2} {Φ : D → Prop} (h : Φ (.list ((srtS l).map dS2))) : oSortD [.list (l.map dS2)] Φ :=
  ⟨_, rfl, alike_S l, sort_S l, depth_S l, by rw [srtS_D]; exact h⟩
theorem isSeq_pD (p : P2) : isSeq (pD p) = true := rfl
theorem repr_p {k : Nat} {p : P2} {Φ : D → Prop} (h : Sz k p) (hk : k ≤ 1000) (q : Φ (.str (pD p).shown)) : oRepr [pD p] Φ :=
  repr_i rfl ((Rp_pD h (by omega)).mono (Nat.le_refl _) (by decide)) (by omega) q
theorem cl__law_same_turns {P : Program} {w : World} {K : PySem.W.Frag} {mg : Str → Option Value} {base : Heap} (T : Txt K mg) : Cl P w K mg base "_law_same_turns" 5 (spP K S_same_turns) := by
  have h__law_turn := cl__law_turn (P := P) (w := w) (base := base) T
  have hl__law_turn : 4 ≤ 4 := by decide
  have h__law_put := cl__law_put (P := P) (w := w) (base := base) T
  have hl__law_put : 3 ≤ 4 := by decide
  have h__law_in_order := cl__law_in_order (P := P) (w := w) (base := base) T
  have hl__law_in_order : 2 ≤ 4 := by decide
  refine cl_pure (k := 4) T.at__law_same_turns sc__law_same_turns (by decide) (fun ds Φ h => by obtain ⟨_, rfl, _⟩ := h; rfl) fun f cdv A outer s H hgd hr => ?_
  have nd := sc__law_same_turns.nd; have hu : (A.deeper (PyProof.Rows.envOfC "_law_same_turns" (defScope st__law_same_turns) s.heap.objs.size f cdv)).units + 65 < cLine := (by have := hr.un; omega)
  refine ⟨_, (ss_cons (s_parO2 1 2 rfl nd (d_fn (cr_sortD hu) fd_sortD PyProof.Rows.boot_sorted rfl T.ml_sorted (a_cons (d_lc [("top", 3), ("rest", 4)] rfl nd (i_it (v 0)) (by rfl) (fun _ _ _ _ _ => (g_tup (n := 2) rfl (g_cons (gv 3 nd) (g_cons (gv 4 nd) g_nil)))) (fun _ _ _ _ _ => ts_nil) (fun _ _ _ _ _ => (d_tup (a_cons (d_fn (cr_repr hgd hu) fd_repr PyProof.Rows.boot_repr rfl T.ml_repr (a_cons (v 3) a_nil)) (a_cons (d_fn (cr_repr hgd hu) fd_repr PyProof.Rows.boot_repr rfl T.ml_repr (a_cons (v 4) a_nil)) a_nil))))) a_nil))) (ss_cons (s_for PassesOwn.never rfl (i_it (v 0)) (g_tup (n := 2) rfl (g_cons (gv 3 nd) (g_cons (gv 4 nd) g_nil))) (ss_cons (ss 5 nd (d_call (h__law_turn.mono hl__law_turn) hgd hr rfl (a_cons (d_ix (d_ix (v 0) d_int (fun _ _ => rfl)) d_int (fun _ _ => rfl)) (a_cons (v 3) a_nil)))) (ss_one (s_if (te_eq hu (d_fn (cr_sortD hu) fd_sortD PyProof.Rows.boot_sorted rfl T.ml_sorted (a_cons (d_lc [("one", 6), ("other", 7)] rfl nd (i_it (v 0)) (by rfl) (fun _ _ _ _ _ => (g_tup (n := 2) rfl (g_cons (gv 6 nd) (g_cons (gv 7 nd) g_nil)))) (fun _ _ _ _ _ => ts_nil) (fun _ _ _ _ _ => (d_tup (a_cons (d_fn (cr_repr hgd hu) fd_repr PyProof.Rows.boot_repr rfl T.ml_repr (a_cons (d_call (h__law_put.mono hl__law_put) hgd hr rfl (a_cons (v 6) (a_cons (v 5) a_nil))) a_nil)) (a_cons (d_fn (cr_repr hgd hu) fd_repr PyProof.Rows.boot_repr rfl T.ml_repr (a_cons (d_call (h__law_put.mono hl__law_put) hgd hr rfl (a_cons (v 7) (a_cons (v 5) a_nil))) a_nil)) a_nil))))) a_nil)) (v 1)) (ss_one (s_append 2 rfl (by first | exact Or.inl rfl | exact Or.inr (Or.inl rfl)) (a_cons (v 5) a_nil))) ss_nil)))) (ss_one (s_frz 2 (s_ret (d_call (h__law_in_order.mono hl__law_in_order) hgd hr rfl (a_cons (v 2) a_nil))))))), fun b ds Φ h => ?_⟩
  obtain ⟨_, rfl, R, rfl, hR, h⟩ := h
  have hfew := hR.few
  have hnd := srt_nodup hR.good.srt
  simp [ρ0, deown, wipeE]
  refine lc_map cD (fun a => dS2 (sS a)) R (by rw [sl_eq]; omega) (fun a ha X hX => ?_) ?_
  · obtain ⟨s1, s2⟩ := hR.sz a ha
    simp
    refine repr_p s1 (by decide) (repr_p s2 (by decide) ?_)
    exact hX
  · have e : R.map (fun a => dS2 (sS a)) = (R.map sS).map dS2 := by rw [List.map_map]; rfl
    rw [e]
    refine oSort_S ?_
    intro p
    refine for_l cD (fun r ρ b' => b = b' ∧ ∃ q t3 t4 t5, R = q ++ r ∧ ρ = [.dat (rD R), .dat (.list ((srtS (R.map sS)).map dS2)), .own p (.list ((((tops q).map fun x => turnB (tp (tops R) 0) x).filter fun t => decide (SameR (mapR R t) R)).map pD)), t3, t4, t5, .no, .no]) (fun a r ρ b' hI X hX => ?_) (fun ρ b' hI => ?_) R _ _ ⟨rfl, [], .no, .no, .no, rfl, rfl⟩
    · obtain ⟨rfl, q, t3, t4, t5, e, rfl⟩ := hI
      have ma : a ∈ R := by rw [e]; simp
      have h2 := congrArg List.length e
      simp only [List.length_append, List.length_cons] at h2
      have da := hR.good.dt a.1 (List.mem_map.mpr ⟨a, ma, rfl⟩)
      have sa := (hR.sz a ma).1
      have dt := turn_dir (hR.d1 hR.pos) da
      have st := turn_sz (hR.d1 hR.pos) da (hR.s1 hR.pos (Nat.le_refl _)) sa
      simp [rD_0 hR.pos, S_turn]
      refine ⟨hR.d1 hR.pos, da, hR.s1 hR.pos (by decide), sa.mono (by decide), ?_⟩
      generalize ht : turnB (rt R 0).1 a.1 = t at dt st
      simp [deown, wipeE]
      refine lc_map cD (fun c => dS2 (sS (put c.1 t, put c.2 t))) R (by rw [sl_eq]; omega) (fun c hc X hX => ?_) ?_
      · obtain ⟨s1, s2⟩ := hR.sz c hc
        have d1 := hR.good.dt c.1 (List.mem_map.mpr ⟨c, hc, rfl⟩)
        have d2 := hR.good.dr c.2 (List.mem_map.mpr ⟨c, hc, rfl⟩)
        simp [S_put]
        refine ⟨d1, dt, s1.mono (by decide), st.mono (by decide), repr_p (put_sz d1 dt s1 st) (by decide) ⟨d2, dt, s2.mono (by decide), st.mono (by decide), repr_p (put_sz d2 dt s2 st) (by decide) ?_⟩⟩
        exact hX
      · have e4 : R.map (fun c => dS2 (sS (put c.1 t, put c.2 t))) = ((mapR R t).map sS).map dS2 := by unfold mapR; rw [List.map_map, List.map_map]; rfl
        rw [e4]
        refine oSort_S ?_
        have nd2 : (tops (mapR R t)).Nodup := by
          rw [tops_mapR]
          exact nodup_put hnd hR.good.dt dt
        simp [lay_S ok_S, ev_S]
        have e3 : (srtS ((mapR R t).map sS) = srtS (R.map sS)) = SameR (mapR R t) R := propext (same_S hnd nd2)
        have key := hX [.dat (rD R), .dat (.list ((srtS (R.map sS)).map dS2)), .own p (.list ((((tops (q ++ [a])).map fun x => turnB (tp (tops R) 0) x).filter fun t => decide (SameR (mapR R t) R)).map pD)), .dat (pD a.1), .dat (pD a.2), .dat (pD t), .no, .no] b ⟨rfl, q ++ [a], _, _, _, by rw [e]; simp, rfl⟩
        have e5 : ((tops (q ++ [a])).map fun x => turnB (tp (tops R) 0) x) = ((tops q).map fun x => turnB (tp (tops R) 0) x) ++ [t] := by
          unfold tops
          rw [List.map_append, List.map_append]
          have : tp (tops R) 0 = (rt R 0).1 := tp_tops hR.pos
          unfold tops at this
          rw [this, ← ht]; rfl
        rw [e5, List.filter_append] at key
        have hfl := List.length_filter_le (fun t => decide (SameR (mapR R t) R)) ((tops q).map fun x => turnB (tp (tops R) 0) x)
        rw [List.length_map, tops_len] at hfl
        by_cases z : SameR (mapR R t) R
        · rw [if_pos (e3 ▸ z)]
          refine ⟨by omega, ?_⟩
          simpa [z] using key
        · rw [if_neg (e3 ▸ z)]
          simpa [z] using key
    · obtain ⟨rfl, q, t3, t4, t5, e, rfl⟩ := hI
      rw [List.append_nil] at e
      subst e
      have hs := someT_sz hR
      have hl : (someT R).length = R.length := by unfold someT; rw [List.length_map, tops_len]
      simp only [bNx, rFrz, List.getElem?_cons_succ, List.getElem?_cons_zero, asOA_b, List.set_cons_succ, List.set_cons_zero, rRet, rCall, rCons, rVar, rNil, asV_b, fRt, S_in_order, as1_b, asLP_b]
      exact ⟨Nat.le_trans (List.length_filter_le _ _) (by rw [List.length_map, tops_len]; omega), fun t ht => (hs t (List.mem_filter.mp ht).1).2.mono (by decide), h⟩
theorem cl__law_kinds {P : Program} {w : World} {K : PySem.W.Frag} {mg : Str → Option Value} {base : Heap} (T : Txt K mg) : Cl P w K mg base "_law_kinds" 6 (spP K S_unlike_many) := by
  have h__law_same_turns := cl__law_same_turns (P := P) (w := w) (base := base) T
  have hl__law_same_turns : 5 ≤ 5 := by decide
  refine cl_pure (k := 5) T.at__law_kinds sc__law_kinds (by decide) (fun ds Φ h => by obtain ⟨_, rfl, _⟩ := h; rfl) fun f cdv A outer s H hgd hr => ?_
  have nd := sc__law_kinds.nd; have hu : (A.deeper (PyProof.Rows.envOfC "_law_kinds" (defScope st__law_kinds) s.heap.objs.size f cdv)).units + 65 < cLine := (by have := hr.un; omega)
  refine ⟨_, (ss_one (s_ret (d_ty call_int1 fd_int PyProof.Rows.boot_int rfl T.ml_int (a_cons (d_divA (d_fn call_len fd_len boot_len rfl T.ml_len (a_cons (v 0) a_nil)) (d_fn call_len fd_len boot_len rfl T.ml_len (a_cons (d_call (h__law_same_turns.mono hl__law_same_turns) hgd hr rfl (a_cons (v 0) a_nil)) a_nil))) a_nil)))), fun b ds Φ h => ?_⟩
  obtain ⟨_, rfl, R, rfl, hR, h⟩ := h
  have hl := sameT_len hR.good
  have hfew := hR.few
  have c : CDivA (R.length : Int) ((sameT R).length : Int) := cdiv (k := 20) (Bd.of 1000 (by omega) (by decide)) (by decide) (by omega)
  simp [ρ0, S_same_turns, c, fdiv_nat]
  exact ⟨hR, h⟩
def ptsN (R q : Ring) : List P2 := (q.map (fun a => R.map (fun b => turnB a.2 b.1))).flatten
theorem ptsN_snoc (R q : Ring) (a : P2 × P2) : ptsN R (q ++ [a]) = ptsN R q ++ R.map (fun b => turnB a.2 b.1) := by
  unfold ptsN; rw [List.map_append, List.flatten_append]; simp
theorem ptsN_len (R q : Ring) : (ptsN R q).length = q.length * R.length := by
  unfold ptsN
  induction q with
  | nil => simp
  | cons a S ih => rw [List.map_cons, List.flatten_cons, List.length_append, ih, List.length_map, List.length_cons, Nat.add_mul, Nat.one_mul, Nat.add_comm]
def S_law_turns : SpF := fun ds Φ => as1 ds fun d => asR d fun R => RG R ∧ Φ (.list ((unl (pts R)).map pD))
theorem cl__law_turns {P : Program} {w : World} {K : PySem.W.Frag} {mg : Str → Option Value} {base : Heap} (T : Txt K mg) : Cl P w K mg base "_law_turns" 6 (spP K S_law_turns) := by
  have h__law_turn := cl__law_turn (P := P) (w := w) (base := base) T
  have hl__law_turn : 4 ≤ 5 := by decide
  have h__law_in_order := cl__law_in_order (P := P) (w := w) (base := base) T
  have hl__law_in_order : 2 ≤ 5 := by decide
  have h__law_between := cl__law_between (P := P) (w := w) (base := base) T
  have hl__law_between : 5 ≤ 5 := by decide
  refine cl_pure (k := 5) T.at__law_turns sc__law_turns (by decide) (fun ds Φ h => by obtain ⟨_, rfl, _⟩ := h; rfl) fun f cdv A outer s H hgd hr => ?_
  have nd := sc__law_turns.nd; have hu : (A.deeper (PyProof.Rows.envOfC "_law_turns" (defScope st__law_turns) s.heap.objs.size f cdv)).units + 65 < cLine := (by have := hr.un; omega)
  refine ⟨_, (ss_cons (s_own 1 nd rfl (by first | exact Or.inl rfl | exact Or.inr rfl) (by first | exact .inr rfl | exact .inl rfl)) (ss_cons (s_for PassesOwn.never rfl (i_it (v 0)) (g_tup (n := 2) rfl (g_cons (gv 2 nd) (g_cons (gv 3 nd) g_nil))) (ss_one (s_extend 1 rfl (by first | exact Or.inl rfl | exact Or.inr (Or.inl rfl)) (a_cons (d_lc [("top", 4), ("its", 5)] rfl nd (i_it (v 0)) (by rfl) (fun _ _ _ _ _ => (g_tup (n := 2) rfl (g_cons (gv 4 nd) (g_cons (gv 5 nd) g_nil)))) (fun _ _ _ _ _ => ts_nil) (fun _ _ _ _ _ => (d_call (h__law_turn.mono hl__law_turn) hgd hr rfl (a_cons (v 3) (a_cons (v 4) a_nil))))) a_nil)))) (ss_cons (s_frz 1 (s_parO2 6 7 rfl nd (d_call (h__law_in_order.mono hl__law_in_order) hgd hr rfl (a_cons (v 1) a_nil)))) (ss_cons (s_for PassesOwn.never rfl (i_rg1 rfl T.ml_range (a_cons (d_fn call_len fd_len boot_len rfl T.ml_len (a_cons (v 6) a_nil)) a_nil)) (gv 8 nd) (ss_one (s_extend 7 rfl (by first | exact Or.inl rfl | exact Or.inr (Or.inl rfl)) (a_cons (d_lst (a_cons (d_ix (v 6) (v 8) (fun _ _ => rfl)) (a_cons (d_call (h__law_between.mono hl__law_between) hgd hr rfl (a_cons (d_ix (v 6) (v 8) (fun _ _ => rfl)) (a_cons (d_ix (v 6) (d_modA (d_ty call_int1 fd_int PyProof.Rows.boot_int rfl T.ml_int (a_cons (d_addA (v 8) d_int) a_nil)) (d_fn call_len fd_len boot_len rfl T.ml_len (a_cons (v 6) a_nil))) (fun _ _ => rfl)) a_nil))) a_nil))) a_nil)))) (ss_one (s_frz 7 (s_ret (v 7)))))))), fun b ds Φ h => ?_⟩
  obtain ⟨_, rfl, R, rfl, hR, h⟩ := h
  have hfew := hR.few
  have hsq := sq60 hfew
  have hpl := ptsRaw_len R
  obtain ⟨hok, hlen⟩ := pts_ok hR
  have h0 := hR.good.np
  have h0' : ¬ pts R = [] := fun z => by rw [z] at h0; exact absurd h0 (by decide)
  simp [ρ0]
  intro p
  refine for_l cD (fun r ρ b' => b = b' ∧ ∃ q t2 t3, R = q ++ r ∧ ρ = [.dat (rD R), .own p (.list ((ptsN R q).map pD)), t2, t3, .no, .no, .no, .no, .no]) (fun a r ρ b' hI X hX => ?_) (fun ρ b' hI => ?_) R _ _ ⟨rfl, [], .no, .no, rfl, rfl⟩
  · obtain ⟨rfl, q, t2, t3, e, rfl⟩ := hI
    have ma : a ∈ R := by rw [e]; simp
    have da := hR.good.dr a.2 (List.mem_map.mpr ⟨a, ma, rfl⟩)
    have hq : q.length < 10 := by have := congrArg List.length e; simp only [List.length_append, List.length_cons] at this; omega
    have hfl : (ptsN R q).length ≤ 100 := by
      rw [ptsN_len]
      exact Nat.le_trans (Nat.mul_le_mul (show q.length ≤ 10 by omega) hfew) (by decide)
    simp [deown, wipeE]
    refine lc_map cD (fun c => pD (turnB a.2 c.1)) R (by rw [sl_eq]; omega) (fun c hc X hX => ?_) ?_
    · have d2 := hR.good.dt c.1 (List.mem_map.mpr ⟨c, hc, rfl⟩)
      simp [S_turn]
      exact ⟨da, d2, (hR.sz a ma).2.mono (by decide), (hR.sz c hc).1.mono (by decide), hX⟩
    · have e6 : R.map (fun c => pD (turnB a.2 c.1)) = (R.map fun c => turnB a.2 c.1).map pD := by rw [List.map_map]; rfl
      rw [e6]
      have key := hX [.dat (rD R), .own p (.list ((ptsN R (q ++ [a])).map pD)), .dat (pD a.1), .dat (pD a.2), .no, .no, .no, .no, .no] b ⟨rfl, q ++ [a], _, _, by rw [e]; simp, rfl⟩
      rw [ptsN_snoc, List.map_append] at key
      exact ⟨by simp only [List.length_map]; exact Nat.le_trans (Nat.add_le_add hfl hfew) (by decide), key⟩
  · obtain ⟨rfl, q, t2, t3, e, rfl⟩ := hI
    rw [List.append_nil] at e
    subst e
    have er : ptsN R R = ptsRaw R := rfl
    rw [er]
    simp [S_in_order]
    refine ⟨by omega, fun a c hac => (ptsRaw_ok hR (a, c) hac).2.mono (by decide), fun p2 => ?_⟩
    have ep : lawOrd (ptsRaw R) = pts R := rfl
    rw [ep]
    simp [rg_map]
    refine ⟨by omega, ?_⟩
    refine for_l (fun k : Nat => PyData.int (k : Int)) (fun r ρ b' => b = b' ∧ ∃ (q : List Nat) (t8 : Sl), List.range (pts R).length = q ++ r ∧ ρ = [.dat (rD R), .dat (.list ((ptsRaw R).map pD)), t2, t3, .no, .no, .dat (.list ((pts R).map pD)), .own p2 (.list ((unlN (pts R) q.length).map pD)), t8]) (fun k r ρ b' hI X hX => ?_) (fun ρ b' hI => ?_) (List.range (pts R).length) _ _ ⟨rfl, [], .no, rfl, rfl⟩
    · obtain ⟨rfl, q, t8, e, rfl⟩ := hI
      obtain ⟨hk, _, hlt⟩ := range_at e
      subst hk
      have hm := Nat.mod_lt (q.length + 1) h0
      have ea := at_tp hlt
      have ea3 : atI ((pts R).map pD) (((q.length : Int) + 1).fmod ((pts R).length : Int)) = some (pD (tp (pts R) ((q.length + 1) % (pts R).length))) := by
        have efm : (((q.length : Int) + 1).fmod ((pts R).length : Int)) = (((q.length + 1) % (pts R).length : Nat) : Int) := fmod_nat (q.length + 1) (pts R).length
        rw [efm]; exact at_tp hm
      have oa := hok _ (tp_mem hlt)
      have oc := hok _ (tp_mem hm)
      have key := hX [.dat (rD R), .dat (.list ((ptsRaw R).map pD)), t2, t3, .no, .no, .dat (.list ((pts R).map pD)), .own p2 (.list ((unlN (pts R) (q.length + 1)).map pD)), .dat (.int (q.length : Nat))] b ⟨rfl, q ++ [q.length], .dat (.int (q.length : Nat)), by rw [e]; simp, by simp⟩
      rw [unlN_succ] at key
      simp [ea, ea3, h0', S_between]
      refine ⟨oa.1, oc.1, oa.2.mono (by decide), oc.2.mono (by decide), by rw [unlN_len]; omega, ?_⟩
      simpa using key
    · obtain ⟨rfl, q, t8, e, rfl⟩ := hI
      rw [List.append_nil] at e
      have : q.length = (pts R).length := by rw [← e, List.length_range]
      rw [this]
      simp
      exact h
def S_law_is_firm : SpF := fun ds Φ => as2 ds fun d e => asR d fun R => asP e fun t => RG R ∧ Dir t ∧ Sz 400 t ∧ (∀ r ∈ rsts R, put r t ∉ tops R) ∧ Φ (.bool true)
theorem cl__law_is_firm {P : Program} {w : World} {K : PySem.W.Frag} {mg : Str → Option Value} {base : Heap} (T : Txt K mg) : Cl P w K mg base "_law_is_firm" 4 (spP K S_law_is_firm) := by
  have h__law_put := cl__law_put (P := P) (w := w) (base := base) T
  have hl__law_put : 3 ≤ 3 := by decide
  refine cl_pure (k := 3) T.at__law_is_firm sc__law_is_firm (by decide) (fun ds Φ h => by obtain ⟨_, _, rfl, _⟩ := h; rfl) fun f cdv A outer s H hgd hr => ?_
  have nd := sc__law_is_firm.nd; have hu : (A.deeper (PyProof.Rows.envOfC "_law_is_firm" (defScope st__law_is_firm) s.heap.objs.size f cdv)).units + 65 < cLine := (by have := hr.un; omega)
  refine ⟨_, (ss_cons (ss 2 nd (d_lc [("top", 3), ("rest", 4)] rfl nd (i_it (v 0)) (by rfl) (fun _ _ _ _ _ => (g_tup (n := 2) rfl (g_cons (gv 3 nd) (g_cons (gv 4 nd) g_nil)))) (fun _ _ _ _ _ => ts_nil) (fun _ _ _ _ _ => (v 3)))) (ss_one (s_ret (de_eq hu (d_lc [("top", 3), ("rest", 4)] rfl nd (i_it (v 0)) (by rfl) (fun _ _ _ _ _ => (g_tup (n := 2) rfl (g_cons (gv 3 nd) (g_cons (gv 4 nd) g_nil)))) (fun _ _ _ _ _ => (ts_one (t_in hu (d_call (h__law_put.mono hl__law_put) hgd hr rfl (a_cons (v 4) (a_cons (v 1) a_nil))) (v 2)))) (fun _ _ _ _ _ => (v 4))) (d_lst a_nil))))), fun b ds Φ h => ?_⟩
  obtain ⟨_, _, rfl, R, rfl, t, rfl, hR, dt, ht, hf, h⟩ := h
  have hfew := hR.few
  simp [ρ0, deown, wipeE]
  refine lc_map cD (fun a => pD a.1) R (by rw [sl_eq]; omega) (fun a ha X hX => by simpa using hX) ?_
  have e : R.map (fun a => pD a.1) = (tops R).map pD := by unfold tops; rw [List.map_map]; rfl
  rw [e]
  refine lc_filt cD (fun _ => false) (fun _ => .none) R (by rw [sl_eq]; omega) (fun a ha X h1 h2 => ?_) ?_
  · have d2 := hR.good.dr a.2 (List.mem_map.mpr ⟨a, ha, rfl⟩)
    have hn := hf a.2 (List.mem_map.mpr ⟨a, ha, rfl⟩)
    simp [S_put, hn]
    exact ⟨d2, dt, (hR.sz a ha).2.mono (by decide), ht.mono (by decide), h2 rfl⟩
  · have e2 : R.filter (fun _ => false) = [] := by rw [List.filter_eq_nil_iff]; intro a _; simp
    rw [e2]
    have e0 : PyData.eqv (.list []) (.list []) = true := rfl
    simp [e0]
    exact h
def S_law_richest : SpF := fun ds Φ => as1 ds fun d => ∃ Ps : List (List P2), d = .list (Ps.map tP) ∧ Ps.length = 3 ∧ (∀ P ∈ Ps, PartOk P) ∧ ∀ P, PartOk P → Φ (tP P)
theorem cl__law_richest {P : Program} {w : World} {K : PySem.W.Frag} {mg : Str → Option Value} {base : Heap} (T : Txt K mg) : Cl P w K mg base "_law_richest" 7 (spP K S_law_richest) := by
  have h__law_ring := cl__law_ring (P := P) (w := w) (base := base) T
  have hl__law_ring : 6 ≤ 6 := by decide
  refine cl_pure (k := 6) T.at__law_richest sc__law_richest (by decide) (fun ds Φ h => by obtain ⟨_, rfl, _⟩ := h; rfl) fun f cdv A outer s H hgd hr => ?_
  have nd := sc__law_richest.nd; have hu : (A.deeper (PyProof.Rows.envOfC "_law_richest" (defScope st__law_richest) s.heap.objs.size f cdv)).units + 65 < cLine := (by have := hr.un; omega)
  refine ⟨_, (ss_cons (ss 1 nd (d_ix (v 0) d_int (fun _ _ => rfl))) (ss_cons (s_for PassesOwn.never rfl (i_it (d_slice (v 0) (o_some d_int) o_none)) (gv 2 nd) (ss_one (ss 1 nd (d_if (tc_gt (d_fn call_len fd_len boot_len rfl T.ml_len (a_cons (d_call (h__law_ring.mono hl__law_ring) hgd hr rfl (a_cons (v 2) a_nil)) a_nil)) (d_fn call_len fd_len boot_len rfl T.ml_len (a_cons (d_call (h__law_ring.mono hl__law_ring) hgd hr rfl (a_cons (v 1) a_nil)) a_nil))) (v 2) (v 1))))) (ss_one (s_ret (v 1))))), fun b ds Φ h => ?_⟩
  obtain ⟨_, rfl, Ps, rfl, h3, hP, h⟩ := h
  match Ps, h3 with
  | [P, Q, S], _ =>
    have k1 : cutD [tP P, tP Q, tP S] (some 1) none = [tP Q, tP S] := cut_drop (k := 1)
    simp [ρ0, at0, k1]
    refine for_l tP (fun r ρ b' => ∃ (B : List P2) (t2 : Sl), PartOk B ∧ (∀ X ∈ r, PartOk X) ∧ ρ = [.dat (.list [tP P, tP Q, tP S]), .dat (tP B), t2]) (fun a r ρ b' hI X hX => ?_) (fun ρ b' hI => ?_) [Q, S] _ _ ⟨P, .no, hP P (by simp), fun X hX => hP X (List.mem_cons_of_mem _ hX), rfl⟩
    · obtain ⟨B, t2, hB, hr, rfl⟩ := hI
      have ha := hr a (List.mem_cons_self ..)
      simp [S_law_ring]
      refine ⟨ha, fun R1 _ _ => ⟨hB, fun R2 _ _ => ?_⟩⟩
      split
      · exact hX _ _ ⟨a, _, ha, fun Y hY => hr Y (List.mem_cons_of_mem _ hY), rfl⟩
      · exact hX _ _ ⟨B, _, hB, fun Y hY => hr Y (List.mem_cons_of_mem _ hY), rfl⟩
    · obtain ⟨B, t2, hB, hr, rfl⟩ := hI
      simp
      exact h B hB
end K96

/-! KB15: promises: draws. -/
namespace K96
open PySem L2 DL
structure OkB (n : Nat) (b : Bag) : Prop where
  a : 0 ≤ b.1
  s0 : 0 ≤ b.2.1
  s1 : b.2.1 < 2147483647
  c0 : 0 ≤ b.2.2.1
  c1 : b.2.2.1 ≤ (n : Int)
  l : b.2.2.2.length ≤ 63
  p : ∀ c ∈ b.2.2.2, 0 ≤ c
theorem OkB.mono {n m : Nat} {b : Bag} (h : OkB n b) (hm : n ≤ m) : OkB m b := ⟨h.a, h.s0, h.s1, h.c0, by have := h.c1; omega, h.l, h.p⟩
@[simp] theorem bD0 (b : Bag) : bagD b 0 = .int b.1 := rfl
@[simp] theorem bD1 (b : Bag) : bagD b 1 = .int b.2.1 := rfl
@[simp] theorem bD2 (b : Bag) : bagD b 2 = .int b.2.2.1 := rfl
@[simp] theorem bD3 (b : Bag) : bagD b 3 = .list (b.2.2.2.map .int) := rfl
@[simp] theorem bS0 (b : Bag) (i : Int) : bagS b i 0 = (i, b.2) := rfl
@[simp] theorem bS1 (b : Bag) (i : Int) : bagS b i 1 = (b.1, i, b.2.2) := rfl
@[simp] theorem bS2 (b : Bag) (i : Int) : bagS b i 2 = (b.1, b.2.1, i, b.2.2.2) := rfl
theorem bCut (b : Bag) {n : Nat} (h : OkB n b) : ∃ c, 0 ≤ c ∧ atI (cutD (b.2.2.2.map PyData.int) (some b.2.2.1) none ++ [PyData.int 0]) 0 = some (.int c) := by
  obtain ⟨k, hk⟩ : ∃ k : Nat, b.2.2.1 = k := ⟨b.2.2.1.toNat, by have := h.c0; omega⟩
  rw [hk, cut_drop, ← List.map_drop]
  cases e : b.2.2.2.drop k with
  | nil => exact ⟨0, Int.le_refl _, at0⟩
  | cons c r => exact ⟨c, h.p c (List.mem_of_mem_drop (by rw [e]; simp)), at0⟩
def S_law_take : SpB := fun b ds Φ => as1 ds fun d => asI d fun m => ∃ n, OkB n b ∧ n ≤ 100000 ∧ 0 < m ∧ m < 1000000 ∧ ∀ v b', 0 ≤ v → v < m → OkB (n + 1) b' → Φ (.int v) b'
theorem cl__law_take {P : Program} {w : World} {K : PySem.W.Frag} {mg : Str → Option Value} {base : Heap} (T : Txt K mg) : Cl P w K mg base "_law_take" 1 (spB K S_law_take) := by
  refine cl_bag (k := 0) T.at__law_take sc__law_take (by decide) (fun b ds Φ h => by obtain ⟨_, rfl, _⟩ := h; rfl) fun f cdv A outer s H hgd hr => ?_
  have nd := sc__law_take.nd; have hu : (A.deeper (PyProof.Rows.envOfC "_law_take" (defScope st__law_take) s.heap.objs.size f cdv)).units + 65 < cLine := (by have := hr.un; omega)
  refine ⟨_, (ss_cons (s_if (te_eq hu (d_bagI 0 0) d_int) (ss_cons (ss 2 nd (d_ix (d_addA (d_slice (d_bagI 0 3) (o_some (d_bagI 0 2)) o_none) (d_lst (a_cons d_int a_nil))) d_int (fun _ _ => rfl))) (ss_cons (s_bagA 0 2 d_int) (ss_cons (s_if (tc_ge (v 2) (d_powA d_int d_int)) (ss_one (s_bagS 0 0 (v 2))) ss_nil) (ss_cons (ss 3 nd (d_addA (d_addA (d_mulA (d_bagI 0 1) d_int) (d_modA (d_ty call_int1 fd_int PyProof.Rows.boot_int rfl T.ml_int (a_cons (v 2) a_nil)) d_int)) (d_mulA d_int (d_bagI 0 2)))) (ss_one (s_bagS 0 1 (d_modA (d_ty call_int1 fd_int PyProof.Rows.boot_int rfl T.ml_int (a_cons (v 3) a_nil)) d_int))))))) ss_nil) (ss_cons (s_if (tc_gt (d_bagI 0 0) d_int) (ss_cons (ss 4 nd (d_modA (d_ty call_int1 fd_int PyProof.Rows.boot_int rfl T.ml_int (a_cons (d_bagI 0 0) a_nil)) (v 1))) (ss_cons (s_bagS 0 0 (d_divA (d_ty call_int1 fd_int PyProof.Rows.boot_int rfl T.ml_int (a_cons (d_bagI 0 0) a_nil)) (v 1))) (ss_one (s_ret (v 4))))) ss_nil) (ss_cons (ss 5 nd (d_modA (d_ty call_int1 fd_int PyProof.Rows.boot_int rfl T.ml_int (a_cons (d_mulA (d_addA (d_bagI 0 1) d_int) d_int) a_nil)) d_int)) (ss_cons (ss 6 nd (d_modA (d_ty call_int1 fd_int PyProof.Rows.boot_int rfl T.ml_int (a_cons (d_mulA (d_modA (d_ty call_int1 fd_int PyProof.Rows.boot_int rfl T.ml_int (a_cons (d_mulA (v 5) (v 5)) a_nil)) d_int) d_int) a_nil)) d_int)) (ss_one (s_ret (d_modA (d_ty call_int1 fd_int PyProof.Rows.boot_int rfl T.ml_int (a_cons (d_divA (v 6) d_int) a_nil)) (v 1)))))))), fun b ds Φ h => ?_⟩
  obtain ⟨_, rfl, m, rfl, n, hb, hn, hm0, hm1, h⟩ := h
  have m0 : ¬ m = 0 := by omega
  have cm : ∀ x, CDivA x m := fun x => cdiv (k := 20) (Bd.of 1000000 (by omega) (by decide)) (by decide) m0
  have c7 : ∀ x, CDivA x 7 := fun x => cdiv (k := 20) (Bd.of 7 (by decide) (by decide)) (by decide) (by decide)
  have fm0 : ∀ x, 0 ≤ Int.fmod x m := fun x => Int.fmod_nonneg_of_pos x hm0
  have fm1 : ∀ x, Int.fmod x m < m := fun x => Int.fmod_lt_of_pos x hm0
  obtain ⟨c, hc, ec⟩ := bCut b hb
  have hl := hb.l
  simp [ρ0, ec, m0, cm, c7]
  have ha := hb.a
  have hs0 := hb.s0
  have hs1 := hb.s1
  have hc0 := hb.c0
  have hc1 := hb.c1
  have hcut : (cutD (b.2.2.2.map PyData.int) (some b.2.2.1) none).length ≤ 16777215 := by
    obtain ⟨k, hk⟩ : ∃ k : Nat, b.2.2.1 = k := ⟨b.2.2.1.toNat, by omega⟩
    rw [hk, cut_drop, List.length_drop, List.length_map]; omega
  have fb : ∀ (x K : Int), 0 < K → K ≤ 4294967296 → Bd 33 (x.fmod K) := fun x K h1 h2 => by
    have a1 := Int.fmod_nonneg_of_pos x h1
    have a2 := Int.fmod_lt_of_pos x h1
    exact Bd.of 4294967296 (by omega) (by decide)
  have tail : ∀ (s i : Int) (b1 : Int), 0 ≤ s → s < 2147483647 → (CMulW (s + 1) 39373 ∧ CMulW (((s + 1) * 39373).fmod 1000000007) (((s + 1) * 39373).fmod 1000000007) ∧ CMulW ((((s + 1) * 39373).fmod 1000000007 * ((s + 1) * 39373).fmod 1000000007).fmod 998244353) 30011) := fun s i b1 h1 h2 =>
    ⟨(Bd.of (k := 33) 4294967296 (by omega) (by decide)).cm (Bd.of (k := 33) 39373 (by decide) (by decide)), (fb _ _ (by decide) (by decide)).cm (fb _ _ (by decide) (by decide)), (fb _ _ (by decide) (by decide)).cm (Bd.of (k := 33) 30011 (by decide) (by decide))⟩
  have fd0 : ∀ x, 0 ≤ x → 0 ≤ Int.fdiv x m := fun x hx => Int.fdiv_nonneg hx (Int.le_of_lt hm0)
  have k1 : CMulW b.2.1 48271 := (Bd.of (k := 33) 4294967296 (by omega) (by decide)).cm (Bd.of (k := 33) 48271 (by decide) (by decide))
  have k2 : CMulW 7919 (b.2.2.1 + 1) := (Bd.of (k := 33) 7919 (by decide) (by decide)).cm (Bd.of (k := 33) 4294967296 (by omega) (by decide))
  have k3 : CPow 10 18 := by unfold CPow; decide
  have s0 := Int.fmod_nonneg_of_pos (b.2.1 * 48271 + c.fmod 2147483647 + 7919 * (b.2.2.1 + 1)) (show (0 : Int) < 2147483647 by decide)
  have s1 := Int.fmod_lt_of_pos (b.2.1 * 48271 + c.fmod 2147483647 + 7919 * (b.2.2.1 + 1)) (show (0 : Int) < 2147483647 by decide)
  generalize (b.2.1 * 48271 + c.fmod 2147483647 + 7919 * (b.2.2.1 + 1)).fmod 2147483647 = s at s0 s1 ⊢
  have fin : ∀ v x, 0 ≤ v → v < m → 0 ≤ x → Φ (.int v) (x, s, b.2.2.1 + 1, b.2.2.2) := fun v x h1 h2 h3 => h v _ h1 h2 ⟨h3, s0, s1, by show 0 ≤ b.2.2.1 + 1; omega, by show b.2.2.1 + 1 ≤ ((n + 1 : Nat) : Int); omega, hb.l, hb.p⟩
  by_cases h0 : b.1 = 0
  · rw [if_pos h0]
    refine ⟨hcut, k3, ?_⟩
    by_cases h1 : 1000000000000000000 ≤ c
    · rw [if_pos h1]
      have h2 : 0 < c := by omega
      rw [if_pos h2]
      exact ⟨k1, k2, fin _ _ (fm0 _) (fm1 _) (fd0 _ hc)⟩
    · rw [if_neg h1, if_neg (by omega)]
      obtain ⟨t1, t2, t3⟩ := tail s 0 0 s0 s1
      refine ⟨k1, k2, t1, t2, t3, fin _ _ (fm0 _) (fm1 _) (by omega)⟩
  · rw [if_neg h0, if_pos (by omega)]
    exact h _ _ (fm0 _) (fm1 _) ⟨fd0 _ ha, hs0, hs1, hc0, by show b.2.2.1 ≤ ((n + 1 : Nat) : Int); omega, hb.l, hb.p⟩
def S_law_some : SpB := fun b ds Φ => as1 ds fun d => asL d fun xs => ∃ n, OkB n b ∧ n ≤ 100000 ∧ 0 < xs.length ∧ xs.length < 1000000 ∧ ∀ k x b', k < xs.length → xs[k]? = some x → OkB (n + 1) b' → Φ x b'
theorem cl__law_some {P : Program} {w : World} {K : PySem.W.Frag} {mg : Str → Option Value} {base : Heap} (T : Txt K mg) : Cl P w K mg base "_law_some" 2 (spB K S_law_some) := by
  have h__law_take := cl__law_take (P := P) (w := w) (base := base) T
  have hl__law_take : 1 ≤ 1 := by decide
  refine cl_bag (k := 1) T.at__law_some sc__law_some (by decide) (fun b ds Φ h => by obtain ⟨_, rfl, _⟩ := h; rfl) fun f cdv A outer s H hgd hr => ?_
  have nd := sc__law_some.nd; have hu : (A.deeper (PyProof.Rows.envOfC "_law_some" (defScope st__law_some) s.heap.objs.size f cdv)).units + 65 < cLine := (by have := hr.un; omega)
  refine ⟨_, (ss_one (s_ret (d_ix (v 1) (d_callB 0 (h__law_take.mono hl__law_take) hgd hr rfl rfl (by first | exact Or.inl rfl | exact Or.inr (Or.inl rfl) | exact Or.inr (Or.inr rfl)) (a_cons (d_fn call_len fd_len boot_len rfl T.ml_len (a_cons (v 1) a_nil)) a_nil)) (fun _ _ => rfl)))), fun b ds Φ h => ?_⟩
  obtain ⟨_, rfl, xs, rfl, n, hb, hn, h0, h1, h⟩ := h
  simp [ρ0, S_law_take]
  refine ⟨n, hb, hn, h0, by omega, fun v a1 a2 a3 a4 hv0 hv1 hb' => ?_⟩
  obtain ⟨k, rfl⟩ : ∃ k : Nat, v = k := ⟨v.toNat, by omega⟩
  have hk : k < xs.length := by omega
  exact ⟨_, at_nat (List.getElem?_eq_getElem hk), h k _ _ hk (List.getElem?_eq_getElem hk) hb'⟩
def S_law_mixed : SpB := fun b ds Φ => as1 ds fun d => asL d fun xs => ∃ n, OkB n b ∧ n ≤ 90000 ∧ xs.length ≤ 1000 ∧ ∀ ys b', (∀ x, x ∈ ys ↔ x ∈ xs) → ys.length = xs.length → OkB (n + xs.length) b' → Φ (.list ys) b'
theorem cl__law_mixed {P : Program} {w : World} {K : PySem.W.Frag} {mg : Str → Option Value} {base : Heap} (T : Txt K mg) : Cl P w K mg base "_law_mixed" 2 (spB K S_law_mixed) := by
  have h__law_take := cl__law_take (P := P) (w := w) (base := base) T
  have hl__law_take : 1 ≤ 1 := by decide
  refine cl_bag (k := 1) T.at__law_mixed sc__law_mixed (by decide) (fun b ds Φ h => by obtain ⟨_, rfl, _⟩ := h; rfl) fun f cdv A outer s H hgd hr => ?_
  have nd := sc__law_mixed.nd; have hu : (A.deeper (PyProof.Rows.envOfC "_law_mixed" (defScope st__law_mixed) s.heap.objs.size f cdv)).units + 65 < cLine := (by have := hr.un; omega)
  refine ⟨_, (ss_cons (s_own 2 nd rfl (by first | exact Or.inl rfl | exact Or.inr rfl) (by first | exact .inr rfl | exact .inl rfl)) (ss_cons (s_for PassesOwn.never rfl (i_it (v 1)) (gv 3 nd) (ss_one (s_insert 2 rfl (by first | exact Or.inl rfl | exact Or.inr (Or.inl rfl)) (a_cons (d_callB 0 (h__law_take.mono hl__law_take) hgd hr rfl rfl (by first | exact Or.inl rfl | exact Or.inr (Or.inl rfl) | exact Or.inr (Or.inr rfl)) (a_cons (d_lend 2 (d_addA (d_fn call_len fd_len boot_len rfl T.ml_len (a_cons (v 2) a_nil)) d_int)) a_nil)) (a_cons (v 3) a_nil))))) (ss_one (s_frz 2 (s_ret (v 2)))))), fun b ds Φ h => ?_⟩
  obtain ⟨_, rfl, xs, rfl, n, hb, hn, hl, h⟩ := h
  simp [ρ0]
  intro p
  have e0 : xs = xs.map id := by simp
  rw [e0]
  refine for_l id (fun r ρ b' => ∃ q ys t3, xs = q ++ r ∧ (∀ x, x ∈ ys ↔ x ∈ q) ∧ ys.length = q.length ∧ OkB (n + q.length) b' ∧ ρ = [.bag, .dat (.list xs), .own p (.list ys), t3]) (fun x r ρ b' hI X hX => ?_) (fun ρ b' hI => ?_) xs _ _ ⟨[], [], .no, rfl, fun _ => Iff.rfl, rfl, hb, by simp⟩
  · obtain ⟨q, ys, t3, e, hm, hy, hb', rfl⟩ := hI
    have h2 := congrArg List.length e
    simp only [List.length_append, List.length_cons] at h2
    simp [bare, flat, S_law_take]
    refine ⟨n + q.length, hb', by omega, by omega, fun v a1 a2 a3 a4 hv0 hv1 hb2 => ?_⟩
    refine ⟨by omega, hv0, by omega, hX _ _ ⟨q ++ [x], ys.take v.toNat ++ [x] ++ ys.drop v.toNat, .dat x, by rw [e]; simp, fun z => ?_, ?_, ?_, by simp⟩⟩
    · have ht : ∀ z, z ∈ ys ↔ z ∈ ys.take v.toNat ∨ z ∈ ys.drop v.toNat := fun z => by
        conv => lhs; rw [← List.take_append_drop v.toNat ys]
        exact List.mem_append
      have := hm z
      rw [ht] at this
      simp only [List.mem_append, List.mem_singleton] at this ⊢
      constructor
      · rintro ((w | w) | w)
        · exact .inl (this.mp (.inl w))
        · exact .inr w
        · exact .inl (this.mp (.inr w))
      · rintro (w | w)
        · rcases this.mpr w with v | v
          · exact .inl (.inl v)
          · exact .inr v
        · exact .inl (.inr w)
    · simp only [List.length_append, List.length_take, List.length_drop, List.length_singleton]; omega
    · simp only [List.length_append, List.length_singleton]
      exact hb2.mono (by omega)
  · obtain ⟨q, ys, t3, e, hm, hy, hb', rfl⟩ := hI
    rw [List.append_nil] at e
    subst e
    simp
    exact h ys b' hm hy hb'
def S_law_drawn : SpB := fun b ds Φ => as1 ds fun d => asI d fun m => ∃ n, OkB n b ∧ n ≤ 90000 ∧ 0 < m ∧ m ≤ 1000 ∧ ∀ p b', Dir p → Sz 12 p → OkB (n + 2) b' → Φ (pD p) b'
theorem cl__law_drawn_direction {P : Program} {w : World} {K : PySem.W.Frag} {mg : Str → Option Value} {base : Heap} (T : Txt K mg) : Cl P w K mg base "_law_drawn_direction" 3 (spB K S_law_drawn) := by
  have h__law_take := cl__law_take (P := P) (w := w) (base := base) T
  have hl__law_take : 1 ≤ 2 := by decide
  have h__law_direction := cl__law_direction (P := P) (w := w) (base := base) T
  have hl__law_direction : 2 ≤ 2 := by decide
  refine cl_bag (k := 2) T.at__law_drawn_direction sc__law_drawn_direction (by decide) (fun b ds Φ h => by obtain ⟨_, rfl, _⟩ := h; rfl) fun f cdv A outer s H hgd hr => ?_
  have nd := sc__law_drawn_direction.nd; have hu : (A.deeper (PyProof.Rows.envOfC "_law_drawn_direction" (defScope st__law_drawn_direction) s.heap.objs.size f cdv)).units + 65 < cLine := (by have := hr.un; omega)
  refine ⟨_, (ss_cons (s_par 2 3 rfl nd (a_cons (d_subA (d_callB 0 (h__law_take.mono hl__law_take) hgd hr rfl rfl (by first | exact Or.inl rfl | exact Or.inr (Or.inl rfl) | exact Or.inr (Or.inr rfl)) (a_cons (d_addA (d_mulA d_int (v 1)) d_int) a_nil)) (v 1)) (a_cons (d_callB 0 (h__law_take.mono hl__law_take) hgd hr rfl rfl (by first | exact Or.inl rfl | exact Or.inr (Or.inl rfl) | exact Or.inr (Or.inr rfl)) (a_cons (d_addA (v 1) d_int) a_nil)) a_nil))) (ss_one (s_ret (d_if (te_ne hu (d_tup (a_cons (v 2) (a_cons (v 3) a_nil))) (d_tup (a_cons d_int (a_cons d_int a_nil)))) (d_call (h__law_direction.mono hl__law_direction) hgd hr rfl (a_cons (v 2) (a_cons (v 3) a_nil))) (d_tup (a_cons d_int (a_cons d_int a_nil))))))), fun b ds Φ h => ?_⟩
  obtain ⟨_, rfl, m, rfl, n, hb, hn, hm0, hm1, h⟩ := h
  simp [ρ0, S_law_take]
  refine ⟨(Bd.of (k := 12) 2 (by decide) (by decide)).cm (Bd.of (k := 12) 1000 (by omega) (by decide)), n, hb, by omega, by omega, by omega, fun v a1 a2 a3 a4 hv0 hv1 hb1 => ⟨n + 1, hb1, by omega, by omega, by omega, fun w c1 c2 c3 c4 hw0 hw1 hb2 => ?_⟩⟩
  have bv : Bd 12 (v - m) := Bd.of 2000 (by omega) (by decide)
  have bw : Bd 12 w := Bd.of 1001 (by omega) (by decide)
  by_cases z : v - m = 0 ∧ w = 0
  · rw [if_pos z]
    exact h (1, 0) _ one_dir (sz10 (by decide)) hb2
  · rw [if_neg z]
    simp [S_direction]
    exact ⟨fun z1 z2 => z ⟨z1, z2⟩, bv.mono (by decide), bw.mono (by decide), h _ _ (dirn_dir z) (dirn_sz z bv bw) hb2⟩
end K96

/-! KB16: promises: drawn parts. -/
namespace K96
open PySem L2 DL
theorem cvx4 {p q r s : P2} (h1 : 0 < turn3 p q r) (h2 : 0 < turn3 p q s) (h3 : 0 < turn3 p r s) (h4 : 0 < turn3 q r s) : Cvx [p, q, r, s] := by
  intro i j k hij hjk hk
  simp only [List.length_cons, List.length_nil] at hk
  have : (i = 0 ∧ j = 1 ∧ k = 2) ∨ (i = 0 ∧ j = 1 ∧ k = 3) ∨ (i = 0 ∧ j = 2 ∧ k = 3) ∨ (i = 1 ∧ j = 2 ∧ k = 3) := by omega
  rcases this with ⟨rfl, rfl, rfl⟩ | ⟨rfl, rfl, rfl⟩ | ⟨rfl, rfl, rfl⟩ | ⟨rfl, rfl, rfl⟩
  · exact h1
  · exact h2
  · exact h3
  · exact h4
theorem part4 {p q r s : P2} (h1 : 0 < turn3 p q r) (h2 : 0 < turn3 p q s) (h3 : 0 < turn3 p r s) (h4 : 0 < turn3 q r s) (l1 : lexL p q) (l2 : lexL p r) (l3 : lexL p s)
    (f : ∀ x ∈ [p, q, r, s], x.1.natAbs ≤ 99 ∧ x.2.natAbs ≤ 99) : PartOk [p, q, r, s] :=
  ⟨cvx4 h1 h2 h3 h4, by simp, by simp, fun i h0 hi => by
    simp only [List.length_cons, List.length_nil] at hi
    match i, h0, hi with
    | 1, _, _ => exact l1
    | 2, _, _ => exact l2
    | 3, _, _ => exact l3, f⟩
theorem part3 {p q r : P2} (h1 : 0 < turn3 p q r) (l1 : lexL p q) (l2 : lexL p r) (f : ∀ x ∈ [p, q, r], x.1.natAbs ≤ 99 ∧ x.2.natAbs ≤ 99) : PartOk [p, q, r] :=
  ⟨fun i j k hij hjk hk => by
    simp only [List.length_cons, List.length_nil] at hk
    have : i = 0 ∧ j = 1 ∧ k = 2 := by omega
    obtain ⟨rfl, rfl, rfl⟩ := this
    exact h1, by simp, by simp, fun i h0 hi => by
    simp only [List.length_cons, List.length_nil] at hi
    match i, h0, hi with
    | 1, _, _ => exact l1
    | 2, _, _ => exact l2, f⟩
theorem rect_ok {a b : Int} (ha : 1 ≤ a) (hb : 1 ≤ b) (ha2 : a ≤ 6) (hb2 : b ≤ 6) : PartOk [(0, 0), (a, 0), (a, b), (0, b)] := by
  have m := Int.mul_pos (show (0 : Int) < a by omega) (show (0 : Int) < b by omega)
  refine part4 ?_ ?_ ?_ ?_ ?_ ?_ ?_ ?_
  · unfold turn3; simp only; grind
  · unfold turn3; simp only; grind
  · unfold turn3; simp only; grind
  · unfold turn3; simp only; grind
  · unfold lexL; dsimp only; omega
  · unfold lexL; dsimp only; omega
  · unfold lexL; dsimp only; omega
  · intro x hx
    simp only [List.mem_cons, List.not_mem_nil, or_false] at hx
    rcases hx with z | z | z | z <;> rw [z] <;> dsimp only <;> omega
theorem swung_ok {a b : Int} (ha : 1 ≤ a) (hb : 1 ≤ b) (ha2 : a ≤ 6) (hb2 : b ≤ 6) : PartOk [(0, 0), (a, -b), (a + b, a - b), (b, a)] := by
  have m := Int.mul_pos (show (0 : Int) < a by omega) (show (0 : Int) < a by omega)
  have m2 := Int.mul_pos (show (0 : Int) < b by omega) (show (0 : Int) < b by omega)
  refine part4 ?_ ?_ ?_ ?_ ?_ ?_ ?_ ?_
  · unfold turn3; simp only; grind
  · unfold turn3; simp only; grind
  · unfold turn3; simp only; grind
  · unfold turn3; simp only; grind
  · unfold lexL; dsimp only; omega
  · unfold lexL; dsimp only; omega
  · unfold lexL; dsimp only; omega
  · intro x hx
    simp only [List.mem_cons, List.not_mem_nil, or_false] at hx
    rcases hx with z | z | z | z <;> rw [z] <;> dsimp only <;> omega
theorem hull_part {l P : List P2} (h : HullOk l P) (hl : P.length ≤ 10) (hf : ∀ p ∈ l, p.1.natAbs ≤ 99 ∧ p.2.natAbs ≤ 99) : PartOk P := ⟨h.cvx, h.three, hl, h.least, fun p hp => hf p (h.sub p hp)⟩
theorem hull_len {l P : List P2} (h : HullOk l P) : P.length ≤ l.length := by
  refine len_sub ?_ h.sub
  have inj := h.cvx.inj h.three
  rw [List.nodup_iff_pairwise_ne, List.pairwise_iff_getElem]
  intro i j hi hj hij e
  have := inj i j hi hj (by unfold tp; rw [List.getD_eq_getElem?_getD, List.getD_eq_getElem?_getD, List.getElem?_eq_getElem hi, List.getElem?_eq_getElem hj, e])
  omega
@[simp] theorem none_tP (l : List P2) : isNone (tP l) = false := rfl
@[simp] theorem none_n : isNone .none = true := rfl
theorem hull_go {L : List P2} {Ψ : D → Prop} {c : Nat} (hL : ∀ p ∈ L, p.1.natAbs ≤ c ∧ p.2.natAbs ≤ c) (hl : L.length ≤ 20) (h1 : Ψ .none) (h2 : ∀ P, HullOk L P → Ψ (tP P)) (hc : c < 128 := by decide) : S_law_hull [.list (L.map pD)] Ψ :=
  ⟨_, rfl, L, rfl, by omega, fun p hp => ⟨Bd.of c (hL p hp).1 hc, Bd.of c (hL p hp).2 hc⟩, fun _ => h1, h2⟩
def S_law_part : SpB := fun b ds Φ => as1 ds fun d => asI d fun m => ∃ n, OkB n b ∧ n ≤ 80000 ∧ (m = 6 ∨ m = 7) ∧ ∀ P b', PartOk P → OkB (n + 300) b' → Φ (tP P) b'
theorem cl__law_part {P : Program} {w : World} {K : PySem.W.Frag} {mg : Str → Option Value} {base : Heap} (T : Txt K mg) : Cl P w K mg base "_law_part" 3 (spB K S_law_part) := by
  have h__law_take := cl__law_take (P := P) (w := w) (base := base) T
  have hl__law_take : 1 ≤ 2 := by decide
  have h__law_some := cl__law_some (P := P) (w := w) (base := base) T
  have hl__law_some : 2 ≤ 2 := by decide
  have h__law_hull := cl__law_hull (P := P) (w := w) (base := base) T
  have hl__law_hull : 2 ≤ 2 := by decide
  refine cl_bag (k := 2) T.at__law_part sc__law_part (by decide) (fun b ds Φ h => by obtain ⟨_, rfl, _⟩ := h; rfl) fun f cdv A outer s H hgd hr => ?_
  have nd := sc__law_part.nd; have hu : (A.deeper (PyProof.Rows.envOfC "_law_part" (defScope st__law_part) s.heap.objs.size f cdv)).units + 65 < cLine := (by have := hr.un; omega)
  refine ⟨_, (ss_cons (ss 2 nd (d_callB 0 (h__law_take.mono hl__law_take) hgd hr rfl rfl (by first | exact Or.inl rfl | exact Or.inr (Or.inl rfl) | exact Or.inr (Or.inr rfl)) (a_cons d_int a_nil))) (ss_cons (s_if (te_eq hu (v 2) d_int) (ss_cons (s_par 3 4 rfl nd (a_cons (d_addA d_int (d_callB 0 (h__law_take.mono hl__law_take) hgd hr rfl rfl (by first | exact Or.inl rfl | exact Or.inr (Or.inl rfl) | exact Or.inr (Or.inr rfl)) (a_cons d_int a_nil))) (a_cons (d_addA d_int (d_callB 0 (h__law_take.mono hl__law_take) hgd hr rfl rfl (by first | exact Or.inl rfl | exact Or.inr (Or.inl rfl) | exact Or.inr (Or.inr rfl)) (a_cons d_int a_nil))) a_nil))) (ss_one (s_ret (d_callB 0 (h__law_some.mono hl__law_some) hgd hr rfl rfl (by first | exact Or.inl rfl | exact Or.inr (Or.inl rfl) | exact Or.inr (Or.inr rfl)) (a_cons (d_lst (a_cons (d_tup (a_cons (d_tup (a_cons d_int (a_cons d_int a_nil))) (a_cons (d_tup (a_cons (v 3) (a_cons d_int a_nil))) (a_cons (d_tup (a_cons (v 3) (a_cons (v 4) a_nil))) (a_cons (d_tup (a_cons d_int (a_cons (v 4) a_nil))) a_nil))))) (a_cons (d_tup (a_cons (d_tup (a_cons d_int (a_cons d_int a_nil))) (a_cons (d_tup (a_cons (v 3) (a_cons d_int a_nil))) (a_cons (d_tup (a_cons (v 3) (a_cons (v 3) a_nil))) (a_cons (d_tup (a_cons d_int (a_cons (v 3) a_nil))) a_nil))))) (a_cons (d_tup (a_cons (d_tup (a_cons d_int (a_cons d_int a_nil))) (a_cons (d_tup (a_cons (v 3) (a_cons (d_neg (v 4)) a_nil))) (a_cons (d_tup (a_cons (d_addA (v 3) (v 4)) (a_cons (d_subA (v 3) (v 4)) a_nil))) (a_cons (d_tup (a_cons (v 4) (a_cons (v 3) a_nil))) a_nil))))) a_nil)))) a_nil))))) ss_nil) (ss_cons (s_if (te_eq hu (v 2) d_int) (ss_cons (s_par 3 4 rfl nd (a_cons (d_addA d_int (d_callB 0 (h__law_take.mono hl__law_take) hgd hr rfl rfl (by first | exact Or.inl rfl | exact Or.inr (Or.inl rfl) | exact Or.inr (Or.inr rfl)) (a_cons d_int a_nil))) (a_cons (d_addA d_int (d_callB 0 (h__law_take.mono hl__law_take) hgd hr rfl rfl (by first | exact Or.inl rfl | exact Or.inr (Or.inl rfl) | exact Or.inr (Or.inr rfl)) (a_cons d_int a_nil))) a_nil))) (ss_cons (ss 5 nd (d_addA (d_lst (a_cons (d_tup (a_cons (v 3) (a_cons (v 4) a_nil))) (a_cons (d_tup (a_cons (d_neg (v 4)) (a_cons (v 3) a_nil))) (a_cons (d_tup (a_cons (d_neg (v 3)) (a_cons (d_neg (v 4)) a_nil))) (a_cons (d_tup (a_cons (v 4) (a_cons (d_neg (v 3)) a_nil))) a_nil))))) (d_if (tc_gt (v 1) d_int) (d_lst (a_cons (d_tup (a_cons (v 3) (a_cons (d_neg (v 4)) a_nil))) (a_cons (d_tup (a_cons (v 4) (a_cons (v 3) a_nil))) (a_cons (d_tup (a_cons (d_neg (v 3)) (a_cons (v 4) a_nil))) (a_cons (d_tup (a_cons (d_neg (v 4)) (a_cons (d_neg (v 3)) a_nil))) a_nil))))) (d_lst a_nil)))) (ss_one (s_ret (d_call (h__law_hull.mono hl__law_hull) hgd hr rfl (a_cons (v 5) a_nil)))))) ss_nil) (ss_cons (s_for PassesOwn.never rfl (i_rg1 rfl T.ml_range (a_cons d_int a_nil)) (gv 6 nd) (ss_cons (s_setLc 5 [("k", 7)] rfl nd rfl rfl rfl (i_rg1 rfl T.ml_range (a_cons (d_addA d_int (d_callB 0 (h__law_take.mono hl__law_take) hgd hr rfl rfl (by first | exact Or.inl rfl | exact Or.inr (Or.inl rfl) | exact Or.inr (Or.inr rfl)) (a_cons (d_subA (v 1) d_int) a_nil))) a_nil)) (by rfl) (fun _ _ _ _ _ => (gv 7 nd)) (fun _ _ _ _ _ => ts_nil) (fun _ _ _ _ _ => (d_tup (a_cons (d_subA (d_callB 0 (h__law_take.mono hl__law_take) hgd hr rfl rfl (by first | exact Or.inl rfl | exact Or.inr (Or.inl rfl) | exact Or.inr (Or.inr rfl)) (a_cons d_int a_nil)) d_int) (a_cons (d_subA (d_callB 0 (h__law_take.mono hl__law_take) hgd hr rfl rfl (by first | exact Or.inl rfl | exact Or.inr (Or.inl rfl) | exact Or.inr (Or.inr rfl)) (a_cons d_int a_nil)) d_int) a_nil))))) (ss_cons (s_if (t_w (u_and (te_eq hu (v 2) d_int) (u_and1 (tc_gt (v 1) d_int)))) (ss_one (ss 5 nd (d_addA (d_slice (v 5) o_none (o_some d_int)) (d_lc [("x", 8), ("y", 9)] rfl nd (i_it (d_slice (v 5) o_none (o_some d_int))) (by rfl) (fun _ _ _ _ _ => (g_tup (n := 2) rfl (g_cons (gv 8 nd) (g_cons (gv 9 nd) g_nil)))) (fun _ _ _ _ _ => ts_nil) (fun _ _ _ _ _ => (d_tup (a_cons (d_subA d_int (v 8)) (a_cons (d_subA d_int (v 9)) a_nil)))))))) ss_nil) (ss_cons (ss 10 nd (d_call (h__law_hull.mono hl__law_hull) hgd hr rfl (a_cons (v 5) a_nil))) (ss_one (s_if (t_w (u_and (t_notN (v 10)) (u_and1 (tc_le (d_fn call_len fd_len boot_len rfl T.ml_len (a_cons (v 10) a_nil)) (v 1))))) (ss_one (s_ret (v 10))) ss_nil)))))) (ss_one (s_ret (d_tup (a_cons (d_tup (a_cons d_int (a_cons d_int a_nil))) (a_cons (d_tup (a_cons d_int (a_cons d_int a_nil))) (a_cons (d_tup (a_cons d_int (a_cons d_int a_nil))) a_nil)))))))))), fun b ds Φ h => ?_⟩
  obtain ⟨_, rfl, m, rfl, n, hb, hn, hm, h⟩ := h
  have hm7 : ¬ (7 : Int) < m := by omega
  have hm5 : (5 : Int) < m := by omega
  simp [ρ0, S_law_take]
  refine ⟨n, hb, by omega, fun w u1 u2 u3 u4 hw0 hw1 hb1 => ?_⟩
  by_cases h0 : w = 0
  · rw [if_pos h0]
    refine ⟨n + 1, hb1, by omega, fun a c1 c2 c3 c4 ha0 ha1 hb2 => ⟨n + 2, hb2, by omega, fun c e1 e2 e3 e4 hc0 hc1 hb3 => ?_⟩⟩
    simp [S_law_some]
    refine ⟨n + 3, hb3, by omega, fun k x f1 f2 f3 f4 hk hx hb4 => ?_⟩
    have r1 := rect_ok (a := 1 + a) (b := 1 + c) (by omega) (by omega) (by omega) (by omega)
    have r2 := rect_ok (a := 1 + a) (b := 1 + a) (by omega) (by omega) (by omega) (by omega)
    have r3 := swung_ok (a := 1 + a) (b := 1 + c) (by omega) (by omega) (by omega) (by omega)
    match k, hk, hx with
    | 0, _, hx => cases hx; exact h _ _ r1 (hb4.mono (by omega))
    | 1, _, hx => cases hx; exact h _ _ r2 (hb4.mono (by omega))
    | 2, _, hx => cases hx; exact h _ _ r3 (hb4.mono (by omega))
  · rw [if_neg h0]
    by_cases h1 : w = 1
    · rw [if_pos h1]
      refine ⟨n + 1, hb1, by omega, fun a c1 c2 c3 c4 ha0 ha1 hb2 => ⟨n + 2, hb2, by omega, fun c e1 e2 e3 e4 hc0 hc1 hb3 => ?_⟩⟩
      have es : PyData.list [.tuple [.int (2 + a), .int (1 + c)], .tuple [.int (-(1 + c)), .int (2 + a)], .tuple [.int (-(2 + a)), .int (-(1 + c))], .tuple [.int (1 + c), .int (-(2 + a))]] = .list (([(2 + a, 1 + c), (-(1 + c), 2 + a), (-(2 + a), -(1 + c)), (1 + c, -(2 + a))] : List P2).map pD) := rfl
      simp [hm7]
      refine ⟨_, rfl, _, es, by simp, fun p hp => ?_, fun hfl => ?_, fun P hP => ?_⟩
      · simp only [List.mem_cons, List.not_mem_nil, or_false] at hp
        rcases hp with z | z | z | z <;> rw [z] <;> exact ⟨Bd.of 6 (by dsimp only; omega) (by decide), Bd.of 6 (by dsimp only; omega) (by decide)⟩
      · exfalso
        have := hfl (2 + a, 1 + c) (by simp) (-(1 + c), 2 + a) (by simp) (-(2 + a), -(1 + c)) (by simp)
        have e : turn3 (2 + a, 1 + c) (-(1 + c), 2 + a) (-(2 + a), -(1 + c)) = (3 + a + c) * (3 + a + c) + (1 + a - c) * (1 + a - c) := by unfold turn3; dsimp only; grind
        have m1 := Int.mul_pos (show (0 : Int) < 3 + a + c by omega) (show (0 : Int) < 3 + a + c by omega)
        have m2 := sq_nn (1 + a - c)
        omega
      · have hlen := hull_len hP
        simp only [List.length_cons, List.length_nil] at hlen
        refine h _ _ (hull_part hP (by omega) fun p hp => ?_) (hb3.mono (by omega))
        simp only [List.mem_cons, List.not_mem_nil, or_false] at hp
        rcases hp with z | z | z | z <;> rw [z] <;> dsimp only <;> omega
    · rw [if_neg h1]
      have e9 : rgD 0 9 = (List.range 9).map fun k => .int (k : Nat) := rg_map 9
      rw [e9]
      refine for_l (fun k : Nat => PyData.int (k : Int)) (fun r ρ b' => ∃ (q : List Nat) (t5 t6 t10 : Sl), List.range 9 = q ++ r ∧ OkB (n + 1 + 20 * q.length) b' ∧ ρ = [.bag, .dat (.int m), .dat (.int w), .no, .no, t5, t6, .no, .no, .no, t10]) (fun k r ρ b' hI X hX => ?_) (fun ρ b' hI => ?_) (List.range 9) _ _ ⟨[], .no, .no, .no, rfl, hb1, rfl⟩
      · obtain ⟨q, t5, t6, t10, e, hb', rfl⟩ := hI
        have h2 := congrArg List.length e
        simp only [List.length_append, List.length_cons, List.length_range] at h2
        simp [S_law_take]
        refine ⟨n + 1 + 20 * q.length, hb', by omega, by omega, by omega, fun v c1 c2 c3 c4 hv0 hv1 hb2 => ⟨by omega, by omega, ?_⟩⟩
        obtain ⟨v, rfl⟩ : ∃ k : Nat, v = k := ⟨v.toNat, by omega⟩
        have e3 : rgD 0 (3 + (v : Int)) = (List.range (3 + v)).map fun k => .int (k : Nat) := rg_map (3 + v)
        rw [e3]
        simp [deown, wipeE]
        refine lc_l (fun k : Nat => PyData.int (k : Int)) (fun r acc b' => ∃ l : List P2, acc = l.map pD ∧ (∀ p ∈ l, p.1.natAbs ≤ 12 ∧ p.2.natAbs ≤ 12) ∧ l.length + r.length = 3 + v ∧ OkB (n + 2 + 20 * q.length + 2 * l.length) b') (fun j r acc b' hI X' hX' => ?_) (fun acc b' hI => ?_) (List.range (3 + v)) [] _ ⟨[], rfl, fun p hp => (by cases hp), by simp, hb2.mono (by simp; omega)⟩
        · obtain ⟨l, rfl, hl, hlen, hb3⟩ := hI
          simp only [List.length_cons] at hlen
          simp [S_law_take]
          refine ⟨_, hb3, by omega, fun x d1 d2 d3 d4 hx0 hx1 hb4 => ⟨_, hb4, by omega, fun y g1 g2 g3 g4 hy0 hy1 hb5 => ⟨by omega, hX' _ _ ⟨l ++ [(x - 6, y - 6)], by simp, fun p hp => ?_, by simp only [List.length_append, List.length_singleton]; omega, hb5.mono (by simp only [List.length_append, List.length_singleton]; omega)⟩⟩⟩⟩
          rcases List.mem_append.mp hp with z | z
          · exact hl p z
          · rw [List.mem_singleton.mp z]; dsimp only; omega
        · obtain ⟨l, rfl, hl, hlen, hb3⟩ := hI
          have hlen : l.length = 3 + v := hlen
          have hb4 : OkB (n + 1 + 20 * (q.length + 1)) b' := hb3.mono (by omega)
          have fin : ∀ (t5 t10 : Sl), X [.bag, .dat (.int m), .dat (.int w), .no, .no, t5, .dat (.int (k : Nat)), .no, .no, .no, t10] b' := fun t5 t10 => hX _ _ ⟨q ++ [k], t5, _, t10, by rw [e]; simp, by simpa using hb4, rfl⟩
          by_cases hw2 : w = 2
          · rw [if_pos hw2, if_pos hm5]
            have k3 : cutD (l.map pD) none (some 3) = (l.take 3).map pD := by have := cut_take (xs := l.map pD) (k := 3); rw [← List.map_take] at this; exact this
            have hl3 : (l.take 3).length ≤ 3 := by rw [List.length_take]; omega
            rw [k3]
            refine lc_map pD (fun p => pD (0 - p.1, 0 - p.2)) (l.take 3) (by rw [sl_eq]; omega) (fun p hp Y hY => by simpa using hY) ?_
            have e4 : (l.take 3).map (fun p => pD (0 - p.1, 0 - p.2)) = ((l.take 3).map fun p => ((0 - p.1, 0 - p.2) : P2)).map pD := by rw [List.map_map]; rfl
            rw [e4, ← List.map_append]
            have hL : ∀ p ∈ l.take 3 ++ (l.take 3).map (fun p => ((0 - p.1, 0 - p.2) : P2)), p.1.natAbs ≤ 12 ∧ p.2.natAbs ≤ 12 := fun p hp => by
              rcases List.mem_append.mp hp with z | z
              · exact hl p (List.mem_of_mem_take z)
              · obtain ⟨q', hq', rfl⟩ := List.mem_map.mp z
                have := hl q' (List.mem_of_mem_take hq')
                dsimp only; omega
            have hLl : (l.take 3 ++ (l.take 3).map (fun p => ((0 - p.1, 0 - p.2) : P2))).length ≤ 7 := by rw [List.length_append, List.length_map]; omega
            generalize l.take 3 ++ (l.take 3).map (fun p => ((0 - p.1, 0 - p.2) : P2)) = L at hL hLl
            refine ⟨by simp only [List.length_map]; omega, ?_⟩
            refine hull_go hL (by omega) (by simpa using fin _ _) (fun P hP => ?_)
            simp
            by_cases hz : (P.length : Int) ≤ m
            · rw [if_pos hz]
              exact h P _ (hull_part hP (by omega) fun p hp => by have := hL p hp; omega) (hb4.mono (by omega))
            · rw [if_neg hz]
              exact fin _ _
          · rw [if_neg hw2]
            have hLl : l.length ≤ 7 := by omega
            refine hull_go hl (by omega) (by simpa using fin _ _) (fun P hP => ?_)
            simp
            by_cases hz : (P.length : Int) ≤ m
            · rw [if_pos hz]
              exact h P _ (hull_part hP (by omega) fun p hp => by have := hl p hp; omega) (hb4.mono (by omega))
            · rw [if_neg hz]
              exact fin _ _
      · obtain ⟨q, t5, t6, t10, e, hb', rfl⟩ := hI
        rw [List.append_nil] at e
        have hq : q.length = 9 := by rw [← e]; rfl
        simp
        exact h [(0, 0), (7, 0), (2, 4)] _ (part3 (by decide) (by unfold lexL; decide) (by unfold lexL; decide) (by decide)) (hb'.mono (by omega))
end K96

/-! KB17: promises: drawn parts that are their own mirror images. -/
namespace K96
open PySem L2 DL
def S_law_tied : SpB := fun b ds Φ => as1 ds fun d => asI d fun m => ∃ n, OkB n b ∧ n ≤ 80000 ∧ m = 6 ∧ ∀ P b', PartOk P → OkB (n + 300) b' → Φ (tP P) b'
theorem tied_end : PartOk [(-3, 0), (3, 0), (1, 4), (-1, 4)] := part4 (by decide) (by decide) (by decide) (by decide) (by unfold lexL; decide) (by unfold lexL; decide) (by unfold lexL; decide) (by decide)
theorem cl__law_tied {P : Program} {w : World} {K : PySem.W.Frag} {mg : Str → Option Value} {base : Heap} (T : Txt K mg) : Cl P w K mg base "_law_tied" 3 (spB K S_law_tied) := by
  have h__law_take := cl__law_take (P := P) (w := w) (base := base) T
  have hl__law_take : 1 ≤ 2 := by decide
  have h__law_hull := cl__law_hull (P := P) (w := w) (base := base) T
  have hl__law_hull : 2 ≤ 2 := by decide
  refine cl_bag (k := 2) T.at__law_tied sc__law_tied (by decide) (fun b ds Φ h => by obtain ⟨_, rfl, _⟩ := h; rfl) fun f cdv A outer s H hgd hr => ?_
  have nd := sc__law_tied.nd; have hu : (A.deeper (PyProof.Rows.envOfC "_law_tied" (defScope st__law_tied) s.heap.objs.size f cdv)).units + 65 < cLine := (by have := hr.un; omega)
  refine ⟨_, (ss_cons (s_for PassesOwn.never rfl (i_rg1 rfl T.ml_range (a_cons d_int a_nil)) (gv 2 nd) (ss_cons (s_setLc 3 [("k", 4)] rfl nd rfl rfl rfl (i_rg1 rfl T.ml_range (a_cons (d_addA d_int (d_callB 0 (h__law_take.mono hl__law_take) hgd hr rfl rfl (by first | exact Or.inl rfl | exact Or.inr (Or.inl rfl) | exact Or.inr (Or.inr rfl)) (a_cons (d_subA (d_ty call_int1 fd_int PyProof.Rows.boot_int rfl T.ml_int (a_cons (d_divA (v 1) d_int) a_nil)) d_int) a_nil))) a_nil)) (by rfl) (fun _ _ _ _ _ => (gv 4 nd)) (fun _ _ _ _ _ => ts_nil) (fun _ _ _ _ _ => (d_tup (a_cons (d_addA d_int (d_callB 0 (h__law_take.mono hl__law_take) hgd hr rfl rfl (by first | exact Or.inl rfl | exact Or.inr (Or.inl rfl) | exact Or.inr (Or.inr rfl)) (a_cons d_int a_nil))) (a_cons (d_subA (d_callB 0 (h__law_take.mono hl__law_take) hgd hr rfl rfl (by first | exact Or.inl rfl | exact Or.inr (Or.inl rfl) | exact Or.inr (Or.inr rfl)) (a_cons d_int a_nil)) d_int) a_nil))))) (ss_cons (ss 3 nd (d_addA (v 3) (d_lc [("x", 5), ("y", 6)] rfl nd (i_it (v 3)) (by rfl) (fun _ _ _ _ _ => (g_tup (n := 2) rfl (g_cons (gv 5 nd) (g_cons (gv 6 nd) g_nil)))) (fun _ _ _ _ _ => ts_nil) (fun _ _ _ _ _ => (d_tup (a_cons (d_subA d_int (v 5)) (a_cons (v 6) a_nil))))))) (ss_cons (ss 3 nd (d_addA (v 3) (d_if (te_eq hu (d_callB 0 (h__law_take.mono hl__law_take) hgd hr rfl rfl (by first | exact Or.inl rfl | exact Or.inr (Or.inl rfl) | exact Or.inr (Or.inr rfl)) (a_cons d_int a_nil)) d_int) (d_lst (a_cons (d_tup (a_cons d_int (a_cons (d_subA (d_callB 0 (h__law_take.mono hl__law_take) hgd hr rfl rfl (by first | exact Or.inl rfl | exact Or.inr (Or.inl rfl) | exact Or.inr (Or.inr rfl)) (a_cons d_int a_nil)) d_int) a_nil))) a_nil)) (d_lst a_nil)))) (ss_cons (ss 7 nd (d_call (h__law_hull.mono hl__law_hull) hgd hr rfl (a_cons (d_if (te_eq hu (d_callB 0 (h__law_take.mono hl__law_take) hgd hr rfl rfl (by first | exact Or.inl rfl | exact Or.inr (Or.inl rfl) | exact Or.inr (Or.inr rfl)) (a_cons d_int a_nil)) d_int) (v 3) (d_lc [("x", 5), ("y", 6)] rfl nd (i_it (v 3)) (by rfl) (fun _ _ _ _ _ => (g_tup (n := 2) rfl (g_cons (gv 5 nd) (g_cons (gv 6 nd) g_nil)))) (fun _ _ _ _ _ => ts_nil) (fun _ _ _ _ _ => (d_tup (a_cons (d_subA d_int (v 6)) (a_cons (v 5) a_nil)))))) a_nil))) (ss_one (s_if (t_w (u_and (t_notN (v 7)) (u_and1 (tc_le (d_fn call_len fd_len boot_len rfl T.ml_len (a_cons (v 7) a_nil)) (v 1))))) (ss_one (s_ret (v 7))) ss_nil))))))) (ss_one (s_ret (d_tup (a_cons (d_tup (a_cons (d_neg d_int) (a_cons d_int a_nil))) (a_cons (d_tup (a_cons d_int (a_cons d_int a_nil))) (a_cons (d_tup (a_cons d_int (a_cons d_int a_nil))) (a_cons (d_tup (a_cons (d_neg d_int) (a_cons d_int a_nil))) a_nil)))))))), fun b ds Φ h => ?_⟩
  obtain ⟨_, rfl, m, rfl, n, hb, hn, rfl, h⟩ := h
  have e6 : rgD 0 6 = (List.range 6).map fun k => .int (k : Nat) := rg_map 6
  have cd2 : CDivA 6 2 := cdiv (k := 20) (Bd.of 2 (by decide) (by decide)) (by decide) (by decide)
  simp only [ρ0]
  simp [e6]
  refine for_l (fun k : Nat => PyData.int (k : Int)) (fun r ρ b' => ∃ (q : List Nat) (t2 t3 t7 : Sl), List.range 6 = q ++ r ∧ OkB (n + 20 * q.length) b' ∧ ρ = [.bag, .dat (.int 6), t2, t3, .no, .no, .no, t7]) (fun k r ρ b' hI X hX => ?_) (fun ρ b' hI => ?_) (List.range 6) _ _ ⟨[], .no, .no, .no, rfl, hb, rfl⟩
  · obtain ⟨q, t2, t3, t7, e, hb', rfl⟩ := hI
    have h2 := congrArg List.length e
    simp only [List.length_append, List.length_cons, List.length_range] at h2
    simp [S_law_take, cd2]
    refine ⟨n + 20 * q.length, hb', by omega, fun v c1 c2 c3 c4 hv0 hv1 hb2 => ⟨by omega, by omega, ?_⟩⟩
    obtain ⟨v, rfl⟩ : ∃ k : Nat, v = k := ⟨v.toNat, by omega⟩
    have e3 : rgD 0 (2 + (v : Int)) = (List.range (2 + v)).map fun k => .int (k : Nat) := rg_map (2 + v)
    rw [e3]
    simp [deown, wipeE]
    refine lc_l (fun k : Nat => PyData.int (k : Int)) (fun r acc b' => ∃ l : List P2, acc = l.map pD ∧ (∀ p ∈ l, p.1.natAbs ≤ 12 ∧ p.2.natAbs ≤ 12) ∧ l.length + r.length = 2 + v ∧ OkB (n + 1 + 20 * q.length + 2 * l.length) b') (fun j r acc b' hI X' hX' => ?_) (fun acc b' hI => ?_) (List.range (2 + v)) [] _ ⟨[], rfl, fun p hp => (by cases hp), by simp, hb2.mono (by simp; omega)⟩
    · obtain ⟨l, rfl, hl, hlen, hb3⟩ := hI
      simp only [List.length_cons] at hlen
      simp [S_law_take]
      refine ⟨_, hb3, by omega, fun x d1 d2 d3 d4 hx0 hx1 hb4 => ⟨_, hb4, by omega, fun y g1 g2 g3 g4 hy0 hy1 hb5 => ⟨by omega, hX' _ _ ⟨l ++ [(1 + x, y - 6)], by simp, fun p hp => ?_, by simp only [List.length_append, List.length_singleton]; omega, hb5.mono (by simp only [List.length_append, List.length_singleton]; omega)⟩⟩⟩⟩
      rcases List.mem_append.mp hp with z | z
      · exact hl p z
      · rw [List.mem_singleton.mp z]; dsimp only; omega
    · obtain ⟨l, rfl, hl, hlen, hb3⟩ := hI
      have hlen : l.length = 2 + v := hlen
      have l3 : l.length ≤ 3 := by omega
      refine lc_map pD (fun p => pD (0 - p.1, p.2)) l (by rw [sl_eq]; omega) (fun p hp Y hY => by simpa using hY) ?_
      have e4 : l.map (fun p => pD (0 - p.1, p.2)) = (l.map fun p => ((0 - p.1, p.2) : P2)).map pD := by rw [List.map_map]; rfl
      rw [e4, ← List.map_append]
      have hL : ∀ p ∈ l ++ l.map (fun p => ((0 - p.1, p.2) : P2)), p.1.natAbs ≤ 12 ∧ p.2.natAbs ≤ 12 := fun p hp => by
        rcases List.mem_append.mp hp with z | z
        · exact hl p z
        · obtain ⟨q', hq', rfl⟩ := List.mem_map.mp z
          have := hl q' hq'
          dsimp only; omega
      have hLl : (l ++ l.map (fun p => ((0 - p.1, p.2) : P2))).length ≤ 6 := by rw [List.length_append, List.length_map]; omega
      generalize hLe : l ++ l.map (fun p => ((0 - p.1, p.2) : P2)) = L at hL hLl
      refine ⟨by simp only [List.length_map]; omega, ?_⟩
      have fin : ∀ (t3 t7 : Sl) (b2 : Bag), OkB (n + 20 * (q.length + 1)) b2 → X [.bag, .dat (.int 6), .dat (.int (k : Nat)), t3, .no, .no, .no, t7] b2 := fun t3 t7 b2 hb => hX _ _ ⟨q ++ [k], _, t3, t7, by rw [e]; simp, by simpa using hb, rfl⟩
      refine ⟨_, hb3, by omega, fun v1 i1 i2 i3 i4 hv10 hv11 hb4 => ?_⟩
      by_cases hv1 : v1 = 0
      · rw [if_pos hv1]
        refine ⟨_, hb4, by omega, fun y j1 j2 j3 j4 hy0 hy1 hb5 => ⟨by simp only [List.length_map]; omega, _, hb5, by omega, fun v2 k1 k2 k3 k4 hv20 hv21 hb6 => ?_⟩⟩
        have eM : List.map pD l ++ (List.map pD (List.map (fun p => ((0 - p.1, p.2) : P2)) l) ++ [PyData.tuple [PyData.int 0, PyData.int (y - 8)]]) = (L ++ [(0, y - 8)]).map pD := by rw [← hLe]; simp
        rw [eM]
        have hM : ∀ p ∈ L ++ [((0, y - 8) : P2)], p.1.natAbs ≤ 13 ∧ p.2.natAbs ≤ 13 := fun p hp => by
          rcases List.mem_append.mp hp with z | z
          · have := hL p z; omega
          · rw [List.mem_singleton.mp z]; dsimp only; omega
        have hMl : (L ++ [((0, y - 8) : P2)]).length ≤ 7 := by rw [List.length_append, List.length_singleton]; omega
        generalize L ++ [((0, y - 8) : P2)] = M at hM hMl
        have hb7 : OkB (n + 20 * (q.length + 1)) (k1, k2, k3, k4) := hb6.mono (by omega)
        by_cases hv2 : v2 = 0
        · rw [if_pos hv2]
          refine hull_go hM (by omega) (by simpa using fin _ _ _ hb7) (fun P hP => ?_)
          simp
          by_cases hz : (P.length : Int) ≤ 6
          · rw [if_pos hz]
            exact h P _ (hull_part hP (by omega) fun p hp => by have := hM p hp; omega) (OkB.mono hb7 (by omega))
          · rw [if_neg hz]
            exact fin _ _ _ hb7
        · rw [if_neg hv2]
          refine lc_map pD (fun p => pD (0 - p.2, p.1)) M (by rw [sl_eq]; omega) (fun p hp Y hY => by simpa using hY) ?_
          have e7 : M.map (fun p => pD (0 - p.2, p.1)) = (M.map fun p => ((0 - p.2, p.1) : P2)).map pD := by rw [List.map_map]; rfl
          rw [e7]
          have hM2 : ∀ p ∈ M.map (fun p => ((0 - p.2, p.1) : P2)), p.1.natAbs ≤ 13 ∧ p.2.natAbs ≤ 13 := fun p hp => by
            obtain ⟨q', hq', rfl⟩ := List.mem_map.mp hp
            have := hM q' hq'
            dsimp only; omega
          refine hull_go hM2 (by rw [List.length_map]; omega) (by simpa using fin _ _ _ hb7) (fun P hP => ?_)
          simp
          by_cases hz : (P.length : Int) ≤ 6
          · rw [if_pos hz]
            exact h P _ (hull_part hP (by omega) fun p hp => by have := hM2 p hp; omega) (OkB.mono hb7 (by omega))
          · rw [if_neg hz]
            exact fin _ _ _ hb7
      · rw [if_neg hv1]
        refine ⟨by simp only [List.length_map]; omega, _, hb4, by omega, fun v2 k1 k2 k3 k4 hv20 hv21 hb6 => ?_⟩
        have hM : ∀ p ∈ L, p.1.natAbs ≤ 13 ∧ p.2.natAbs ≤ 13 := fun p hp => by have := hL p hp; omega
        have hMl : L.length ≤ 7 := by omega
        generalize L = M at hM hMl
        have hb7 : OkB (n + 20 * (q.length + 1)) (k1, k2, k3, k4) := hb6.mono (by omega)
        by_cases hv2 : v2 = 0
        · rw [if_pos hv2]
          refine hull_go hM (by omega) (by simpa using fin _ _ _ hb7) (fun P hP => ?_)
          simp
          by_cases hz : (P.length : Int) ≤ 6
          · rw [if_pos hz]
            exact h P _ (hull_part hP (by omega) fun p hp => by have := hM p hp; omega) (OkB.mono hb7 (by omega))
          · rw [if_neg hz]
            exact fin _ _ _ hb7
        · rw [if_neg hv2]
          refine lc_map pD (fun p => pD (0 - p.2, p.1)) M (by rw [sl_eq]; omega) (fun p hp Y hY => by simpa using hY) ?_
          have e7 : M.map (fun p => pD (0 - p.2, p.1)) = (M.map fun p => ((0 - p.2, p.1) : P2)).map pD := by rw [List.map_map]; rfl
          rw [e7]
          have hM2 : ∀ p ∈ M.map (fun p => ((0 - p.2, p.1) : P2)), p.1.natAbs ≤ 13 ∧ p.2.natAbs ≤ 13 := fun p hp => by
            obtain ⟨q', hq', rfl⟩ := List.mem_map.mp hp
            have := hM q' hq'
            dsimp only; omega
          refine hull_go hM2 (by rw [List.length_map]; omega) (by simpa using fin _ _ _ hb7) (fun P hP => ?_)
          simp
          by_cases hz : (P.length : Int) ≤ 6
          · rw [if_pos hz]
            exact h P _ (hull_part hP (by omega) fun p hp => by have := hM2 p hp; omega) (OkB.mono hb7 (by omega))
          · rw [if_neg hz]
            exact fin _ _ _ hb7
  · obtain ⟨q, t2, t3, t7, e, hb', rfl⟩ := hI
    rw [List.append_nil] at e
    have hq : q.length = 6 := by rw [← e]; rfl
    simp
    exact h _ _ tied_end (hb'.mono (by omega))
end K96

/-! DL24: int(text). -/
namespace DL
open PySem L2
section
variable {K : PySem.W.Frag}
def oIntS : OpF := fun ds Φ => ∃ a n, ds = [.str a] ∧ PySem.intText? a = some n ∧ a.length ≤ 640 ∧ Φ (.int n)
theorem fd_intS : FnD K (fun xs H Q => ∃ a n, xs = [.str a] ∧ PySem.intText? a = some n ∧ a.length ≤ 640 ∧ Q (.int n) H) oIntS := by
  intro hs H vs ds Φ Q _ r ⟨a, n, e, h1, h2, h⟩ q
  subst e
  match vs, r with
  | _, .cons r1 .nil => rw [r1.str_inv]; exact ⟨a, n, rfl, h1, h2, q _ _ _ h (Same.refl _) (.int _)⟩
end
end DL

/-! KS: texts of parts, in plain lists of signs. -/
namespace K96
open PySem L2 DL
abbrev tl (x : Str) : List Nat := TL.tl x
/-- the words of a row -/
def wd (l : List Nat) : List (List Nat) := (TL.spl [32] 0 [] l).filter fun p => decide (p ≠ [])
/-- what stands before a remark -/
def hd (l : List Nat) : List Nat := (TL.spl [35] 0 [] l).headD []
theorem wd_nil : wd [] = [] := rfl
theorem wd_sp (l : List Nat) : wd (32 :: l) = wd l := by
  unfold wd
  have := TL.spl_part1 (s := 32) (S := []) (p := []) (rest := l) (acc := []) (by simp)
  simp only [List.nil_append, List.cons_append] at this
  rw [this]; rfl
theorem wd_word {w l : List Nat} (h : w ≠ []) (hs : 32 ∉ w) : wd (w ++ 32 :: l) = w :: wd l := by
  unfold wd
  have := TL.spl_part1 (s := 32) (S := []) (p := w) (rest := l) (acc := []) hs
  simp only [List.nil_append, List.cons_append] at this
  rw [this, List.filter_cons_of_pos (by simpa using h)]
theorem wd_last {w : List Nat} (h : w ≠ []) (hs : 32 ∉ w) : wd w = [w] := by
  unfold wd
  rw [TL.spl_last1 hs, List.nil_append, List.filter_cons_of_pos (by simpa using h)]; rfl
theorem hd_cut {p l : List Nat} (hs : 35 ∉ p) : hd (p ++ 35 :: l) = p := by
  unfold hd
  have := TL.spl_part1 (s := 35) (S := []) (p := p) (rest := l) (acc := []) hs
  simp only [List.nil_append, List.cons_append] at this
  rw [this]; rfl
theorem hd_all {p : List Nat} (hs : 35 ∉ p) : hd p = p := by
  unfold hd
  rw [TL.spl_last1 hs]; rfl
/-- pieces hold signs of the whole -/
theorem spl_mem (S : List Nat) : ∀ (l : List Nat) (k : Nat) (acc : List Nat), ∀ p ∈ TL.spl S k acc l, ∀ c ∈ p, c ∈ acc ∨ c ∈ l
  | [], k, acc, p, hp, c, hc => by
    rw [TL.spl_nil, List.mem_singleton] at hp
    left; rw [← hp]; exact hc
  | d :: l, 0, acc, p, hp, c, hc => by
    by_cases z : TL.pre S (d :: l) = true
    · rw [TL.spl_hit z] at hp
      rcases List.mem_cons.mp hp with w | w
      · left; rw [← w]; exact hc
      · rcases spl_mem S l _ [] p w c hc with v | v
        · cases v
        · right; exact List.mem_cons_of_mem _ v
    · rw [TL.spl_miss (by simpa using z)] at hp
      rcases spl_mem S l 0 (acc ++ [d]) p hp c hc with v | v
      · rcases List.mem_append.mp v with u | u
        · exact .inl u
        · right; rw [List.mem_singleton.mp u]; simp
      · right; exact List.mem_cons_of_mem _ v
  | d :: l, k + 1, acc, p, hp, c, hc => by
    have hp : p ∈ TL.spl S k acc l := hp
    rcases spl_mem S l k acc p hp c hc with v | v
    · exact .inl v
    · right; exact List.mem_cons_of_mem _ v
theorem spl_ne (S : List Nat) : ∀ (l : List Nat) (k : Nat) (acc : List Nat), TL.spl S k acc l ≠ []
  | [], k, acc => by rw [TL.spl_nil]; simp
  | d :: l, 0, acc => by
    by_cases z : TL.pre S (d :: l) = true
    · rw [TL.spl_hit z]; simp
    · rw [TL.spl_miss (by simpa using z)]; exact spl_ne S l 0 _
  | d :: l, k + 1, acc => spl_ne S l k acc
theorem spl_len (S : List Nat) : ∀ (l : List Nat) (k : Nat) (acc : List Nat), (TL.spl S k acc l).length ≤ l.length + 1
  | [], k, acc => by rw [TL.spl_nil]; simp
  | d :: l, 0, acc => by
    by_cases z : TL.pre S (d :: l) = true
    · rw [TL.spl_hit z]
      have := spl_len S l (S.length - 1) []
      simp only [List.length_cons]; omega
    · rw [TL.spl_miss (by simpa using z)]
      have := spl_len S l 0 (acc ++ [d])
      simp only [List.length_cons]; omega
  | d :: l, k + 1, acc => by
    have := spl_len S l k acc
    show (TL.spl S k acc l).length ≤ _
    simp only [List.length_cons]; omega
/-- the word 'corner' -/
def cW : List Nat := [99, 111, 114, 110, 101, 114]
theorem iL_free {i : Int} {s : Nat} (h : s ≠ 45) (h2 : s < 48 ∨ 57 < s) : s ∉ iL i := fun hm => by
  have := iL_sign hm; omega
/-- the words of a loosened row -/
theorem wd_row {x y : Int} {lead sep trail : List Nat} (h1 : lead = [] ∨ lead = [32]) (h2 : sep = [32] ∨ sep = [32, 32]) (h3 : trail = [] ∨ trail = [32]) :
    wd (lead ++ (cW ++ (sep ++ (iL x ++ (sep ++ (iL y ++ trail)))))) = [cW, iL x, iL y] := by
  have c1 : cW ≠ [] := by decide
  have c2 : 32 ∉ cW := by decide
  have x1 := iL_ne x
  have y1 := iL_ne y
  have x2 : 32 ∉ iL x := iL_free (by decide) (by decide)
  have y2 : 32 ∉ iL y := iL_free (by decide) (by decide)
  have hlead : ∀ l, wd (lead ++ l) = wd l := fun l => h1.elim (fun z => by rw [z]; rfl) (fun z => by rw [z]; exact wd_sp l)
  have hsep : ∀ w l, w ≠ [] → 32 ∉ w → wd (w ++ (sep ++ l)) = w :: wd l := fun w l a c => by
    rcases h2 with z | z <;> rw [z]
    · exact wd_word a c
    · show wd (w ++ 32 :: (32 :: l)) = _
      rw [wd_word a c, wd_sp]
  rw [hlead, hsep _ _ c1 c2, hsep _ _ x1 x2]
  rcases h3 with z | z <;> rw [z]
  · rw [List.append_nil, wd_last y1 y2]
  · rw [wd_word y1 y2, wd_nil]
/-- a row of a text -/
structure LnOk (l : Str) : Prop where
  s : ∀ c ∈ tl l, c < 128 ∧ c ≠ 10
  n : l.length ≤ 1000
def wordsL (l : Str) : List (List Nat) := wd (hd (tl l))
/-- a text that tells couples -/
structure TextOf (ps : List P2) (T : Str) : Prop where
  ex : ∃ ls : List Str, T = Txt.join "\n" ls ∧ ls ≠ [] ∧ ls.length ≤ 200 ∧ (∀ l ∈ ls, LnOk l) ∧ (ls.map wordsL).filter (fun w => decide (w ≠ [])) = ps.map fun p => [cW, iL p.1, iL p.2]
def rowS (p : P2) : Str := ("corner " : Str) ++ toString p.1 ++ (" " : Str) ++ toString p.2
theorem tl_rowS (p : P2) : tl (rowS p) = cW ++ ([32] ++ (iL p.1 ++ ([32] ++ iL p.2))) := by
  unfold rowS
  show TL.tl _ = _
  rw [TL.tl_append, TL.tl_append, TL.tl_append]
  have e1 : TL.tl ("corner " : Str) = cW ++ [32] := rfl
  have e2 : TL.tl (" " : Str) = [32] := rfl
  rw [e1, e2]
  show (cW ++ [32] ++ iL p.1 ++ [32]) ++ iL p.2 = _
  simp
theorem split_row (p : P2) : (Txt.split (rowS p) " ").map TL.tl = [cW, iL p.1, iL p.2] := by
  rw [TL.split_spl _ _ (by decide) (TL.kind_ok (by decide +kernel))]
  have e2 : TL.tl (" " : Str) = [32] := rfl
  have e3 := tl_rowS p
  rw [e2]
  have e3 : TL.tl (rowS p) = TL.joinL [32] [cW, iL p.1, iL p.2] := e3
  rw [e3]
  refine TL.spl_join (by simp) fun w hw => ?_
  simp only [List.mem_cons, List.not_mem_nil, or_false] at hw
  rcases hw with z | z | z
  · rw [z]; decide
  · rw [z]; exact iL_free (by decide) (by decide)
  · rw [z]; exact iL_free (by decide) (by decide)
theorem iL_len {i : Int} (h : i.natAbs ≤ 99) : (iL i).length ≤ 3 := by
  rw [iL_of, List.length_append]
  have := TL.numL_len (n := i.natAbs) (k := 2) (by decide) (by omega)
  split <;> simp <;> omega
/-- a loosened row -/
theorem loose_ok {p : P2} {a s t : Str} (hp : p.1.natAbs ≤ 99 ∧ p.2.natAbs ≤ 99) (ha : tl a = [] ∨ tl a = [32]) (hs : tl s = [32] ∨ tl s = [32, 32]) (ht : tl t = [] ∨ tl t = [32] ∨ tl t = [32, 35, 32, 120] ∨ tl t = [35, 104, 111, 109, 101]) :
    LnOk (a ++ Txt.join s (Txt.split (rowS p) " ") ++ t) ∧ wordsL (a ++ Txt.join s (Txt.split (rowS p) " ") ++ t) = [cW, iL p.1, iL p.2] := by
  have e : tl (a ++ Txt.join s (Txt.split (rowS p) " ") ++ t) = tl a ++ (cW ++ (tl s ++ (iL p.1 ++ (tl s ++ (iL p.2 ++ tl t))))) := by
    show TL.tl _ = _
    rw [TL.tl_append, TL.tl_append, TL.join_eq, TL.tl_join, split_row]
    simp [TL.joinL]
  have x1 := iL_len hp.1
  have y1 := iL_len hp.2
  have hlen : ∀ l : List Nat, (l = [] ∨ l = [32]) → l.length ≤ 1 := fun l h => by rcases h with z | z <;> rw [z] <;> simp
  have hlen2 : (tl s).length ≤ 2 := by rcases hs with z | z <;> rw [z] <;> simp
  have hlen3 : (tl t).length ≤ 5 := by rcases ht with z | z | z | z <;> rw [z] <;> simp
  have hsig : ∀ (c : Nat), c ∈ tl a ++ (cW ++ (tl s ++ (iL p.1 ++ (tl s ++ (iL p.2 ++ tl t))))) → c < 128 ∧ c ≠ 10 := fun c hc => by
    have ba : ∀ c ∈ tl a, c < 128 ∧ c ≠ 10 := fun c hc => by rcases ha with z | z <;> rw [z] at hc <;> simp at hc; omega
    have bs : ∀ c ∈ tl s, c < 128 ∧ c ≠ 10 := fun c hc => by rcases hs with z | z <;> rw [z] at hc <;> simp at hc <;> omega
    have bt : ∀ c ∈ tl t, c < 128 ∧ c ≠ 10 := fun c hc => by rcases ht with z | z | z | z <;> rw [z] at hc <;> simp at hc <;> omega
    have bi : ∀ i, ∀ c ∈ iL i, c < 128 ∧ c ≠ 10 := fun i c hc => by have := iL_sign hc; omega
    have bc : ∀ c ∈ cW, c < 128 ∧ c ≠ 10 := by decide
    simp only [List.mem_append] at hc
    rcases hc with z | z | z | z | z | z | z
    · exact ba c z
    · exact bc c z
    · exact bs c z
    · exact bi _ c z
    · exact bs c z
    · exact bi _ c z
    · exact bt c z
  refine ⟨⟨fun c hc => hsig c (by rw [← e]; exact hc), ?_⟩, ?_⟩
  · rw [TL.len_tl]
    have e' : TL.tl (a ++ Txt.join s (Txt.split (rowS p) " ") ++ t) = tl a ++ (cW ++ (tl s ++ (iL p.1 ++ (tl s ++ (iL p.2 ++ tl t))))) := e
    rw [e']
    have := hlen _ ha
    have hc : cW.length = 6 := rfl
    simp only [List.length_append]
    omega
  · unfold wordsL
    rw [e]
    have f : ∀ u : List Nat, 35 ∉ u → 35 ∉ tl a ++ (cW ++ (tl s ++ (iL p.1 ++ (tl s ++ (iL p.2 ++ u))))) := fun u hu hm => by
      simp only [List.mem_append] at hm
      rcases hm with z | z | z | z | z | z | z
      · rcases ha with w | w <;> rw [w] at z <;> simp at z
      · revert z; decide
      · rcases hs with w | w <;> rw [w] at z <;> simp at z
      · exact iL_free (by decide) (by decide) z
      · rcases hs with w | w <;> rw [w] at z <;> simp at z
      · exact iL_free (by decide) (by decide) z
      · exact hu z
    rcases ht with z | z | z | z
    · rw [z, hd_all (f [] (by simp))]; exact wd_row ha hs (.inl rfl)
    · rw [z, hd_all (f [32] (by simp))]; exact wd_row ha hs (.inr rfl)
    · have e5 : tl a ++ (cW ++ (tl s ++ (iL p.1 ++ (tl s ++ (iL p.2 ++ tl t))))) = (tl a ++ (cW ++ (tl s ++ (iL p.1 ++ (tl s ++ (iL p.2 ++ [32])))))) ++ 35 :: [32, 120] := by rw [z]; simp
      rw [e5, hd_cut (f [32] (by simp))]; exact wd_row ha hs (.inr rfl)
    · have e5 : tl a ++ (cW ++ (tl s ++ (iL p.1 ++ (tl s ++ (iL p.2 ++ tl t))))) = (tl a ++ (cW ++ (tl s ++ (iL p.1 ++ (tl s ++ (iL p.2 ++ [])))))) ++ 35 :: [104, 111, 109, 101] := by rw [z]; simp
      rw [e5, hd_cut (f [] (by simp))]; exact wd_row ha hs (.inl rfl)
theorem junk_ok {s : Str} (h : tl s = [] ∨ tl s = [32, 32] ∨ tl s = [35, 32, 99, 111, 114, 110, 101, 114, 32, 51] ∨ tl s = [32, 32, 32, 35, 32, 120]) : LnOk s ∧ wordsL s = [] := by
  refine ⟨⟨fun c hc => ?_, ?_⟩, ?_⟩
  · rcases h with z | z | z | z <;> rw [z] at hc <;> simp at hc <;> omega
  · rw [TL.len_tl]
    rcases h with z | z | z | z <;> (show (tl s).length ≤ 1000; rw [z]; simp)
  · unfold wordsL
    rcases h with z | z | z | z <;> rw [z] <;> rfl
end K96

/-! KB18: promises: texts read. -/
namespace K96
open PySem L2 DL
theorem sh_str {w : Str} (h : ∀ c ∈ tl w, c < 1114112) : SeqAt.shaped (.str w) = true := by
  have : PyData.strOk w = true := by
    unfold PyData.strOk
    rw [← Array.all_toList, List.all_eq_true]
    intro c hc
    exact decide_eq_true (h c hc)
  unfold SeqAt.shaped
  simp [PyData.canLay0, this, PyData.depth]
theorem str_ne {w z : Str} (h : tl w ≠ tl z) : ¬ w = z := fun e => h (by rw [e])
theorem numL_two {n : Nat} (h : n ≤ 99) : (TL.numL n).length ≤ 2 ∧ ((TL.numL n)[0]? = some 48 → n = 0) := by
  by_cases h1 : n < 10
  · rw [TL.numL_lt h1]
    exact ⟨by simp, fun e => by simp at e; omega⟩
  · rw [TL.numL_step (by omega), TL.numL_lt (show n / 10 < 10 by omega)]
    exact ⟨by simp, fun e => by simp at e; omega⟩
@[simp] theorem isNone_int {i : Int} : isNone (.int i) = false := rfl
@[simp] theorem pInS {c : Nat} {z : Str} {Φ : D → Prop} : oInS (.str ⟨#[c]⟩) (.str z) Φ ↔ Φ (.bool (decide (c ∈ z.cps.toList))) := by
  constructor
  · rintro ⟨n, e, h⟩
    have : c = n := by injection e with e; injection e with e; injection e
    rw [this]; exact h
  · intro h; exact ⟨c, rfl, h⟩
def S_index_in : SpF := fun ds Φ => as1 ds fun d => asS d fun w => ∃ n : Nat, tl w = TL.numL n ∧ n ≤ 99 ∧ Φ (.int (n : Nat))
theorem cl_index_in {P : Program} {w : World} {K : PySem.W.Frag} {mg : Str → Option Value} {base : Heap} (T : Txt K mg) : Cl P w K mg base "index_in" 1 (spP K S_index_in) := by
  refine cl_pure (k := 0) T.at_index_in sc_index_in (by decide) (fun ds Φ h => by obtain ⟨_, rfl, _⟩ := h; rfl) fun f cdv A outer s H hgd hr => ?_
  have nd := sc_index_in.nd; have hu : (A.deeper (PyProof.Rows.envOfC "index_in" (defScope st_index_in) s.heap.objs.size f cdv)).units + 65 < cLine := (by have := hr.un; omega)
  refine ⟨_, (ss_cons (s_if (t_w (u_or (te_eq hu (v 0) d_str) (u_or (tc_gt (d_fn call_len fd_len boot_len rfl T.ml_len (a_cons (v 0) a_nil)) (d_gInt rfl T.g_MOST_FIGURES)) (u_or1 (t_not (t_val (d_fn (cr_all rfl) fd_all PyProof.Rows.boot_all rfl T.ml_all (a_cons (d_lc [("sign", 1)] rfl nd (i_str (v 0)) (by rfl) (fun _ _ _ _ _ => (gv 1 nd)) (fun _ _ _ _ _ => ts_nil) (fun _ _ _ _ _ => (d_inS (v 1) (d_gStr rfl T.g_DIGITS)))) a_nil)))))))) (ss_one (s_ret d_none)) ss_nil) (ss_one (s_ret (d_if (t_w (u_and (te_eq hu (d_ix (v 0) d_int (fun _ _ => rfl)) d_str) (u_and1 (te_ne hu (v 0) d_str)))) d_none (d_ty call_int_str fd_intS PyProof.Rows.boot_int rfl T.ml_int (a_cons (v 0) a_nil)))))), fun b ds Φ h => ?_⟩
  obtain ⟨_, rfl, w, rfl, n, hw, hn, h⟩ := h
  obtain ⟨l2, hz⟩ := numL_two hn
  have hd1 := TL.numL_digits n
  have sg : ∀ c ∈ tl w, 48 ≤ c ∧ c ≤ 57 := fun c hc => by rw [hw] at hc; have := hd1 c hc; omega
  have s1 : SeqAt.shaped (.str w) = true := sh_str fun c hc => by have := sg c hc; omega
  have s2 : SeqAt.shaped (.str ("" : Str)) = true := sh_str (by decide)
  have hl : w.length = (TL.numL n).length := by rw [TL.len_tl]; exact congrArg List.length hw
  have n0 : ¬ w = ("" : Str) := str_ne (by rw [hw]; exact TL.numL_ne n)
  have hle : ¬ (4 : Int) < (w.length : Int) := by omega
  simp [ρ0, s1, s2, n0, hle, deown, wipeE]
  have hwl : w.length ≤ 16777216 := by omega
  have s3 : SeqAt.shaped (.str ("0" : Str)) = true := sh_str (by decide)
  refine ⟨hwl, ?_⟩
  have es : strD w = (tl w).map fun c => .str ⟨#[c]⟩ := rfl
  have ed : (Str.ofString "0123456789").cps.toList = [48, 49, 50, 51, 52, 53, 54, 55, 56, 57] := rfl
  rw [es]
  refine lc_map (fun c : Nat => PyData.str ⟨#[c]⟩) (fun _ => .bool true) (tl w) (by rw [sl_eq]; have : (tl w).length = w.length := (TL.len_tl w).symm; omega) (fun c hc X hX => ?_) ?_
  · have := sg c hc
    have hm : c ∈ (Str.ofString "0123456789").cps.toList := by
      rw [ed]
      simp only [List.mem_cons, List.not_mem_nil, or_false]
      omega
    simp
    rw [decide_eq_true (show c ∈ (Str.ofString "0123456789").cps by simpa using hm)]
    exact hX
  · have e : (tl w).map (fun _ => PyData.bool true) = ((tl w).map fun _ => true).map .bool := by rw [List.map_map]; rfl
    rw [e]
    refine oAll_i ?_
    have e2 : ((tl w).map fun _ => true).all id = true := by simp
    rw [e2]
    simp
    refine ⟨hwl, ?_⟩
    obtain ⟨c, r, ec⟩ := List.exists_cons_of_ne_nil (show tl w ≠ [] by rw [hw]; exact TL.numL_ne n)
    have ec' : w.cps.toList = c :: r := ec
    have hc := sg c (by rw [ec]; simp)
    refine ⟨c, by rw [ec', at0], sh_str (fun d hd => by have hd : d ∈ [c] := hd; rw [List.mem_singleton.mp hd]; omega), s3, ?_⟩
    have hint : oIntS [.str w] fun d => Φ d := by
      have e5 : PySem.intText? w = some (n : Int) := by
        rw [show w = Str.ofString (toString ((n : Nat) : Int)) from TL.ext_tl (hw.trans (TL.tl_num n).symm)]
        exact TL.int_num (by omega)
      exact ⟨w, n, rfl, e5, by omega, h⟩
    by_cases z : (⟨#[c]⟩ : Str) = ("0" : Str)
    · rw [if_pos z]
      have c48 : c = 48 := by
        have e6 : tl (⟨#[c]⟩ : Str) = tl ("0" : Str) := by rw [z]
        have e7 : [c] = [48] := e6
        simpa using e7
      have n0 : n = 0 := hz (by rw [← hw, ec, c48]; rfl)
      have w0 : w = ("0" : Str) := TL.ext_tl (by rw [show TL.tl w = TL.numL n from hw, n0]; rfl)
      refine ⟨s3, ?_⟩
      rw [if_pos w0]; exact hint
    · rw [if_neg z]; exact hint
def S_number_in : SpF := fun ds Φ => as1 ds fun d => asS d fun w => ∃ x : Int, tl w = iL x ∧ x.natAbs ≤ 99 ∧ Φ (.int x)
theorem tl_cutS_take {z : Str} : tl (cutS z none (some 1)) = (tl z).take 1 := by
  show (((z.cps.toList.drop (HT.sIx z.length 0 none)).take (HT.sIx z.length z.length (some 1) - HT.sIx z.length 0 none)).toArray).toList = _
  have h1 := HT.sIx_nat z.length z.length 1
  have h1 : HT.sIx z.length z.length (some 1) = min 1 z.length := h1
  rw [HT.sIx_none, h1, List.drop_zero, Nat.sub_zero, List.toList_toArray]
  have : z.length = z.cps.toList.length := TL.len_tl z
  rw [this]
  by_cases h : 1 ≤ z.cps.toList.length
  · rw [Nat.min_eq_left h]
  · rw [Nat.min_eq_right (by omega), List.take_length, List.take_of_length_le (by show z.cps.toList.length ≤ 1; omega)]
theorem tl_cutS_drop {z : Str} : tl (cutS z (some 1) none) = (tl z).drop 1 := by
  show (((z.cps.toList.drop (HT.sIx z.length 0 (some 1))).take (HT.sIx z.length z.length none - HT.sIx z.length 0 (some 1))).toArray).toList = _
  have h1 := HT.sIx_nat z.length 0 1
  have h1 : HT.sIx z.length 0 (some 1) = min 1 z.length := h1
  rw [HT.sIx_none, h1, List.toList_toArray]
  have : z.length = z.cps.toList.length := TL.len_tl z
  rw [this]
  by_cases h : 1 ≤ z.cps.toList.length
  · rw [Nat.min_eq_left h, List.take_of_length_le (by rw [List.length_drop]; omega)]
  · rw [Nat.min_eq_right (by omega), List.drop_length, List.drop_eq_nil_of_le (by show z.cps.toList.length ≤ 1; omega)]; simp
theorem cutS_sh {z : Str} {lo hi : Option Int} (h : ∀ c ∈ tl z, c < 1114112) : SeqAt.shaped (.str (cutS z lo hi)) = true := sh_str fun c hc => by
  have hc : c ∈ ((z.cps.toList.drop (HT.sIx z.length 0 lo)).take (HT.sIx z.length z.length hi - HT.sIx z.length 0 lo)) := by
    have : tl (cutS z lo hi) = ((z.cps.toList.drop (HT.sIx z.length 0 lo)).take (HT.sIx z.length z.length hi - HT.sIx z.length 0 lo)) := by
      show ((_ : List Nat).toArray).toList = _
      rw [List.toList_toArray]
    rw [← this]; exact hc
  exact h c (List.mem_of_mem_drop (List.mem_of_mem_take hc))
theorem cl_number_in {P : Program} {w : World} {K : PySem.W.Frag} {mg : Str → Option Value} {base : Heap} (T : Txt K mg) : Cl P w K mg base "number_in" 2 (spP K S_number_in) := by
  have h_index_in := cl_index_in (P := P) (w := w) (base := base) T
  have hl_index_in : 1 ≤ 1 := by decide
  refine cl_pure (k := 1) T.at_number_in sc_number_in (by decide) (fun ds Φ h => by obtain ⟨_, rfl, _⟩ := h; rfl) fun f cdv A outer s H hgd hr => ?_
  have nd := sc_number_in.nd; have hu : (A.deeper (PyProof.Rows.envOfC "number_in" (defScope st_number_in) s.heap.objs.size f cdv)).units + 65 < cLine := (by have := hr.un; omega)
  refine ⟨_, (ss_cons (s_if (te_ne hu (d_slice (v 0) o_none (o_some d_int)) d_str) (ss_one (s_ret (d_call (h_index_in.mono hl_index_in) hgd hr rfl (a_cons (v 0) a_nil)))) ss_nil) (ss_cons (ss 1 nd (d_call (h_index_in.mono hl_index_in) hgd hr rfl (a_cons (d_slice (v 0) (o_some d_int) o_none) a_nil))) (ss_one (s_ret (d_if (t_w (u_or (t_isN (v 1)) (u_or1 (te_eq hu (v 1) d_int)))) d_none (d_neg (v 1))))))), fun b ds Φ h => ?_⟩
  obtain ⟨_, rfl, w, rfl, x, hw, hx, h⟩ := h
  have sg : ∀ c ∈ tl w, c < 1114112 := fun c hc => by rw [hw] at hc; have := iL_sign hc; omega
  have s2 : SeqAt.shaped (.str ("-" : Str)) = true := sh_str (by decide)
  have hl : w.length ≤ 3 := by rw [TL.len_tl]; have := iL_len hx; rw [← hw] at this; exact this
  simp [ρ0, cutS_sh sg, s2]
  refine ⟨by omega, ?_⟩
  have t1 := tl_cutS_take (z := w)
  have t2 := tl_cutS_drop (z := w)
  rw [hw, iL_of] at t1 t2
  by_cases hneg : x < 0
  · rw [if_pos hneg] at t1 t2
    have e1 : cutS w none (some 1) = ("-" : Str) := TL.ext_tl (by rw [show TL.tl (cutS w none (some 1)) = _ from t1]; rfl)
    rw [if_pos e1]
    simp [S_index_in]
    have ne0 : ¬ ((x.natAbs : Nat) : Int) = 0 := by omega
    refine ⟨by omega, x.natAbs, by rw [t2]; rfl, hx, ?_⟩
    have ne1 : ¬ x.natAbs = 0 := by omega
    have ex : -((x.natAbs : Nat) : Int) = x := by omega
    simp [ne1, ex]
    exact h
  · rw [if_neg hneg] at t1 t2
    have e1 : ¬ cutS w none (some 1) = ("-" : Str) := fun e => by
      have e5 : tl (cutS w none (some 1)) = [45] := by rw [e]; rfl
      rw [e5] at t1
      have : 45 ∈ TL.numL x.natAbs := List.mem_of_mem_take (by rw [List.nil_append] at t1; rw [← t1]; simp)
      have := TL.numL_digits _ 45 this
      omega
    rw [if_neg e1]
    simp [S_index_in]
    refine ⟨x.natAbs, by rw [hw, iL_of, if_neg hneg]; rfl, hx, ?_⟩
    have : ((x.natAbs : Nat) : Int) = x := by omega
    rw [this]; exact h
theorem rfCons {g : WG} {w : WS} {d : D} {r : List D} {ρ : DL.Env} {b : Bag} {Ψ : Out → Prop} : runFor g w (d :: r) ρ b Ψ ↔ g d ρ fun ρ' => w ρ' b (lpK (fun ρ2 b2 => runFor g w r ρ2 b2 Ψ) Ψ) := Iff.rfl
theorem rfNil {g : WG} {w : WS} {ρ : DL.Env} {b : Bag} {Ψ : Out → Prop} : runFor g w [] ρ b Ψ ↔ Ψ (.nx ρ b) := Iff.rfl
def wsD (ws : List Str) : D := .list (ws.map .str)
@[simp] theorem wsD_len {ws : List Str} {Φ : D → Prop} : oLen [wsD ws] Φ ↔ Φ (.int ws.length) := by unfold wsD; simp
theorem wsD_ix {ws : List Str} {k : Nat} {w : Str} {Φ : D → Prop} (h : ws[k]? = some w) : oIxA (wsD ws) (.int (k : Int)) Φ ↔ Φ (.str w) := by
  unfold wsD
  rw [pIxL]
  have e : atI (ws.map PyData.str) (k : Int) = some (.str w) := at_nat (by rw [List.getElem?_map, h]; rfl)
  rw [e]
  constructor
  · rintro ⟨f, h1, h2⟩; cases h1; exact h2
  · intro h; exact ⟨_, rfl, h⟩
def S_corner_in : SpF := fun ds Φ => as2 ds fun d e => asI d fun i => ∃ (ws : List Str) (p : P2), e = wsD ws ∧ ws.map tl = [cW, iL p.1, iL p.2] ∧ p.1.natAbs ≤ 99 ∧ p.2.natAbs ≤ 99 ∧ Φ (pD p)
theorem cl_corner_in {P : Program} {w : World} {K : PySem.W.Frag} {mg : Str → Option Value} {base : Heap} (T : Txt K mg) : Cl P w K mg base "corner_in" 3 (spP K S_corner_in) := by
  have h_number_in := cl_number_in (P := P) (w := w) (base := base) T
  have hl_number_in : 2 ≤ 2 := by decide
  refine cl_pure (k := 2) T.at_corner_in sc_corner_in (by decide) (fun ds Φ h => by obtain ⟨_, _, rfl, _⟩ := h; rfl) fun f cdv A outer s H hgd hr => ?_
  have nd := sc_corner_in.nd; have hu : (A.deeper (PyProof.Rows.envOfC "corner_in" (defScope st_corner_in) s.heap.objs.size f cdv)).units + 65 < cLine := (by have := hr.un; omega)
  refine ⟨_, (ss_cons (s_if (te_ne hu (d_ix (v 1) d_int (fun _ _ => rfl)) d_str) (ss_one s_never) ss_nil) (ss_cons (s_own 2 nd rfl (by first | exact Or.inl rfl | exact Or.inr rfl) (by first | exact .inr rfl | exact .inl rfl)) (ss_cons (s_for PassesOwn.never rfl (i_it (d_tup (a_cons d_int (a_cons d_int a_nil)))) (gv 3 nd) (ss_cons (ss 4 nd (d_if (tc_lt (v 3) (d_fn call_len fd_len boot_len rfl T.ml_len (a_cons (v 1) a_nil))) (d_ix (v 1) (v 3) (fun _ _ => rfl)) d_str)) (ss_cons (ss 5 nd (d_call (h_number_in.mono hl_number_in) hgd hr rfl (a_cons (v 4) a_nil))) (ss_cons (s_if (t_isN (v 5)) (ss_one s_never) ss_nil) (ss_one (s_append 2 rfl (by first | exact Or.inl rfl | exact Or.inr (Or.inl rfl)) (a_cons (v 5) a_nil))))))) (ss_cons (s_if (tc_gt (d_fn call_len fd_len boot_len rfl T.ml_len (a_cons (v 1) a_nil)) d_int) (ss_one s_never) ss_nil) (ss_one (s_frz 2 (s_ret (d_ty call_tuple_of fd_tuple PyProof.Rows.boot_tuple rfl T.ml_tuple (a_cons (v 2) a_nil))))))))), fun b ds Φ h => ?_⟩
  obtain ⟨_, _, rfl, i, rfl, ws, p, rfl, hw, h1, h2, h⟩ := h
  obtain ⟨a, ws1, rfl, ha, hw⟩ := List.map_eq_cons_iff.mp hw
  obtain ⟨u, ws2, rfl, hu', hw⟩ := List.map_eq_cons_iff.mp hw
  obtain ⟨v, ws3, rfl, hv, hw⟩ := List.map_eq_cons_iff.mp hw
  obtain rfl := List.map_eq_nil_iff.mp hw
  have sc : SeqAt.shaped (.str ("corner" : Str)) = true := sh_str (by decide)
  obtain rfl : a = ("corner" : Str) := TL.ext_tl ha
  have e0 : wsD [("corner" : Str), u, v] = .list [.str "corner", .str u, .str v] := rfl
  simp only [ρ0]
  simp [e0, at0, at1, at2, sc, rfCons, rfNil, S_number_in]
  exact ⟨p.1, hu', h1, p.2, hv, h2, h⟩
def wlD (w : Int × List Str) : D := .tuple [.int w.1, wsD w.2]
theorem sh_ls {ws : List Str} (h : ∀ w ∈ ws, ∀ c ∈ tl w, c < 1114112) : SeqAt.shaped (.list (ws.map .str)) = true := by
  have h1 : PyData.canLayAll0 (ws.map .str) = true := by
    induction ws with
    | nil => rfl
    | cons w ws ih =>
      have hw := sh_str (h w (List.mem_cons_self ..))
      unfold SeqAt.shaped at hw
      rw [Bool.and_eq_true] at hw
      simp only [List.map_cons, PyData.canLayAll0, hw.1, ih (fun z hz => h z (List.mem_cons_of_mem _ hz)), Bool.and_self]
  have h2 : PyData.depthAll (ws.map PyData.str) ≤ 0 := PySem.W.depthAll_map ws
  have h3 : (PyData.list (ws.map .str)).canLay0 = true := h1
  unfold SeqAt.shaped
  rw [h3, Bool.true_and, decide_eq_true_eq]
  have : (PyData.list (ws.map .str)).depth = PyData.depthAll (ws.map .str) + 1 := rfl
  omega
theorem ev_ls (l m : List Str) : PyData.eqv (.list (l.map .str)) (.list (m.map .str)) = decide (l = m) := PySem.W.Datum.eqv l m
theorem ev_l0 (l : List Str) : PyData.eqv (.list (l.map .str)) (.list []) = decide (l = []) := ev_ls l []
def S_word_lines : SpF := fun ds Φ => as1 ds fun d => asS d fun T => ∃ ps, TextOf ps T ∧ ∀ W : List (Int × List Str), (W.map fun w => w.2.map tl) = ps.map (fun p => [cW, iL p.1, iL p.2]) → W.length ≤ 200 → Φ (.list (W.map wlD))
theorem spl_plen (S : List Nat) : ∀ (l : List Nat) (k : Nat) (acc : List Nat), ∀ p ∈ TL.spl S k acc l, p.length ≤ acc.length + l.length
  | [], k, acc, p, hp => by
    rw [TL.spl_nil, List.mem_singleton] at hp
    rw [hp]; simp
  | d :: l, 0, acc, p, hp => by
    by_cases z : TL.pre S (d :: l) = true
    · rw [TL.spl_hit z] at hp
      rcases List.mem_cons.mp hp with w | w
      · rw [w]; simp
      · have := spl_plen S l _ [] p w
        simp only [List.length_cons, List.length_nil] at this ⊢; omega
    · rw [TL.spl_miss (by simpa using z)] at hp
      have := spl_plen S l 0 (acc ++ [d]) p hp
      simp only [List.length_cons, List.length_append, List.length_nil] at this ⊢; omega
  | d :: l, k + 1, acc, p, hp => by
    have hp : p ∈ TL.spl S k acc l := hp
    have := spl_plen S l k acc p hp
    simp only [List.length_cons]; omega
theorem sum_le {l : List Nat} {c : Nat} (h : ∀ x ∈ l, x ≤ c) : l.sum ≤ l.length * c := by
  induction l with
  | nil => simp
  | cons x l ih =>
    have := h x (List.mem_cons_self ..)
    have := ih fun y hy => h y (List.mem_cons_of_mem _ hy)
    rw [List.sum_cons, List.length_cons, Nat.add_mul, Nat.one_mul]; omega
theorem text_len {ps : List P2} {T : Str} (h : TextOf ps T) : T.length ≤ 300000 := by
  obtain ⟨ls, rfl, _, hl, ho, _⟩ := h.ex
  rw [TL.join_eq]
  have h1 := StrLaws.join_length_le ("\n" : Str) ls
  have h2 : (ls.map (·.length)).sum ≤ ls.length * 1000 := by
    have := sum_le (l := ls.map (·.length)) (c := 1000) (fun x hx => by
      obtain ⟨l, hl', rfl⟩ := List.mem_map.mp hx
      exact (ho l hl').n)
    rwa [List.length_map] at this
  have h3 : ("\n" : Str).length = 1 := rfl
  rw [h3] at h1
  omega
theorem cl_word_lines {P : Program} {w : World} {K : PySem.W.Frag} {mg : Str → Option Value} {base : Heap} (T : Txt K mg) : Cl P w K mg base "word_lines" 1 (spP K S_word_lines) := by
  refine cl_pure (k := 0) T.at_word_lines sc_word_lines (by decide) (fun ds Φ h => by obtain ⟨_, rfl, _⟩ := h; rfl) fun f cdv A outer s H hgd hr => ?_
  have nd := sc_word_lines.nd; have hu : (A.deeper (PyProof.Rows.envOfC "word_lines" (defScope st_word_lines) s.heap.objs.size f cdv)).units + 65 < cLine := (by have := hr.un; omega)
  refine ⟨_, (ss_cons (ss 1 nd (d_split (v 0) d_str)) (ss_cons (s_if (tc_gt (d_fn call_len fd_len boot_len rfl T.ml_len (a_cons (v 1) a_nil)) (d_gInt rfl T.g_MOST_LINES)) (ss_one s_never) ss_nil) (ss_cons (s_own 2 nd rfl (by first | exact Or.inl rfl | exact Or.inr rfl) (by first | exact .inr rfl | exact .inl rfl)) (ss_cons (s_for PassesOwn.never rfl (i_enum rfl T.ml_enumerate (v 1)) (g_tup (n := 2) rfl (g_cons (gv 3 nd) (g_cons (gv 4 nd) g_nil))) (ss_cons (s_setLc 5 [("word", 6)] rfl nd rfl rfl rfl (i_it (d_split (d_ix (d_split (v 4) d_str) d_int (fun _ _ => rfl)) d_str)) (by rfl) (fun _ _ _ _ _ => (gv 6 nd)) (fun _ _ _ _ _ => (ts_one (te_ne hu (v 6) d_str))) (fun _ _ _ _ _ => (v 6))) (ss_one (s_if (te_ne hu (v 5) (d_lst a_nil)) (ss_one (s_append 2 rfl (by first | exact Or.inl rfl | exact Or.inr (Or.inl rfl)) (a_cons (d_tup (a_cons (d_addA (v 3) d_int) (a_cons (v 5) a_nil))) a_nil))) ss_nil)))) (ss_one (s_frz 2 (s_ret (v 2)))))))), fun b ds Φ h => ?_⟩
  obtain ⟨_, rfl, T, rfl, ps, hT, h⟩ := h
  have hTl := text_len hT
  obtain ⟨ls, eT, hne, hl, ho, hg⟩ := hT.ex
  have esp : Txt.split T "\n" = ls := by
    rw [eT]
    exact TL.split_join (y := ("\n" : Str)) (s := 10) (S := []) rfl (by decide +kernel) hne fun l hl' hm => ((ho l hl').s 10 hm).2 rfl
  have n1 : (("\n" : Str).length == 0) = false := rfl
  have n2 : (("#" : Str).length == 0) = false := rfl
  have n3 : ((" " : Str).length == 0) = false := rfl
  have c200 : ¬ (200 : Int) < (ls.length : Int) := by omega
  simp only [ρ0]
  simp [n1, esp, c200, enum_map]
  refine ⟨by omega, by omega, fun p => ?_⟩
  refine for_l (fun q : Str × Nat => PyData.tuple [.int (q.2 : Nat), .str q.1]) (fun r ρ b' => b = b' ∧ ∃ (q : List (Str × Nat)) (W : List (Int × List Str)) (t3 t4 t5 : Sl), ls.zipIdx = q ++ r ∧ (W.map fun w => w.2.map tl) = ((q.map Prod.fst).map wordsL).filter (fun w => decide (w ≠ [])) ∧ W.length ≤ q.length ∧
    ρ = [.dat (.str T), .dat (.list (ls.map .str)), .own p (.list (W.map wlD)), t3, t4, t5, .no]) (fun a r ρ b' hI X hX => ?_) (fun ρ b' hI => ?_) ls.zipIdx _ _ ⟨rfl, [], [], .no, .no, .no, rfl, rfl, Nat.le_refl _, rfl⟩
  · obtain ⟨rfl, q, W, t3, t4, t5, e, hW, hWl, rfl⟩ := hI
    obtain ⟨l, i⟩ := a
    obtain ⟨rfl, hat, hlt⟩ := zip_at e
    have hl' := ho l (List.mem_of_getElem? hat)
    -- what stands before a remark
    have s1 : (Txt.split l "#").map TL.tl = TL.spl [35] 0 [] (tl l) := TL.split_spl l ("#" : Str) (by decide) (TL.kind_ok (by decide +kernel))
    obtain ⟨s0, hs, es⟩ := List.exists_cons_of_ne_nil (show Txt.split l "#" ≠ [] from fun z => by rw [z] at s1; exact spl_ne _ _ _ _ s1.symm)
    have h0 : tl s0 = hd (tl l) := by
      unfold hd
      rw [← s1, es]; rfl
    have m0 : ∀ c ∈ tl s0, c ∈ tl l := fun c hc => by
      have : tl s0 ∈ TL.spl [35] 0 [] (tl l) := by rw [← s1, es]; simp
      exact (spl_mem _ _ _ _ _ this c hc).resolve_left List.not_mem_nil
    have ll : (tl l).length ≤ 1000 := by have := hl'.n; rw [TL.len_tl] at this; exact this
    have l0' : (tl s0).length ≤ 1000 := by
      have := spl_plen [35] (tl l) 0 [] (tl s0) (by rw [← s1, es]; simp)
      simp only [List.length_nil] at this; omega
    have l0 : s0.length ≤ 1000 := by rw [TL.len_tl]; exact l0'
    have s2 : (Txt.split s0 " ").map TL.tl = TL.spl [32] 0 [] (tl s0) := TL.split_spl s0 (" " : Str) (by decide) (TL.kind_ok (by decide +kernel))
    generalize hws : Txt.split s0 " " = ws at s2
    have mw : ∀ w ∈ ws, ∀ c ∈ tl w, c < 1114112 := fun w hw c hc => by
      have : tl w ∈ TL.spl [32] 0 [] (tl s0) := by rw [← s2]; exact List.mem_map.mpr ⟨w, hw, rfl⟩
      have := (spl_mem _ _ _ _ _ this c hc).resolve_left List.not_mem_nil
      have := (hl'.s c (m0 c this)).1
      omega
    have wl : ws.length ≤ 1002 := by
      have h1 := congrArg List.length s2
      rw [List.length_map] at h1
      have h2 := spl_len [32] (tl s0) 0 []
      omega
    have sE : SeqAt.shaped (.str ("" : Str)) = true := sh_str (by decide)
    simp [n2, n3, es, at0, hws, deown, wipeE]
    have hln := hl'.n
    refine ⟨by decide +kernel, by omega, by decide +kernel, by omega, ?_⟩
    refine lc_filt PyData.str (fun w => decide (w ≠ ("" : Str))) PyData.str ws (by rw [sl_eq]; omega) (fun w hw X h1 h2 => ?_) ?_
    · simp [sh_str (mw w hw), sE]
      by_cases z : w = ("" : Str)
      · rw [if_pos z]; exact h2 (by simpa using z)
      · rw [if_neg z]; exact h1 (by simpa using z)
    · have hfm : (ws.filter fun w => decide (w ≠ ("" : Str))).map tl = wordsL l := by
        unfold wordsL
        rw [← h0]
        unfold wd
        rw [← s2, List.filter_map]
        congr 1
        apply List.filter_congr
        intro w _
        show decide (w ≠ ("" : Str)) = decide (TL.tl w ≠ [])
        refine decide_eq_decide.mpr ⟨fun h1 h2 => h1 (TL.ext_tl h2), fun h1 h2 => h1 (by rw [h2]; rfl)⟩
      have hmem : ∀ w ∈ ws.filter (fun w => decide (w ≠ ("" : Str))), ∀ c ∈ tl w, c < 1114112 := fun w hw => mw w (List.mem_filter.mp hw).1
      generalize ws.filter (fun w => decide (w ≠ ("" : Str))) = V at hfm hmem
      refine ⟨sh_ls hmem, ?_⟩
      rw [ev_l0]
      by_cases z : V = []
      · rw [if_pos (decide_eq_true z)]
        have wz : wordsL l = [] := by rw [← hfm, z]; rfl
        exact hX _ _ ⟨rfl, q ++ [(l, q.length)], W, _, _, _, by rw [e]; simp, by rw [hW]; simp [wz], by simp; omega, rfl⟩
      · rw [if_neg (by simpa using z)]
        have wz : wordsL l ≠ [] := fun y => z (by rw [y] at hfm; exact List.map_eq_nil_iff.mp hfm)
        have hq : q.length < ls.length := hlt
        refine ⟨by omega, hX _ _ ⟨rfl, q ++ [(l, q.length)], W ++ [((q.length : Int) + 1, V)], .dat (.int (q.length : Nat)), .dat (.str l), .dat (.list (V.map .str)), by rw [e]; simp, ?_, by simp; omega, by simp [wlD, wsD]⟩⟩
        simp [hW, wz, hfm]
  · obtain ⟨rfl, q, W, t3, t4, t5, e, hW, hWl, rfl⟩ := hI
    rw [List.append_nil] at e
    have ef : q.map Prod.fst = ls := by rw [← e]; simp
    rw [ef, hg] at hW
    have hql : q.length = ls.length := by rw [← ef, List.length_map]
    simp
    exact h W hW (by omega)
def S_read_corners : SpF := fun ds Φ => as1 ds fun d => asS d fun T => ∃ ps : List P2, TextOf ps T ∧ (∀ p ∈ ps, p.1.natAbs ≤ 99 ∧ p.2.natAbs ≤ 99) ∧ Φ (.list (ps.map pD))
theorem cl_read_corners {P : Program} {w : World} {K : PySem.W.Frag} {mg : Str → Option Value} {base : Heap} (T : Txt K mg) : Cl P w K mg base "read_corners" 4 (spP K S_read_corners) := by
  have h_word_lines := cl_word_lines (P := P) (w := w) (base := base) T
  have hl_word_lines : 1 ≤ 3 := by decide
  have h_corner_in := cl_corner_in (P := P) (w := w) (base := base) T
  have hl_corner_in : 3 ≤ 3 := by decide
  refine cl_pure (k := 3) T.at_read_corners sc_read_corners (by decide) (fun ds Φ h => by obtain ⟨_, rfl, _⟩ := h; rfl) fun f cdv A outer s H hgd hr => ?_
  have nd := sc_read_corners.nd; have hu : (A.deeper (PyProof.Rows.envOfC "read_corners" (defScope st_read_corners) s.heap.objs.size f cdv)).units + 65 < cLine := (by have := hr.un; omega)
  refine ⟨_, (ss_one (s_ret (d_lc [("line", 1), ("words", 2)] rfl nd (i_it (d_call (h_word_lines.mono hl_word_lines) hgd hr rfl (a_cons (v 0) a_nil))) (by rfl) (fun _ _ _ _ _ => (g_tup (n := 2) rfl (g_cons (gv 1 nd) (g_cons (gv 2 nd) g_nil)))) (fun _ _ _ _ _ => ts_nil) (fun _ _ _ _ _ => (d_call (h_corner_in.mono hl_corner_in) hgd hr rfl (a_cons (v 1) (a_cons (v 2) a_nil))))))), fun b ds Φ h => ?_⟩
  obtain ⟨_, rfl, T, rfl, ps, hT, hf, h⟩ := h
  simp [ρ0, S_word_lines, deown, wipeE]
  refine ⟨ps, hT, fun W hW hWl => ?_⟩
  have hlen : W.length = ps.length := by have := congrArg List.length hW; rwa [List.length_map, List.length_map] at this
  refine lc_l wlD (fun r acc b' => b = b' ∧ ∃ (ps1 ps2 : List P2), ps = ps1 ++ ps2 ∧ (r.map fun w => w.2.map tl) = ps2.map (fun p => [cW, iL p.1, iL p.2]) ∧ acc = ps1.map pD) (fun w r acc b' hI X hX => ?_) (fun acc b' hI => ?_) W [] b ⟨rfl, [], ps, rfl, hW, rfl⟩
  · obtain ⟨rfl, ps1, ps2, e, hr2, rfl⟩ := hI
    obtain ⟨p, ps3, rfl, hp, hr3⟩ := List.map_eq_cons_iff.mp hr2.symm
    have fp := hf p (by rw [e]; simp)
    have := congrArg List.length e
    simp only [List.length_append, List.length_cons] at this
    simp [wlD, S_corner_in]
    refine ⟨w.2, rfl, p.1, p.2, hp.symm, fp.1, fp.2, by omega, ?_⟩
    exact hX _ _ ⟨rfl, ps1 ++ [p], ps3, by rw [e]; simp, hr3.symm, by simp⟩
  · obtain ⟨rfl, ps1, ps2, e, hr2, rfl⟩ := hI
    have : ps2 = [] := List.map_eq_nil_iff.mp hr2.symm
    subst this
    rw [List.append_nil] at e
    rw [← e]; exact h
def S_read_text : SpF := fun ds Φ => as1 ds fun d => asS d fun T => ∃ ps P : List P2, TextOf ps T ∧ PartOk P ∧ ps.length ≤ 1000 ∧ (∀ x, x ∈ ps ↔ x ∈ P) ∧ Φ (tP P)
theorem cl_read_text {P : Program} {w : World} {K : PySem.W.Frag} {mg : Str → Option Value} {base : Heap} (T : Txt K mg) : Cl P w K mg base "read_text" 5 (spP K S_read_text) := by
  have h_read_corners := cl_read_corners (P := P) (w := w) (base := base) T
  have hl_read_corners : 4 ≤ 4 := by decide
  have h_hull_of := cl_hull_of (P := P) (w := w) (base := base) T
  have hl_hull_of : 3 ≤ 4 := by decide
  refine cl_pure (k := 4) T.at_read_text sc_read_text (by decide) (fun ds Φ h => by obtain ⟨_, rfl, _⟩ := h; rfl) fun f cdv A outer s H hgd hr => ?_
  have nd := sc_read_text.nd; have hu : (A.deeper (PyProof.Rows.envOfC "read_text" (defScope st_read_text) s.heap.objs.size f cdv)).units + 65 < cLine := (by have := hr.un; omega)
  refine ⟨_, (ss_cons (ss 1 nd (d_call (h_read_corners.mono hl_read_corners) hgd hr rfl (a_cons (v 0) a_nil))) (ss_one (s_try (ss_one (s_ret (d_call (h_hull_of.mono hl_hull_of) hgd hr rfl (a_cons (v 1) a_nil))))))), fun b ds Φ h => ?_⟩
  obtain ⟨_, rfl, T, rfl, ps, P, hT, hP, hl, hm, h⟩ := h
  simp [ρ0, S_read_corners, S_hull_of]
  exact ⟨ps, hT, fun a c hac => hP.far (a, c) ((hm _).mp hac), ps, .inl rfl, hl, P, hP, fun a c => hm (a, c), h⟩
theorem cl_read_whole {P : Program} {w : World} {K : PySem.W.Frag} {mg : Str → Option Value} {base : Heap} (T : Txt K mg) : Cl P w K mg base "read_whole" 6 (spP K S_read_text) := by
  have h_checked_part := cl_checked_part (P := P) (w := w) (base := base) T
  have hl_checked_part : 5 ≤ 5 := by decide
  have h_read_text := cl_read_text (P := P) (w := w) (base := base) T
  have hl_read_text : 5 ≤ 5 := by decide
  refine cl_pure (k := 5) T.at_read_whole sc_read_whole (by decide) (fun ds Φ h => by obtain ⟨_, rfl, _⟩ := h; rfl) fun f cdv A outer s H hgd hr => ?_
  have nd := sc_read_whole.nd; have hu : (A.deeper (PyProof.Rows.envOfC "read_whole" (defScope st_read_whole) s.heap.objs.size f cdv)).units + 65 < cLine := (by have := hr.un; omega)
  refine ⟨_, (ss_one (s_ret (d_call (h_checked_part.mono hl_checked_part) hgd hr rfl (a_cons (d_call (h_read_text.mono hl_read_text) hgd hr rfl (a_cons (v 0) a_nil)) a_nil)))), fun b ds Φ h => ?_⟩
  obtain ⟨_, rfl, T, rfl, ps, P, hT, hP, hl, hm, h⟩ := h
  simp [ρ0, S_read_text, S_checked_part]
  exact ⟨ps, hT, P, hP, hl, fun a c => hm (a, c), hP, h⟩
end K96

/-! KB19: promises: the law's texts. -/
namespace K96
open PySem L2 DL
def rsD (ps : List P2) : D := .list (ps.map fun p => .str (rowS p))
def S_law_text_rows : SpF := fun ds Φ => as1 ds fun d => asLP d fun l => l.length ≤ 1000 ∧ (∀ p ∈ l, p.1.natAbs ≤ 99 ∧ p.2.natAbs ≤ 99) ∧ Φ (rsD l)
theorem ts_len {i : Int} (h : i.natAbs ≤ 99) : (Str.ofString (toString i)).length ≤ 3 := by rw [TL.len_tl]; exact iL_len h
theorem ts_log {i : Int} (h : i.natAbs ≤ 99) : i.natAbs.log2 < 1920 := by
  have := (Bd.of (k := 7) 99 h (by decide)).log; omega
theorem cl__law_text_rows {P : Program} {w : World} {K : PySem.W.Frag} {mg : Str → Option Value} {base : Heap} (T : Txt K mg) : Cl P w K mg base "_law_text_rows" 1 (spP K S_law_text_rows) := by
  refine cl_pure (k := 0) T.at__law_text_rows sc__law_text_rows (by decide) (fun ds Φ h => by obtain ⟨_, rfl, _⟩ := h; rfl) fun f cdv A outer s H hgd hr => ?_
  have nd := sc__law_text_rows.nd; have hu : (A.deeper (PyProof.Rows.envOfC "_law_text_rows" (defScope st__law_text_rows) s.heap.objs.size f cdv)).units + 65 < cLine := (by have := hr.un; omega)
  refine ⟨_, (ss_one (s_ret (d_lc [("x", 1), ("y", 2)] rfl nd (i_it (v 0)) (by rfl) (fun _ _ _ _ _ => (g_tup (n := 2) rfl (g_cons (gv 1 nd) (g_cons (gv 2 nd) g_nil)))) (fun _ _ _ _ _ => ts_nil) (fun _ _ _ _ _ => (d_addA (d_addA (d_addA d_str (d_ty call_str_int fd_strI PyProof.Rows.boot_str rfl T.ml_str (a_cons (v 1) a_nil))) d_str) (d_ty call_str_int fd_strI PyProof.Rows.boot_str rfl T.ml_str (a_cons (v 2) a_nil))))))), fun b ds Φ h => ?_⟩
  obtain ⟨_, rfl, l, rfl, hl, hf, h⟩ := h
  simp [ρ0, deown, wipeE]
  refine lc_map pD (fun p => .str (rowS p)) l (by rw [sl_eq]; omega) (fun p hp X hX => ?_) h
  obtain ⟨f1, f2⟩ := hf p hp
  have l1 := ts_len f1
  have l2 := ts_len f2
  have l1' : (Str.ofString p.1.repr).length ≤ 3 := l1
  have l2' : (Str.ofString p.2.repr).length ≤ 3 := l2
  have c7 : (Str.ofString "corner ").length = 7 := rfl
  have c1 : (Str.ofString " ").length = 1 := rfl
  simp [ts_log f1, ts_log f2, PySem.strLen_append, c7, c1]
  refine ⟨by omega, by omega, by omega, hX⟩
theorem row_len {p : P2} {s : Str} (hp : p.1.natAbs ≤ 99 ∧ p.2.natAbs ≤ 99) (hs : (tl s).length ≤ 2) : (Txt.join s (Txt.split (rowS p) " ")).length ≤ 20 ∧ ((Txt.split (rowS p) " ").map (·.length)).sum ≤ 20 ∧ (Txt.split (rowS p) " ").length = 3 := by
  have e := split_row p
  have x1 := iL_len hp.1
  have y1 := iL_len hp.2
  have hc : cW.length = 6 := rfl
  refine ⟨?_, ?_, ?_⟩
  · rw [TL.len_tl, TL.join_eq, TL.tl_join, e]
    simp only [TL.joinL, List.length_append]
    have hs : (TL.tl s).length ≤ 2 := hs
    omega
  · have e2 : (Txt.split (rowS p) " ").map (·.length) = ((Txt.split (rowS p) " ").map TL.tl).map List.length := by
      rw [List.map_map]
      exact List.map_congr_left fun w _ => TL.len_tl w
    rw [e2, e]
    simp; omega
  · have := congrArg List.length e
    rw [List.length_map] at this
    exact this
theorem oJoin_i {a : Str} {ys : List Str} {Φ : D → Prop} (h1 : (ys.map (·.length)).sum + ys.length * a.length ≤ 16777216) (h : Φ (.str (Txt.join a ys))) : oJoin (.str a) (.list (ys.map .str)) Φ := ⟨a, ys, rfl, rfl, h1, h⟩
theorem some_strs {b : Bag} {l : List Str} {n : Nat} {Ψ : D → Bag → Prop} (hb : OkB n b) (hn : n ≤ 100000) (h0 : 0 < l.length) (h1 : l.length < 1000000) (h : ∀ s ∈ l, ∀ b', OkB (n + 1) b' → Ψ (.str s) b') : S_law_some b [.list (l.map .str)] Ψ :=
  ⟨_, rfl, l.map .str, rfl, n, hb, hn, by rw [List.length_map]; exact h0, by rw [List.length_map]; exact h1, fun k x b' hk hx hb' => by
    rw [List.length_map] at hk
    rw [List.getElem?_map, List.getElem?_eq_getElem hk] at hx
    cases hx
    exact h _ (List.getElem_mem hk) b' hb'⟩
theorem lead_ok {a : Str} (h : a ∈ (["", " "] : List Str)) : tl a = [] ∨ tl a = [32] := by
  simp only [List.mem_cons, List.not_mem_nil, or_false] at h
  rcases h with z | z <;> rw [z]
  · exact .inl rfl
  · exact .inr rfl
theorem sep_ok {a : Str} (h : a ∈ ([" ", "  "] : List Str)) : tl a = [32] ∨ tl a = [32, 32] := by
  simp only [List.mem_cons, List.not_mem_nil, or_false] at h
  rcases h with z | z <;> rw [z]
  · exact .inl rfl
  · exact .inr rfl
theorem trail_ok {a : Str} (h : a ∈ (["", " ", " # x", "#home"] : List Str)) : tl a = [] ∨ tl a = [32] ∨ tl a = [32, 35, 32, 120] ∨ tl a = [35, 104, 111, 109, 101] := by
  simp only [List.mem_cons, List.not_mem_nil, or_false] at h
  rcases h with z | z | z | z <;> rw [z]
  · exact .inl rfl
  · exact .inr (.inl rfl)
  · exact .inr (.inr (.inl rfl))
  · exact .inr (.inr (.inr rfl))
theorem junk_of {a : Str} (h : a ∈ (["", "  ", "# corner 3", "   # x"] : List Str)) : LnOk a ∧ wordsL a = [] := by
  refine junk_ok ?_
  simp only [List.mem_cons, List.not_mem_nil, or_false] at h
  rcases h with z | z | z | z <;> rw [z]
  · exact .inl rfl
  · exact .inr (.inl rfl)
  · exact .inr (.inr (.inl rfl))
  · exact .inr (.inr (.inr rfl))
theorem short_of {l : List Nat} {n : Nat} (h : l.length ≤ n) : l.length ≤ n := h
def S_law_loose : SpB := fun b ds Φ => as1 ds fun d => ∃ (ps : List P2) (n : Nat), d = rsD ps ∧ 1 ≤ ps.length ∧ ps.length ≤ 50 ∧ (∀ p ∈ ps, p.1.natAbs ≤ 99 ∧ p.2.natAbs ≤ 99) ∧ OkB n b ∧ n ≤ 80000 ∧ ∀ T b', TextOf ps T → OkB (n + 5 * ps.length) b' → Φ (.str T) b'
theorem cl__law_loose {P : Program} {w : World} {K : PySem.W.Frag} {mg : Str → Option Value} {base : Heap} (T : Txt K mg) : Cl P w K mg base "_law_loose" 3 (spB K S_law_loose) := by
  have h__law_take := cl__law_take (P := P) (w := w) (base := base) T
  have hl__law_take : 1 ≤ 2 := by decide
  have h__law_some := cl__law_some (P := P) (w := w) (base := base) T
  have hl__law_some : 2 ≤ 2 := by decide
  refine cl_bag (k := 2) T.at__law_loose sc__law_loose (by decide) (fun b ds Φ h => by obtain ⟨_, rfl, _⟩ := h; rfl) fun f cdv A outer s H hgd hr => ?_
  have nd := sc__law_loose.nd; have hu : (A.deeper (PyProof.Rows.envOfC "_law_loose" (defScope st__law_loose) s.heap.objs.size f cdv)).units + 65 < cLine := (by have := hr.un; omega)
  refine ⟨_, (ss_cons (s_own 2 nd rfl (by first | exact Or.inl rfl | exact Or.inr rfl) (by first | exact .inr rfl | exact .inl rfl)) (ss_cons (s_for PassesOwn.never rfl (i_it (v 1)) (gv 3 nd) (ss_cons (s_if (te_eq hu (d_callB 0 (h__law_take.mono hl__law_take) hgd hr rfl rfl (by first | exact Or.inl rfl | exact Or.inr (Or.inl rfl) | exact Or.inr (Or.inr rfl)) (a_cons d_int a_nil)) d_int) (ss_one (s_append 2 rfl (by first | exact Or.inl rfl | exact Or.inr (Or.inl rfl)) (a_cons (d_callB 0 (h__law_some.mono hl__law_some) hgd hr rfl rfl (by first | exact Or.inl rfl | exact Or.inr (Or.inl rfl) | exact Or.inr (Or.inr rfl)) (a_cons (d_lst (a_cons d_str (a_cons d_str (a_cons d_str (a_cons d_str a_nil))))) a_nil)) a_nil))) ss_nil) (ss_one (s_append 2 rfl (by first | exact Or.inl rfl | exact Or.inr (Or.inl rfl)) (a_cons (d_addA (d_addA (d_callB 0 (h__law_some.mono hl__law_some) hgd hr rfl rfl (by first | exact Or.inl rfl | exact Or.inr (Or.inl rfl) | exact Or.inr (Or.inr rfl)) (a_cons (d_lst (a_cons d_str (a_cons d_str a_nil))) a_nil)) (d_join (d_callB 0 (h__law_some.mono hl__law_some) hgd hr rfl rfl (by first | exact Or.inl rfl | exact Or.inr (Or.inl rfl) | exact Or.inr (Or.inr rfl)) (a_cons (d_lst (a_cons d_str (a_cons d_str a_nil))) a_nil)) (d_split (v 3) d_str))) (d_callB 0 (h__law_some.mono hl__law_some) hgd hr rfl rfl (by first | exact Or.inl rfl | exact Or.inr (Or.inl rfl) | exact Or.inr (Or.inr rfl)) (a_cons (d_lst (a_cons d_str (a_cons d_str (a_cons d_str (a_cons d_str a_nil))))) a_nil))) a_nil))))) (ss_one (s_frz 2 (s_ret (d_join d_str (v 2))))))), fun b ds Φ h => ?_⟩
  obtain ⟨_, rfl, ps, n, rfl, hp0, hp1, hf, hb, hn, h⟩ := h
  have eit : ∀ X : List D → Prop, itD (rsD ps) X = X (ps.map fun p => .str (rowS p)) := fun X => rfl
  simp only [ρ0]
  simp [eit]
  intro p
  refine for_l (fun p : P2 => PyData.str (rowS p)) (fun r ρ b' => ∃ (q : List P2) (ls : List Str) (t3 : Sl), ps = q ++ r ∧ (∀ l ∈ ls, LnOk l) ∧ (ls.map wordsL).filter (fun w => decide (w ≠ [])) = q.map (fun p => [cW, iL p.1, iL p.2]) ∧ ls.length ≤ 2 * q.length ∧ q.length ≤ ls.length ∧ OkB (n + 5 * q.length) b' ∧
    ρ = [.bag, .dat (rsD ps), .own p (.list (ls.map .str)), t3]) (fun x r ρ b' hI X hX => ?_) (fun ρ b' hI => ?_) ps _ _ ⟨[], [], .no, rfl, fun l hl => (by cases hl), rfl, Nat.le_refl _, Nat.le_refl _, hb, rfl⟩
  · obtain ⟨q, ls, t3, e, ho, hg, hl1, hl2, hb', rfl⟩ := hI
    have hx := hf x (by rw [e]; simp)
    have hq := congrArg List.length e
    simp only [List.length_append, List.length_cons] at hq
    simp [S_law_take]
    refine ⟨_, hb', by omega, fun v c1 c2 c3 c4 hv0 hv1 hb2 => ?_⟩
    by_cases hv : v = 0
    · rw [if_pos hv]
      refine some_strs (l := ["", "  ", "# corner 3", "   # x"]) hb2 (by omega) (by decide) (by decide) fun j hj d0 hd0 => ?_
      obtain ⟨j1, j2⟩ := junk_of hj
      refine ⟨by omega, ?_⟩
      refine some_strs (l := ["", " "]) hd0 (by omega) (by decide) (by decide) fun a ha d1 hd1 => ?_
      refine some_strs (l := [" ", "  "]) hd1 (by omega) (by decide) (by decide) fun sp hsp d2 hd2 => ?_
      have oa := lead_ok ha
      have osp := sep_ok hsp
      have lsp : (tl sp).length ≤ 2 := by rcases osp with z | z <;> rw [z] <;> simp
      have la : (tl a).length ≤ 1 := by rcases oa with z | z <;> rw [z] <;> simp
      have lsp' : sp.length ≤ 2 := by rw [TL.len_tl]; exact lsp
      have la' : a.length ≤ 1 := by rw [TL.len_tl]; exact la
      obtain ⟨r1, r2, r3⟩ := row_len hx lsp
      have rl : (rowS x).length ≤ 20 := by
        rw [TL.len_tl, show TL.tl (rowS x) = _ from tl_rowS x]
        have x1 := iL_len hx.1
        have y1 := iL_len hx.2
        have hc : cW.length = 6 := rfl
        simp only [List.length_append, List.length_singleton]; omega
      refine ⟨sp, rfl, by decide +kernel, by omega, oJoin_i ?_ ?_⟩
      · rw [r3]; omega
      simp only [pAddS, sl_eq]
      refine ⟨by omega, ?_⟩
      refine some_strs (l := ["", " ", " # x", "#home"]) hd2 (by omega) (by decide) (by decide) fun tr htr d3 hd3 => ?_
      have otr := trail_ok htr
      have ltr : (tl tr).length ≤ 5 := by rcases otr with z | z | z | z <;> rw [z] <;> simp
      have ltr' : tr.length ≤ 5 := by rw [TL.len_tl]; exact ltr
      have aL : (a ++ Txt.join sp (Txt.split (rowS x) " ")).length = a.length + (Txt.join sp (Txt.split (rowS x) " ")).length := PySem.strLen_append ..
      simp only [pAddS, sl_eq]
      refine ⟨by rw [aL]; omega, by omega, ?_⟩
      obtain ⟨k1, k2⟩ := loose_ok hx oa osp otr
      refine hX _ _ ⟨q ++ [x], ls ++ [j, a ++ Txt.join sp (Txt.split (rowS x) " ") ++ tr], .dat (.str (rowS x)), by rw [e]; simp, fun l hl => ?_, ?_, by simp; omega, by simp; omega, hd3.mono (by simp; omega), by simp⟩
      · rcases List.mem_append.mp hl with z | z
        · exact ho l z
        · rcases List.mem_cons.mp z with z | z
          · rw [z]; exact j1
          · rw [List.mem_singleton.mp z]; exact k1
      · have ne : ([cW, iL x.1, iL x.2] : List (List Nat)) ≠ [] := by simp
        rw [List.map_append, List.filter_append, hg]
        simp [j2, k2]
    · rw [if_neg hv]
      refine some_strs (l := ["", " "]) hb2 (by omega) (by decide) (by decide) fun a ha d1 hd1 => ?_
      refine some_strs (l := [" ", "  "]) hd1 (by omega) (by decide) (by decide) fun sp hsp d2 hd2 => ?_
      have oa := lead_ok ha
      have osp := sep_ok hsp
      have lsp : (tl sp).length ≤ 2 := by rcases osp with z | z <;> rw [z] <;> simp
      have la : (tl a).length ≤ 1 := by rcases oa with z | z <;> rw [z] <;> simp
      have lsp' : sp.length ≤ 2 := by rw [TL.len_tl]; exact lsp
      have la' : a.length ≤ 1 := by rw [TL.len_tl]; exact la
      obtain ⟨r1, r2, r3⟩ := row_len hx lsp
      have rl : (rowS x).length ≤ 20 := by
        rw [TL.len_tl, show TL.tl (rowS x) = _ from tl_rowS x]
        have x1 := iL_len hx.1
        have y1 := iL_len hx.2
        have hc : cW.length = 6 := rfl
        simp only [List.length_append, List.length_singleton]; omega
      refine ⟨sp, rfl, by decide +kernel, by omega, oJoin_i ?_ ?_⟩
      · rw [r3]; omega
      simp only [pAddS, sl_eq]
      refine ⟨by omega, ?_⟩
      refine some_strs (l := ["", " ", " # x", "#home"]) hd2 (by omega) (by decide) (by decide) fun tr htr d3 hd3 => ?_
      have otr := trail_ok htr
      have ltr : (tl tr).length ≤ 5 := by rcases otr with z | z | z | z <;> rw [z] <;> simp
      have ltr' : tr.length ≤ 5 := by rw [TL.len_tl]; exact ltr
      have aL : (a ++ Txt.join sp (Txt.split (rowS x) " ")).length = a.length + (Txt.join sp (Txt.split (rowS x) " ")).length := PySem.strLen_append ..
      simp only [pAddS, sl_eq]
      refine ⟨by rw [aL]; omega, by omega, ?_⟩
      obtain ⟨k1, k2⟩ := loose_ok hx oa osp otr
      refine hX _ _ ⟨q ++ [x], ls ++ [a ++ Txt.join sp (Txt.split (rowS x) " ") ++ tr], .dat (.str (rowS x)), by rw [e]; simp, fun l hl => ?_, ?_, by simp; omega, by simp; omega, hd3.mono (by simp; omega), by simp⟩
      · rcases List.mem_append.mp hl with z | z
        · exact ho l z
        · rw [List.mem_singleton.mp z]; exact k1
      · rw [List.map_append, List.filter_append, hg]
        simp [k2]
  · obtain ⟨q, ls, t3, e, ho, hg, hl1, hl2, hb', rfl⟩ := hI
    rw [List.append_nil] at e
    subst e
    have lnl : (Str.ofString "\n").length = 1 := rfl
    have hsum : (ls.map (·.length)).sum ≤ ls.length * 1000 := by
      have := sum_le (l := ls.map (·.length)) (c := 1000) (fun x hx => by
        obtain ⟨l, hl', rfl⟩ := List.mem_map.mp hx
        exact (ho l hl').n)
      rwa [List.length_map] at this
    simp
    refine oJoin_i (by rw [lnl]; omega) (h _ _ ⟨ls, rfl, fun e => by have := congrArg List.length e; simp only [List.length_nil] at this; omega, by omega, ho, hg⟩ hb')
theorem rowS_inj {p q : P2} (h : rowS p = rowS q) : p = q := by
  have e := congrArg TL.tl h
  have e : tl (rowS p) = tl (rowS q) := e
  rw [tl_rowS, tl_rowS] at e
  have e := List.append_cancel_left e
  have e := List.append_cancel_left e
  simp only [List.cons_append, List.nil_append] at e
  obtain ⟨a, c⟩ := app_free (s := 32) (iL_free (by decide) (by decide)) (iL_free (by decide) (by decide)) e
  exact Prod.ext (iL_inj a) (iL_inj c)
theorem unmap {α β : Type} (f : α → β) (l : List α) : ∀ ys : List β, (∀ y ∈ ys, y ∈ l.map f) → ∃ xs : List α, ys = xs.map f ∧ ∀ x ∈ xs, x ∈ l
  | [], _ => ⟨[], rfl, fun x hx => by cases hx⟩
  | y :: ys, h => by
    obtain ⟨x, hx, e⟩ := List.mem_map.mp (h y (List.mem_cons_self ..))
    obtain ⟨xs, e2, h2⟩ := unmap f l ys fun z hz => h z (List.mem_cons_of_mem _ hz)
    refine ⟨x :: xs, by rw [List.map_cons, e, e2], fun z hz => ?_⟩
    rcases List.mem_cons.mp hz with w | w
    · rw [w]; exact hx
    · exact h2 z w
def S_law_text : SpB := fun b ds Φ => as1 ds fun d => asTP d fun P => ∃ n : Nat, PartOk P ∧ OkB n b ∧ n ≤ 70000 ∧ ∀ T ps b', TextOf ps T → ps.length ≤ 1000 → (∀ x, x ∈ ps ↔ x ∈ P) → OkB (n + 100) b' → Φ (.str T) b'
theorem cl__law_text {P : Program} {w : World} {K : PySem.W.Frag} {mg : Str → Option Value} {base : Heap} (T : Txt K mg) : Cl P w K mg base "_law_text" 4 (spB K S_law_text) := by
  have h__law_loose := cl__law_loose (P := P) (w := w) (base := base) T
  have hl__law_loose : 3 ≤ 3 := by decide
  have h__law_mixed := cl__law_mixed (P := P) (w := w) (base := base) T
  have hl__law_mixed : 2 ≤ 3 := by decide
  have h__law_text_rows := cl__law_text_rows (P := P) (w := w) (base := base) T
  have hl__law_text_rows : 1 ≤ 3 := by decide
  have h__law_some := cl__law_some (P := P) (w := w) (base := base) T
  have hl__law_some : 2 ≤ 3 := by decide
  refine cl_bag (k := 3) T.at__law_text sc__law_text (by decide) (fun b ds Φ h => by obtain ⟨_, rfl, _⟩ := h; rfl) fun f cdv A outer s H hgd hr => ?_
  have nd := sc__law_text.nd; have hu : (A.deeper (PyProof.Rows.envOfC "_law_text" (defScope st__law_text) s.heap.objs.size f cdv)).units + 65 < cLine := (by have := hr.un; omega)
  refine ⟨_, (ss_one (s_ret (d_callB 0 (h__law_loose.mono hl__law_loose) hgd hr rfl rfl (by first | exact Or.inl rfl | exact Or.inr (Or.inl rfl) | exact Or.inr (Or.inr rfl)) (a_cons (d_callB 0 (h__law_mixed.mono hl__law_mixed) hgd hr rfl rfl (by first | exact Or.inl rfl | exact Or.inr (Or.inl rfl) | exact Or.inr (Or.inr rfl)) (a_cons (d_call (h__law_text_rows.mono hl__law_text_rows) hgd hr rfl (a_cons (d_addA (d_ty call_list_of fd_list PyProof.Rows.boot_list rfl T.ml_list (a_cons (v 1) a_nil)) (d_lst (a_cons (d_callB 0 (h__law_some.mono hl__law_some) hgd hr rfl rfl (by first | exact Or.inl rfl | exact Or.inr (Or.inl rfl) | exact Or.inr (Or.inr rfl)) (a_cons (d_ty call_list_of fd_list PyProof.Rows.boot_list rfl T.ml_list (a_cons (v 1) a_nil)) a_nil)) a_nil))) a_nil)) a_nil)) a_nil)))), fun b ds Φ h => ?_⟩
  obtain ⟨_, rfl, P, rfl, n, hP, hb, hn, h⟩ := h
  have p3 := hP.three
  have p10 := hP.ten
  simp only [ρ0]
  simp [S_law_some]
  refine ⟨n, hb, by omega, by omega, by omega, fun k x a1 a2 a3 a4 hk y1 y2 hy hx hb1 => ⟨by omega, ?_⟩⟩
  subst hx
  have my : (y1, y2) ∈ P := List.mem_of_getElem? hy
  have el : P.map pD ++ [pD (y1, y2)] = (P ++ [(y1, y2)]).map pD := by simp
  rw [el]
  have hf : ∀ p ∈ P ++ [(y1, y2)], p.1.natAbs ≤ 99 ∧ p.2.natAbs ≤ 99 := fun p hp => by
    rcases List.mem_append.mp hp with z | z
    · exact hP.far p z
    · rw [List.mem_singleton.mp z]; exact hP.far _ my
  have hmem : ∀ p, p ∈ P ++ [(y1, y2)] ↔ p ∈ P := fun p => by
    rw [List.mem_append, List.mem_singleton]
    constructor
    · rintro (z | z)
      · exact z
      · rw [z]; exact my
    · exact .inl
  have hlen : (P ++ [(y1, y2)]).length = P.length + 1 := by simp
  generalize P ++ [((y1, y2) : P2)] = l at hf hmem hlen
  refine ⟨_, rfl, l, rfl, by omega, hf, ?_⟩
  refine ⟨_, rfl, l.map (fun p => .str (rowS p)), rfl, n + 1, hb1, by omega, by rw [List.length_map]; omega, fun ys b2 hys hyl hb2 => ?_⟩
  rw [List.length_map] at hyl hb2
  obtain ⟨ps, rfl, hps⟩ := unmap (fun p : P2 => PyData.str (rowS p)) l ys (fun y hy => (hys y).mp hy)
  rw [List.length_map] at hyl
  refine ⟨_, rfl, ps, n + 1 + l.length, rfl, by omega, by omega, fun p hp => hf p (hps p hp), hb2, by omega, fun T b3 hT hb3 => ?_⟩
  refine h T ps b3 hT (by omega) (fun x => ⟨fun hx => (hmem x).mp (hps x hx), fun hx => ?_⟩) (hb3.mono (by omega))
  have := (hys (.str (rowS x))).mpr (List.mem_map.mpr ⟨x, (hmem x).mpr hx, rfl⟩)
  obtain ⟨p, hp, e⟩ := List.mem_map.mp this
  have : rowS p = rowS x := by injection e
  rw [← rowS_inj this]; exact hp
end K96

/-! DL25: sorted(set([m, n])) of two ints. -/
namespace DL
open PySem PySem.Spec PyProof.Rows L2
/-- an empty set, new -/
abbrev emS (w : World) : Obj := { cls := .type "set", dict := none, data := .set #[] 0 (.fresh 0 0 (!w.params.followText "set-order")) }
section
variable {P : Program} {w : World} {A : Around} {E : Value → Shared → Prop} {s : Shared}
theorem nowhere {h : Heap} {b : Addr} {o : Obj} {ob : Obj} (e : h.get? b = some o) : b ≠ h.objs.size ∧ b ≠ (h.push ob).objs.size := by
  have z := Heap.lt_size e
  rw [Heap.size_push]
  exact ⟨Nat.ne_of_lt z, Nat.ne_of_lt (Nat.lt_succ_of_lt z)⟩
set_option maxHeartbeats 3200000 in
theorem set_ofInts {l : Addr} {its : Array Value} (ns : List Int) {Q : Value → Shared → Prop} (hh : A.handled = none) (hl : s.heap.IsList l its) (hi : IntsAre its.toList ns) (hn : ns.length + 1 < scanBound)
    (k : ∀ (g : Heap) (t c : Nat), SetR w g s.heap.objs.size (fun j => decide (j ∈ ns)) c → c ≤ ns.length → (∀ b o, s.heap.get? b = some o → g.get? b = some o) → Q (.ref s.heap.objs.size) { s with heap := g, toks := t }) :
    wpAny (model P w) A (call (.type "set") [.ref l]) Q E s := by
  have size : its.size = ns.length := by
    have z := IntsAre.length hi
    rw [Array.length_toList] at z
    exact z
  obtain ⟨m1, m2, m3⟩ := F.called_set.mro
  have made := F.called_set.made
  have subS := F.called_set.sub
  have nty := F.called_set.notType
  have can := F.called_set.canCreate
  have tc := F.typeCall_set_1 (.ref l)
  refine wpAny_call (codeAny_of_tree ?_)
  show wpAny _ _ (callAny (.type "set") _) _ _ _
  refine wpAny_pure ⟨Code.quiet_builtin _ (by decide +kernel), codeAny_builtin F.entry_type_call ?_⟩
  rw [Around.under_plain (weight_type_call_type "set" [.ref l] []) rfl]
  repeat (any_goals (first | assumption | wp_step))
  refine codeAny_mono (code_set_led1 (.ref l) (E := E) (Q₁ := fun ob z => ob = .ref s.heap.objs.size ∧ z = { s with heap := s.heap.push (emS w) }) ⟨rfl, rfl⟩) fun r z hr => ?_
  match r, hr with
  | .error e, hr => exact hr
  | .ok (.ret ob), ⟨eo, ez⟩ =>
    subst eo ez
    have here : (s.heap.push (emS w)).get? s.heap.objs.size = some (emS w) := Heap.get?_push_size _ rfl
    have typ : Shared.TypeIs { s with heap := s.heap.push (emS w) } (.ref s.heap.objs.size) "set" := ⟨_, here, rfl⟩
    have init := F.called_set.init.lookup
    have bind := F.called_set.init.bind (.ref s.heap.objs.size)
    repeat (any_goals (first | assumption | wp_step))
    refine codeAny_mono (codeAny_call_builtin (R := wants (fun r z => r = .none ∧ ∃ g t c, z = { s with heap := g, toks := t } ∧ SetR w g s.heap.objs.size (fun j => decide (j ∈ ns)) c ∧ c ≤ ns.length ∧
        (∀ b o, s.heap.get? b = some o → g.get? b = some o)) E) F.called_set.init.plain F.entry_set_init (check_set_init_1 typ ?_)) fun r2 z2 h2 => ?_
    · obtain ⟨⟨oc, od, ot, os⟩, at_, e1, nl, e2⟩ := hl
      simp only at e1 e2
      subst e1 e2
      have b1 := F.sub_list_set
      have b2 := F.sub_list_frozenset
      have b3 : (Value.type "list" == Value.type "dict") = false := by decide
      have at1 : (s.heap.push (emS w)).get? l = some { cls := .type "list", dict := od, data := .seq its nl, slots := os } := Heap.get?_push_of_some _ at_
      have isl : (s.heap.push (emS w)).IsList l its := ⟨_, at1, rfl, nl, rfl⟩
      unfold Builtin.«set.__init__» noKeywords Builtin.Frozenset.updateFrom
      generalize hp : pyIter = Pi
      wp_walk
      subst hp
      refine wpAny_pyIter_list isl ?_
      refine wpAny_bind (wpAny_runValue ?_)
      have hd3 : A.in1.in1.in1.handled = none := by simp [hh]
      obtain ⟨f1, f2⟩ := nowhere (ob := emS w) at_
      have notS : s.heap.objs.size ∉ [(s.heap.push (emS w)).objs.size, l] := by
        rw [Heap.size_push]
        simp only [List.mem_cons, List.mem_singleton, List.not_mem_nil, or_false, not_or]
        exact ⟨by omega, fun e => f1 e.symm⟩
      have vals : ∀ (i : Nat) (v : Value), its[i]? = some v → ∃ k t, ns[i]? = some k ∧ v = .int k t := fun i v hv => by
        have lt : i < ns.length := by rw [← size]; exact (Array.getElem?_eq_some_iff.mp hv).1
        obtain ⟨t, e⟩ := IntsAre.int_at hi i v (by rw [Array.getElem?_toList]; exact hv)
        refine ⟨ns[i], t, List.getElem?_eq_getElem lt, ?_⟩
        rw [e, List.getD_eq_getElem?_getD, List.getElem?_eq_getElem lt] <;> rfl
      refine set_update_ints ((Walks.list hd3 _ l f2 its).toS) s.heap.objs.size notS ns size hn vals (its.size - 0) 0 _ (by omega) (Nat.zero_le _)
        ⟨⟨_, Heap.get?_push_size _ rfl, rfl, rfl⟩, isl.push _⟩ ⟨0, Nat.le_refl 0, setR_new_at (Heap.get?_push_of_some _ here)⟩ fun z c mv hc hS => ?_
      obtain ⟨g, g2, d, t, os'⟩ := z
      obtain rfl : g2 = s.gens := mv.gens
      obtain rfl : d = s.drawn := mv.drawn
      obtain rfl : os' = s.os := mv.os
      show wpAny _ _ _ _ _ _
      refine wpAny_pure ?_
      show wpAny _ _ (ret Value.none) _ _ _
      refine wpAny_pure ⟨rfl, g, t, c, rfl, hS, size ▸ hc, fun b o e => ?_⟩
      obtain ⟨n1, n2⟩ := nowhere (ob := emS w) e
      exact mv.heap b o (by simp only [List.mem_cons, List.mem_singleton, List.not_mem_nil, or_false, not_or]; exact ⟨n1, n2⟩) (Heap.get?_push_of_some _ (Heap.get?_push_of_some _ e))
    · match r2, h2 with
      | .error e, h2 => exact h2
      | .ok (.ret v), ⟨e, g, t, c, e2, h3, h4, h5⟩ =>
        subst e e2
        have q := k g t c h3 h4 h5
        repeat (any_goals (first | assumption | wp_step))
  | .ok .next, hr => exact hr
  | .ok .brk, hr => exact hr
  | .ok .cont, hr => exact hr
end
section
variable {X : Cx} {K : PySem.W.Frag}
def rSetOf2 (w : World) : List V → Hp → VK → Prop := fun xs H Q => ∃ (l : Addr) (m n : Int), xs = [V.ref l] ∧ SqL X.K H l ([m, n].map V.int) ∧
  ∀ p c, H p = none → c ≤ 2 → Q (.ref p) (upd H p (SetO w p (fun j => decide (j ∈ [m, n])) c))
theorem cr_setOf2 (hc : X.calm = true) : CallR X (.type "set") (rSetOf2 (X := X) X.w) := by
  intro pins s σ H xs us Q I r ⟨l, m, n, e, hl, q⟩
  subst e
  rw [Vals.ref1 r]
  obtain ⟨its, rv, pl, hz⟩ := I.list hl
  have hn : H s.heap.objs.size = none := I.hok.fresh (Nat.le_refl _)
  refine set_ofInts (P := X.prog) (w := X.w) [m, n] (I.ok.hd hc) pl.isList (by simpa using rv.ints) (by decide : (2:Nat) + 1 < scanBound) fun g t c R hc2 k => ?_
  exact ⟨.ref s.heap.objs.size, upd H s.heap.objs.size (SetO X.w s.heap.objs.size (fun j => decide (j ∈ [m, n])) c), I.laid (t' := t) k (Nat.le_refl _) (setO_new R), rfl, q _ c hn hc2⟩
theorem srt2_of {m n : Int} {ys : List Int} (hs : ys.Pairwise (· < ·)) (hm : ∀ k, k ∈ ys ↔ k ∈ [m, n]) : ys = srt2 m n := by
  refine srt_of ?_ (hs.imp fun h => Int.le_of_lt h)
  refine (List.perm_ext_iff_of_nodup (hs.imp fun h => by omega) (by split <;> simp_all)).mpr fun k => ?_
  rw [hm]
  split <;> simp_all
def wSortSetI (w : WE) : WE := fun ρ b Φ => w ρ b fun d b1 => ∃ m n : Int, d = .list [.int m, .int n] ∧ Φ (.list ((srt2 m n).map .int)) b1
variable {pos pos2 p p2 : Pos} {e : Expr}
theorem d_sortedSetI {w : WE} (hg : Gl X "sorted") (hm : X.mg "sorted" = none) (hg2 : Gl X "set") (hm2 : X.mg "set" = none) (hc : X.calm = true) (he : DE X e w)
    (h1 : starEach [e] X.env = (false, eval e X.env) :: starEach [] X.env := by rfl)
    (h2 : starEach [.Call (.Name "set" p2) [e] [] pos2] X.env = (false, eval (.Call (.Name "set" p2) [e] [] pos2) X.env) :: starEach [] X.env := by rfl) :
    DE X (.Call (.Name "sorted" p) [.Call (.Name "set" p2) [e] [] pos2] [] pos) (wSortSetI w) := by
  obtain ⟨te, p1, s1⟩ := he.ex
  refine ⟨_, pe_callB (cr_sortedSet hc) hg hm PyProof.Rows.boot_sorted (pa_cons (pe_callTy (cr_setOf2 hc) hg2 hm2 PyProof.Rows.boot_set (pa_cons p1 pa_nil h1) (by decide) (by decide) h1 (by rfl)) pa_nil h2) (by decide) (by decide) h2 (by rfl), fun c ρ b σ H Φ Q I h q => ?_⟩
  refine s1 c ρ b σ H _ _ I h fun d b1 v H1 ⟨m, n, e0, h1⟩ I1 g1 r1 => ?_
  subst e0
  obtain ⟨l, xs, rfl, r2, r3⟩ := r1.lst_inv
  have r3' : DqAll X.K (hid (c.hs ρ) H1) xs ([m, n].map .int) := r3
  rw [r3'.ints] at r2
  refine ⟨l, m, n, rfl, SqL.of (hid_le _ _ r2), fun a cc ha hcc => ?_⟩
  have sA : Same H1 (upd H1 a (SetO X.w a (fun j => decide (j ∈ [m, n])) cc)) := same_new ha _
  refine ⟨a, _, cc, rfl, upd_same, by omega, fun ns pr hs hk _ hp => ?_⟩
  obtain rfl := srt2_of (m := m) (n := n) hs fun k => by rw [hk]; simp
  refine q _ _ _ _ h1 ((I1.grow sA).grow (same_new hp _)) (Gr.trans g1 (Gr.of (Same.trans sA (same_new hp _)))) ?_
  exact dq_newL (I1.grow sA).dom hp (DqAll.ofInts _)
end
end DL

/-! KB20: the law's rounds. -/
namespace K96
open PySem L2 DL
def stB : Stmt → List Stmt
  | .For _ _ b _ _ => b
  | _ => []
@[simp] theorem rSortSetI {w : WE} {ρ : DL.Env} {b : Bag} {Φ : D → Bag → Prop} : wSortSetI w ρ b Φ ↔ w ρ b fun d b1 => ∃ m n : Int, d = .list [.int m, .int n] ∧ Φ (.list ((srt2 m n).map .int)) b1 := Iff.rfl
/-! ### what the law's alike asks -/
def Sk (d : D) : Prop := ∀ c ∈ TL.tl d.shown, c < 0x110000
theorem Sk.ok {d : D} (h : Sk d) : PyData.strOk d.shown = true := by
  unfold PyData.strOk
  rw [← Array.all_toList, List.all_eq_true]
  intro c hc
  exact decide_eq_true (h c hc)
theorem Sk_int (i : Int) : Sk (.int i) := fun c hc => by
  rw [shown_int] at hc
  have := iL_sign hc; omega
theorem Sk_bool (k : Bool) : Sk (.bool k) := by
  unfold Sk; cases k <;> decide
theorem Sk_all : ∀ {xs : List D}, (∀ x ∈ xs, Sk x) → ∀ w ∈ PyData.shownAll xs, ∀ c ∈ TL.tl w, c < 0x110000
  | [], _, w, hw => by cases hw
  | x :: xs, h, w, hw => by
    have hw : w ∈ x.shown :: PyData.shownAll xs := hw
    rcases List.mem_cons.mp hw with z | z
    · rw [z]; exact h x (List.mem_cons_self ..)
    · exact Sk_all (fun y hy => h y (List.mem_cons_of_mem _ hy)) w z
theorem tl_join_ok {s : List Nat} (hs : ∀ c ∈ s, c < 0x110000) : ∀ {ws : List (List Nat)}, (∀ w ∈ ws, ∀ c ∈ w, c < 0x110000) → ∀ c ∈ TL.joinL s ws, c < 0x110000
  | [], _, c, hc => by cases hc
  | [w], h, c, hc => h w (List.mem_cons_self ..) c hc
  | w :: u :: ws, h, c, hc => by
    simp only [TL.joinL, List.mem_append] at hc
    rcases (show c ∈ w ∨ c ∈ s ∨ c ∈ TL.joinL s (u :: ws) from by simpa [or_assoc] using hc) with z | z | z
    · exact h w (List.mem_cons_self ..) c z
    · exact hs c z
    · exact tl_join_ok hs (fun y hy => h y (List.mem_cons_of_mem _ hy)) c z
theorem Sk_tup {xs : List D} (h : ∀ x ∈ xs, Sk x) : Sk (.tuple xs) := fun c hc => by
  have e : (PyData.tuple xs).shown = ("(" : Str) ++ Str.join ", " (PyData.shownAll xs) ++ (if (PyData.shownAll xs).length == 1 then ",)" else ")" : String) := rfl
  rw [e, TL.tl_append, TL.tl_append, TL.tl_join] at hc
  rcases List.mem_append.mp hc with z | z
  · rcases List.mem_append.mp z with z | z
    · have e1 : TL.tl ("(" : Str) = [40] := rfl
      rw [e1] at z; simp at z; omega
    · refine tl_join_ok (fun c hc => ?_) (fun w hw c hc => ?_) c z
      · have e3 : TL.tl (", " : Str) = [44, 32] := rfl
        rw [e3] at hc; simp at hc; omega
      · obtain ⟨v, hv, rfl⟩ := List.mem_map.mp hw
        exact Sk_all h v hv c hc
  · split at z
    · have e2 : TL.tl (",)" : Str) = [44, 41] := rfl
      rw [e2] at z; simp at z; omega
    · have e2 : TL.tl (")" : Str) = [41] := rfl
      rw [e2] at z; simp at z; omega
theorem tl_from : ∀ (ts : List Str) (k : Nat) (acc : Str), (∀ c ∈ TL.tl acc, c < 0x110000) → (∀ w ∈ ts, ∀ c ∈ TL.tl w, c < 0x110000) → ∀ c ∈ TL.tl (textFrom k acc ts), c < 0x110000
  | [], _, _, h, _, c, hc => h c hc
  | t :: r, k, acc, h, hw, c, hc => by
    refine tl_from r (k + 1) (acc ++ (if k > 0 then ", " else "" : String) ++ t) (fun c hc => ?_) (fun w h => hw w (List.mem_cons_of_mem _ h)) c hc
    rw [TL.tl_append, TL.tl_append] at hc
    rcases List.mem_append.mp hc with z | z
    · rcases List.mem_append.mp z with z | z
      · exact h c z
      · split at z
        · have e3 : TL.tl (", " : Str) = [44, 32] := rfl
          rw [e3] at z; simp at z; omega
        · have e3 : TL.tl ("" : Str) = [] := rfl
          rw [e3] at z; cases z
    · exact hw t (List.mem_cons_self ..) c z
theorem Sk_list {xs : List D} (h : ∀ x ∈ xs, Sk x) : Sk (.list xs) := fun c hc => by
  have e : (PyData.list xs).shown = textFrom 0 "[" (PyData.shownAll xs) ++ ("]" : Str) := rfl
  rw [e, TL.tl_append] at hc
  rcases List.mem_append.mp hc with z | z
  · refine tl_from _ 0 "[" (fun c hc => ?_) (Sk_all h) c z
    have e1 : TL.tl ("[" : Str) = [91] := rfl
    rw [e1] at hc; simp at hc; omega
  · have e1 : TL.tl ("]" : Str) = [93] := rfl
    rw [e1] at z; simp at z; omega
/-- bounds of a repr, its signs -/
structure Rs (M k : Nat) (d : D) : Prop where
  r : Rp M k d
  s : Sk d
theorem Rs.mono {M N k l : Nat} {d : D} (h : Rs M k d) (h1 : M ≤ N) (h2 : k ≤ l) : Rs N l d := ⟨h.r.mono h1 h2, h.s⟩
theorem Rs_int {k : Nat} {i : Int} (h : Bd k i) (hk : k < 1900) : Rs (k + 2) 0 (.int i) := ⟨Rp_int h hk, Sk_int i⟩
theorem Rs_bool (b : Bool) : Rs 5 0 (.bool b) := ⟨Rp_bool b, Sk_bool b⟩
theorem Rs_list {M k : Nat} {xs : List D} (h : ∀ x ∈ xs, Rs M k x) : Rs (xs.length * (M + 2) + 3) (k + 1) (.list xs) := ⟨Rp_list fun x hx => (h x hx).r, Sk_list fun x hx => (h x hx).s⟩
theorem Rs_tup {M k : Nat} {xs : List D} (h : ∀ x ∈ xs, Rs M k x) : Rs (xs.length * (M + 2) + 3) (k + 1) (.tuple xs) := ⟨Rp_tup fun x hx => (h x hx).r, Sk_tup fun x hx => (h x hx).s⟩
theorem Rs_pD {k : Nat} {p : P2} (h : Sz k p) (hk : k < 1900) : Rs (2 * k + 11) 1 (pD p) := ⟨Rp_pD h hk, Sk_tup fun x hx => by
  rcases List.mem_cons.mp hx with z | z
  · rw [z]; exact Sk_int _
  · rw [List.mem_singleton.mp z]; exact Sk_int _⟩
theorem Rs.go {M k : Nat} {d : D} (h : Rs M k d) (hM : M ≤ 16777216) (hk : k ≤ 60) {Φ : Prop} (q : Φ) : ∃ N, Rp N 60 d ∧ N ≤ 16777216 ∧ PyData.strOk d.shown = true ∧ Φ := ⟨M, h.r.mono (Nat.le_refl _) hk, hM, h.s.ok, q⟩
theorem Rs_nat {k : Nat} (h : k ≤ 1000) : Rs 12 0 (.int (k : Nat)) := Rs_int (k := 10) (Bd.of 1000 (by omega) (by decide)) (by decide)
theorem ev00 : PyData.eqv (.list []) (.list []) = true := by have := ev_lp (l := []) (m := []); simpa using this
theorem ev1 {m : Int} : PyData.eqv (.list [.int m]) (.list []) = false := by have := ev_ln (l := [m]) (m := []); simpa using this
theorem sh1 {m : Int} : SeqAt.shaped (.list [.int m]) = true := sh_ln (l := [m])
def dueO (R : Ring) (k g : Nat) : P2 × P2 := (turnB (rt R k).2 (rt R g).1, turnB (rt R k).2 (rt R ((g + 1) % R.length)).1)
def rowsD (R : Ring) (k : Nat) : List D := (List.range R.length).map fun g => cD (dueO R k g)
/-- the slots that a lap keeps -/
def Core (R : Ring) (t : P2) (ρ : DL.Env) : Prop := ∃ a0 a2 a3 a4 a8 a9 a10 a11 a13 a14 a15 a16 a17 a18 a19 a20 a21 a22 a23 a24 a25 a26 a27 a28 : Sl,
  ρ = [a0, .bag, a2, a3, a4, .dat (rD R), .dat (.int R.length), .dat (.list ((pts R).map pD)), a8, a9, a10, a11, .dat (pD t), a13, a14, a15, a16, a17, a18, a19, a20, a21, a22, a23, a24, a25, a26, a27, a28]
theorem rows_get {R : Ring} {k g : Nat} (h : g < R.length) : atI (rowsD R k) (g : Int) = some (cD (dueO R k g)) := at_nat (by unfold rowsD; rw [List.getElem?_map, List.getElem?_range h]; rfl)
@[simp] theorem asT_c {a : P2 × P2} {X : List D → Prop} : asT (cD a) X ↔ X [pD a.1, pD a.2] := by unfold cD; exact asT_b
/-- of a room of the ring, seen from a rest -/
structure Rm (R : Ring) (k g : Nat) (L U : P2) : Prop where
  eL : turnB (rt R k).2 (rt R g).1 = L
  eU : turnB (rt R k).2 (rt R ((g + 1) % R.length)).1 = U
  dL : Dir L
  dU : Dir U
  sL : Sz 41 L
  sU : Sz 41 U
  pL : put (rt R k).2 L = (rt R g).1
  pU : put (rt R k).2 U = (rt R ((g + 1) % R.length)).1
theorem rm_of {R : Ring} (hR : RG R) {k g : Nat} (hk : k < R.length) (hg : g < R.length) : Rm R k g (dueO R k g).1 (dueO R k g).2 :=
  have hm := Nat.mod_lt (g + 1) hR.pos
  ⟨rfl, rfl, turn_dir (hR.d2 hk) (hR.d1 hg), turn_dir (hR.d2 hk) (hR.d1 hm), turn_sz (hR.d2 hk) (hR.d1 hg) (hR.s2 hk (Nat.le_refl _)) (hR.s1 hg (Nat.le_refl _)),
    turn_sz (hR.d2 hk) (hR.d1 hm) (hR.s2 hk (Nat.le_refl _)) (hR.s1 hm (Nat.le_refl _)), put_turn (hR.d2 hk) (hR.d1 hg), put_turn (hR.d2 hk) (hR.d1 hm)⟩
theorem room_top {R : Ring} (hR : RG R) {g : Nat} (hg : g < R.length) : room (tops R) (rt R g).1 = g := by
  rw [← tp_tops hg]; exact room_self hR.good.srt hR.good.dt (by rw [tops_len]; exact hg)
theorem rg_in {i j : Int} {d : D} (h : d ∈ rgD i j) : ∃ m : Int, d = .int m ∧ i ≤ m ∧ m < j := by
  unfold rgD at h
  obtain ⟨k, hk, rfl⟩ := List.mem_map.mp h
  have := List.mem_range.mp hk
  exact ⟨_, rfl, by omega, by omega⟩
theorem srt2_in {m n x : Int} (h : x ∈ srt2 m n) : x = m ∨ x = n := by
  unfold srt2 at h
  split at h
  · exact .inl (by simpa using h)
  · split at h <;> (simp at h; omega)
theorem srt2_len (m n : Int) : (srt2 m n).length ≤ 2 := by
  unfold srt2; split
  · exact Nat.le_succ _
  · split <;> exact Nat.le_refl _
theorem flt0 {α : Type} (l : List α) : l.filter (fun _ => false) = [] := List.filter_eq_nil_iff.mpr fun _ _ h => by cases h
/-- the turn to a rest's middle lands in its room -/
theorem led_room {R : Ring} (hR : RG R) (hM : Mids R) {k g : Nat} (hk : k < R.length) (hg : g < R.length) : room (tops R) (put (rt R k).2 (turnB (rt R k).2 (betw (rt R g).1 (rt R g).2))) = g := by
  have hm := Nat.mod_lt (g + 1) hR.pos
  have db := betw_dir (hR.d1 hg) (hR.d2 hg)
  rw [put_turn (hR.d2 hk) db]
  have ha := amid_trans (hR.d1 hg) (hR.d1 hm) (hR.d2 hg) db (hM g hg) (betw_amid (hR.d1 hg) (hR.d2 hg))
  refine ((inRoom_iff hR.good.srt hR.good.dt db (k := g) (by rw [tops_len]; exact hg)).mp (.inr ?_)).symm
  rw [tops_len, tp_tops hg, tp_tops hm]
  exact ha
def CoreN (R : Ring) (t : P2) (k : Nat) (ρ : DL.Env) : Prop := ∃ a0 a2 a3 a4 a8 a9 a10 a11 a15 a16 a17 a18 a19 a20 a21 a22 a23 a24 a25 a26 a27 a28 : Sl,
  ρ = [a0, .bag, a2, a3, a4, .dat (rD R), .dat (.int R.length), .dat (.list ((pts R).map pD)), a8, a9, a10, a11, .dat (pD t), .dat (.int (k : Nat)), .dat (.list (rowsD R k)), a15, a16, a17, a18, a19, a20, a21, a22, a23, a24, a25, a26, a27, a28]
def CoreG (R : Ring) (t : P2) (k g : Nat) (L U y m z : P2) (ρ : DL.Env) : Prop := ∃ a0 a2 a3 a4 a8 a10 a11 a14 a16 a17 a18 a19 a20 a21 a26 a27 a28 : Sl,
  ρ = [a0, .bag, a2, a3, a4, .dat (rD R), .dat (.int R.length), .dat (.list ((pts R).map pD)), a8, .dat (pD L), a10, a11, .dat (pD t), .dat (.int (k : Nat)), a14, .dat (.int (g : Nat)), a16, a17, a18, a19, a20, a21, .dat (pD U), .dat (pD y), .dat (pD m), .dat (pD z), a26, a27, a28]
def p5 : List Stmt := (stB ((stB ((defBody st_law).getD 1 (.Pass ⟨0, 0, 0, 0⟩))).getD 7 (.Pass ⟨0, 0, 0, 0⟩))).drop 15
theorem tl_p5 {P : Program} {w : World} {K : PySem.W.Frag} {mg : Str → Option Value} {base : Heap} (T : Txt K mg) (f : Addr) (cdv : Value) (A : Around) (outer : List PySem.Env) (s : Shared) (H : Hp) (hgd : A.guards = some []) (hr : Room 9 (A.deeper (PyProof.Rows.envOfC "law" (defScope st_law) s.heap.objs.size f cdv))) :
    ∃ W, DSs (cxOf CX0 P w K mg base ["script", "bag", "lap", "part", "told", "ring", "size", "points", "top", "low", "its", "rest", "drawn", "number", "rows", "goal", "due", "within", "borders", "lands", "along", "sides", "high", "simple", "mid", "led_there", "turn", "many", "row"] "law" (defScope st_law) f cdv A outer s H E0).nox p5 W ∧ ∀ (R : Ring) (t : P2) (k g : Nat) (L U y m z : P2) (ρ : DL.Env) (b : Bag) (X : DL.Env → Bag → Prop) (Ψ : Out → Prop), RG R → k < R.length → g < R.length → Rm R k g L U → Simp L U y → CoreG R t k g L U y m z ρ → (∀ ρ, Core R t ρ → X ρ b) → W ρ b (lpK X Ψ) := by
  have h_weight := cl_weight (P := P) (w := w) (base := base) T
  have hl_weight : 1 ≤ 9 := by decide
  have h__law_amid := cl__law_amid (P := P) (w := w) (base := base) T
  have hl__law_amid : 5 ≤ 9 := by decide
  have h_by_weight := cl_by_weight (P := P) (w := w) (base := base) T
  have hl_by_weight : 2 ≤ 9 := by decide
  have h_turn_between := cl_turn_between (P := P) (w := w) (base := base) T
  have hl_turn_between : 3 ≤ 9 := by decide
  have h_top_at := cl_top_at (P := P) (w := w) (base := base) T
  have hl_top_at : 1 ≤ 9 := by decide
  have h_rest_at := cl_rest_at (P := P) (w := w) (base := base) T
  have hl_rest_at : 1 ≤ 9 := by decide
  have h_next_rest := cl_next_rest (P := P) (w := w) (base := base) T
  have hl_next_rest : 6 ≤ 9 := by decide
  have h_are_alike := cl_are_alike (P := P) (w := w) (base := base) T
  have hl_are_alike : 8 ≤ 9 := by decide
  have h_keeping_turns := cl_keeping_turns (P := P) (w := w) (base := base) T
  have hl_keeping_turns : 9 ≤ 9 := by decide
  have nd := sc_law.nd; have hu : (A.deeper (PyProof.Rows.envOfC "law" (defScope st_law) s.heap.objs.size f cdv)).units + 65 < cLine := (by have := hr.un; omega)
  refine ⟨_, (ss_cons (s_for PassesOwn.never rfl (i_rg2 rfl T.ml_range (a_cons d_int (a_cons (d_fn (call_min2 rfl) fd_min2 PyProof.Rows.boot_min rfl T.ml_min (a_cons (d_call (h_weight.mono hl_weight) hgd hr rfl (a_cons (v 23) a_nil)) (a_cons d_int a_nil))) a_nil))) (gv 27 nd) (ss_one (s_if (te_ne hu (d_lc [("its", 10)] rfl nd (i_it (d_call (h_by_weight.mono hl_by_weight) hgd hr rfl (a_cons (v 27) a_nil))) (by rfl) (fun _ _ _ _ _ => (gv 10 nd)) (fun _ _ _ _ _ => (ts_one (t_val (d_call (h__law_amid.mono hl__law_amid) hgd hr rfl (a_cons (v 9) (a_cons (v 22) (a_cons (v 10) a_nil))))))) (fun _ _ _ _ _ => (v 10))) (d_lst a_nil)) (ss_one (s_ret d_bool)) ss_nil))) (ss_cons (s_if (t_w (u_or (te_ne hu (d_call (h_next_rest.mono hl_next_rest) hgd hr rfl (a_cons (v 5) (a_cons (v 13) (a_cons (v 9) a_nil)))) (v 15)) (u_or (te_ne hu (d_call (h_next_rest.mono hl_next_rest) hgd hr rfl (a_cons (v 5) (a_cons (v 13) (a_cons (v 22) a_nil)))) (d_modA (d_ty call_int1 fd_int PyProof.Rows.boot_int rfl T.ml_int (a_cons (d_addA (v 15) d_int) a_nil)) (v 6))) (u_or1 (te_ne hu (d_call (h_turn_between.mono hl_turn_between) hgd hr rfl (a_cons (d_call (h_rest_at.mono hl_rest_at) hgd hr rfl (a_cons (v 5) (a_cons (v 13) a_nil))) (a_cons (d_call (h_top_at.mono hl_top_at) hgd hr rfl (a_cons (v 5) (a_cons (v 15) a_nil))) a_nil))) (v 9)))))) (ss_one (s_ret d_bool)) ss_nil) (ss_one (s_if (te_ne hu (d_lc [("turn", 26)] rfl nd (i_it (d_call (h_keeping_turns.mono hl_keeping_turns) hgd hr rfl (a_cons (v 5) (a_cons (v 13) a_nil)))) (by rfl) (fun _ _ _ _ _ => (gv 26 nd)) (fun _ _ _ _ _ => (ts_one (t_not (t_val (d_call (h_are_alike.mono hl_are_alike) hgd hr rfl (a_cons (v 5) (a_cons (d_call (h_next_rest.mono hl_next_rest) hgd hr rfl (a_cons (v 5) (a_cons (v 13) (a_cons (v 26) a_nil)))) (a_cons (v 13) a_nil)))))))) (fun _ _ _ _ _ => (v 26))) (d_lst a_nil)) (ss_one (s_ret d_bool)) ss_nil)))), ?_⟩
  intro R t k g L U y m z ρ b X Ψ hR hk hg rm hs ⟨a0, a2, a3, a4, a8, a10, a11, a14, a16, a17, a18, a19, a20, a21, a26, a27, a28, e⟩ h
  subst e
  have r1 : room (tops R) (put (rt R k).2 L) = g := by rw [rm.pL]; exact room_top hR hg
  have r2 : room (tops R) (put (rt R k).2 U) = (g + 1) % R.length := by rw [rm.pU]; exact room_top hR (Nat.mod_lt _ hR.pos)
  have h0 := hR.pos
  have h0' : ¬ R = [] := fun e => by rw [e] at h0; exact absurd h0 (by decide)
  simp [S_size_of]
  refine ⟨by have := wt_pos hs.1; split <;> omega, ?_⟩
  refine for_ind (fun r ρ b' => b = b' ∧ (∀ d ∈ r, ∃ j : Int, d = .int j ∧ 1 ≤ j ∧ j < (if 8 < wt y then 8 else wt y)) ∧ CoreG R t k g L U y m z ρ) (fun d r ρ b' hI X' hX => ?_) (fun ρ b' hI => ?_) _ _ _ ⟨rfl, fun d hd => rg_in hd, a0, a2, a3, a4, a8, a10, a11, a14, a16, a17, a18, a19, a20, a21, a26, a27, a28, rfl⟩
  · obtain ⟨rfl, hr, a0, a2, a3, a4, a8, a10, a11, a14, a16, a17, a18, a19, a20, a21, a26, a27, a28, rfl⟩ := hI
    obtain ⟨j, rfl, j1, j2⟩ := hr d (List.mem_cons_self ..)
    have j3 : j < wt y ∧ j < 8 := by split at j2 <;> omega
    simp [S_by_weight, deown, wipeE]
    refine ⟨j1, by omega, fun l hl hv => ?_⟩
    refine lc_filt pD (fun _ => false) pD l (by rw [sl_eq]; omega) (fun v hvm X1 _ hx => ?_) ?_
    · obtain ⟨dv, wv, sv⟩ := hv v.1 v.2 hvm
      have nv : ¬ amid L U v := fun ha => by have := hs.2.2 v dv ha; have wv : wt v = j := wv; omega
      simp [S_is_amid, nv]
      exact ⟨rm.dL, rm.dU, dv, rm.sL.mono (by decide), rm.sU.mono (by decide), sv.mono (by decide), hx rfl⟩
    · simp [flt0, ev00]
      exact hX _ _ ⟨rfl, fun d hd => hr d (List.mem_cons_of_mem _ hd), a0, a2, a3, a4, a8, a10, a11, a14, a16, a17, a18, a19, a20, a21, a26, _, a28, rfl⟩
  · obtain ⟨rfl, _, a0, a2, a3, a4, a8, a10, a11, a14, a16, a17, a18, a19, a20, a21, a26, a27, a28, rfl⟩ := hI
    simp [S_next_rest, S_turn, S_at1, S_keeping_turns, S_are_alike, md_lt' hk, md_lt' hg, r1, r2, h0', md_eq h0, md_succ, deown, wipeE, rm.eL]
    refine ⟨hR, rm.dL, rm.sL.mono (by decide), hR, rm.dU, rm.sU.mono (by decide), h0, hR.d2 hk, hR.d1 hg, hR.s2 hk (by decide), hR.s1 hg (by decide), k, rfl, hk, hR, fun l hl hv => ?_⟩
    refine lc_filt pD (fun _ => false) pD l (by rw [sl_eq]; omega) (fun v hvm X1 _ hx => ?_) ?_
    · obtain ⟨dv, sv, ev⟩ := hv v.1 v.2 hvm
      simp [S_next_rest, S_are_alike, md_lt' hk]
      exact ⟨hR, dv, sv.mono (by decide), hR, by rw [if_pos ev]; exact hx rfl⟩
    · simp [flt0, ev00]
      exact h _ ⟨a0, a2, a3, a4, a8, _, a10, a11, _, a14, _, a16, a17, a18, a19, a20, a21, _, _, _, _, a26, a27, a28, rfl⟩
def p4 : List Stmt := (stB ((stB ((defBody st_law).getD 1 (.Pass ⟨0, 0, 0, 0⟩))).getD 7 (.Pass ⟨0, 0, 0, 0⟩))).drop 14
theorem tl_p4 {P : Program} {w : World} {K : PySem.W.Frag} {mg : Str → Option Value} {base : Heap} (T : Txt K mg) (f : Addr) (cdv : Value) (A : Around) (outer : List PySem.Env) (s : Shared) (H : Hp) (hgd : A.guards = some []) (hr : Room 9 (A.deeper (PyProof.Rows.envOfC "law" (defScope st_law) s.heap.objs.size f cdv))) :
    ∃ W, DSs (cxOf CX0 P w K mg base ["script", "bag", "lap", "part", "told", "ring", "size", "points", "top", "low", "its", "rest", "drawn", "number", "rows", "goal", "due", "within", "borders", "lands", "along", "sides", "high", "simple", "mid", "led_there", "turn", "many", "row"] "law" (defScope st_law) f cdv A outer s H E0).nox p4 W ∧ ∀ (R : Ring) (t : P2) (k g : Nat) (L U y m z : P2) (ρ : DL.Env) (b : Bag) (X : DL.Env → Bag → Prop) (Ψ : Out → Prop), RG R → k < R.length → g < R.length → Rm R k g L U → Simp L U y → Sz 302 y → Dir m → Sz 400 m → amid L U m → Dir z → Sz 400 z → room (tops R) (put (rt R k).2 z) = g → CoreG R t k g L U y m z ρ → (∀ ρ, Core R t ρ → X ρ b) → W ρ b (lpK X Ψ) := by
  have h_next_rest := cl_next_rest (P := P) (w := w) (base := base) T
  have hl_next_rest : 6 ≤ 9 := by decide
  have h_is_amid := cl_is_amid (P := P) (w := w) (base := base) T
  have hl_is_amid : 4 ≤ 9 := by decide
  have nd := sc_law.nd; have hu : (A.deeper (PyProof.Rows.envOfC "law" (defScope st_law) s.heap.objs.size f cdv)).units + 65 < cLine := (by have := hr.un; omega)
  obtain ⟨W_p5, w_p5, q_p5⟩ := tl_p5 (P := P) (w := w) (base := base) T f cdv A outer s H hgd hr
  refine ⟨_, (ss_cons (s_for PassesOwn.never rfl (i_it (d_tup (a_cons (v 23) (a_cons (v 24) (a_cons (v 25) a_nil))))) (gv 26 nd) (ss_one (s_if (t_w (u_or (t_w (u_and (t_not (t_val (d_call (h_is_amid.mono hl_is_amid) hgd hr rfl (a_cons (v 9) (a_cons (v 22) (a_cons (v 26) a_nil)))))) (u_and1 (te_ne hu (v 26) (v 25))))) (u_or1 (te_ne hu (d_call (h_next_rest.mono hl_next_rest) hgd hr rfl (a_cons (v 5) (a_cons (v 13) (a_cons (v 26) a_nil)))) (v 15))))) (ss_one (s_ret d_bool)) ss_nil))) w_p5), ?_⟩
  intro R t k g L U y m z ρ b X Ψ hR hk hg rm hs sy dm sm am dz sz rz ⟨a0, a2, a3, a4, a8, a10, a11, a14, a16, a17, a18, a19, a20, a21, a26, a27, a28, e⟩ h
  subst e
  have rA : ∀ v, Dir v → amid L U v → room (tops R) (put (rt R k).2 v) = g := fun v dv ha => room_of_amid hR hk hg dv (by rw [rm.eL, rm.eU]; exact ha)
  have e3 : [pD y, pD m, pD z] = [y, m, z].map pD := rfl
  simp
  rw [e3]
  refine for_l pD (fun r ρ b' => b = b' ∧ (∀ v ∈ r, Dir v ∧ Sz 400 v ∧ (amid L U v ∨ v = z) ∧ room (tops R) (put (rt R k).2 v) = g) ∧ CoreG R t k g L U y m z ρ) (fun v r ρ b' hI X' hX => ?_) (fun ρ b' hI => ?_) [y, m, z] _ _ ⟨rfl, fun v hv => ?_, a0, a2, a3, a4, a8, a10, a11, a14, a16, a17, a18, a19, a20, a21, a26, a27, a28, rfl⟩
  · obtain ⟨rfl, hv, a0, a2, a3, a4, a8, a10, a11, a14, a16, a17, a18, a19, a20, a21, a26, a27, a28, rfl⟩ := hI
    obtain ⟨dv, sv, av, rv⟩ := hv v (List.mem_cons_self ..)
    have fin : X' [a0, .bag, a2, a3, a4, .dat (rD R), .dat (.int R.length), .dat (.list ((pts R).map pD)), a8, .dat (pD L), a10, a11, .dat (pD t), .dat (.int (k : Nat)), a14, .dat (.int (g : Nat)), a16, a17, a18, a19, a20, a21, .dat (pD U), .dat (pD y), .dat (pD m), .dat (pD z), .dat (pD v), a27, a28] b :=
      hX _ _ ⟨rfl, fun x hx => hv x (List.mem_cons_of_mem _ hx), a0, a2, a3, a4, a8, a10, a11, a14, a16, a17, a18, a19, a20, a21, .dat (pD v), a27, a28, rfl⟩
    simp [S_is_amid, S_next_rest, md_lt' hk, rv]
    refine ⟨rm.dL, rm.dU, dv, rm.sL.mono (by decide), rm.sU.mono (by decide), sv.mono (by decide), ?_⟩
    split
    · exact ⟨hR, dv, sv, fin⟩
    · next hn => rw [if_pos (av.resolve_left hn)]; exact ⟨hR, dv, sv, fin⟩
  · obtain ⟨rfl, _, c⟩ := hI
    exact q_p5 R t k g L U y m z ρ b X Ψ hR hk hg rm hs c h
  · simp only [List.mem_cons, List.not_mem_nil, or_false] at hv
    rcases hv with e | e | e
    · rw [e]; exact ⟨hs.1, sy.mono (by decide), .inl hs.2.1, rA _ hs.1 hs.2.1⟩
    · rw [e]; exact ⟨dm, sm, .inl am, rA _ dm am⟩
    · rw [e]; exact ⟨dz, sz, .inr rfl, rz⟩
def p3 : List Stmt := (stB ((stB ((defBody st_law).getD 1 (.Pass ⟨0, 0, 0, 0⟩))).getD 7 (.Pass ⟨0, 0, 0, 0⟩))).drop 10
theorem tl_p3 {P : Program} {w : World} {K : PySem.W.Frag} {mg : Str → Option Value} {base : Heap} (T : Txt K mg) (f : Addr) (cdv : Value) (A : Around) (outer : List PySem.Env) (s : Shared) (H : Hp) (hgd : A.guards = some []) (hr : Room 9 (A.deeper (PyProof.Rows.envOfC "law" (defScope st_law) s.heap.objs.size f cdv))) :
    ∃ W, DSs (cxOf CX0 P w K mg base ["script", "bag", "lap", "part", "told", "ring", "size", "points", "top", "low", "its", "rest", "drawn", "number", "rows", "goal", "due", "within", "borders", "lands", "along", "sides", "high", "simple", "mid", "led_there", "turn", "many", "row"] "law" (defScope st_law) f cdv A outer s H E0).nox p3 W ∧ ∀ (R : Ring) (t : P2) (k n0 : Nat) (ρ : DL.Env) (b : Bag) (X : DL.Env → Bag → Prop) (Ψ : Out → Prop), RG R → Mids R → k < R.length → OkB n0 b → n0 ≤ 90000 → CoreN R t k ρ → (∀ ρ b, Core R t ρ → OkB (n0 + 1) b → X ρ b) → W ρ b (lpK X Ψ) := by
  have h__law_take := cl__law_take (P := P) (w := w) (base := base) T
  have hl__law_take : 1 ≤ 9 := by decide
  have h_between := cl_between (P := P) (w := w) (base := base) T
  have hl_between : 4 ≤ 9 := by decide
  have h_simplest_to := cl_simplest_to (P := P) (w := w) (base := base) T
  have hl_simplest_to : 7 ≤ 9 := by decide
  have h__law_kinds := cl__law_kinds (P := P) (w := w) (base := base) T
  have hl__law_kinds : 6 ≤ 9 := by decide
  have h_turn_to_rest := cl_turn_to_rest (P := P) (w := w) (base := base) T
  have hl_turn_to_rest : 9 ≤ 9 := by decide
  have nd := sc_law.nd; have hu : (A.deeper (PyProof.Rows.envOfC "law" (defScope st_law) s.heap.objs.size f cdv)).units + 65 < cLine := (by have := hr.un; omega)
  obtain ⟨W_p4, w_p4, q_p4⟩ := tl_p4 (P := P) (w := w) (base := base) T f cdv A outer s H hgd hr
  refine ⟨_, (ss_cons (ss 15 nd (d_callB 1 (h__law_take.mono hl__law_take) hgd hr rfl rfl (by first | exact Or.inl rfl | exact Or.inr (Or.inl rfl) | exact Or.inr (Or.inr rfl)) (a_cons (v 6) a_nil))) (ss_cons (s_asg (d_ix (v 14) (v 15) (fun _ _ => rfl)) (g_tup (n := 2) rfl (g_cons (gv 9 nd) (g_cons (gv 22 nd) g_nil)))) (ss_cons (s_par 23 24 rfl nd (a_cons (d_call (h_simplest_to.mono hl_simplest_to) hgd hr rfl (a_cons (v 5) (a_cons (v 13) (a_cons (v 15) a_nil)))) (a_cons (d_call (h_between.mono hl_between) hgd hr rfl (a_cons (v 9) (a_cons (v 22) a_nil))) a_nil))) (ss_cons (ss 25 nd (d_if (tc_lt (v 15) (d_call (h__law_kinds.mono hl__law_kinds) hgd hr rfl (a_cons (v 5) a_nil))) (d_call (h_turn_to_rest.mono hl_turn_to_rest) hgd hr rfl (a_cons (v 5) (a_cons (v 13) (a_cons (v 15) a_nil)))) (v 24))) w_p4)))), ?_⟩
  intro R t k n0 ρ b X Ψ hR hM hk hb hn ⟨a0, a2, a3, a4, a8, a9, a10, a11, a15, a16, a17, a18, a19, a20, a21, a22, a23, a24, a25, a26, a27, a28, e⟩ h
  subst e
  simp [S_law_take]
  refine ⟨n0, hb, by omega, hR.pos, by have := hR.few; omega, fun v b1 b2 b3 b4 hv0 hv1 hb2 => ?_⟩
  obtain ⟨g, rfl⟩ : ∃ g : Nat, v = g := ⟨v.toNat, by omega⟩
  have hg : g < R.length := by omega
  have hm := Nat.mod_lt (g + 1) hR.pos
  refine ⟨_, rows_get hg, ?_⟩
  have rm := rm_of hR hk hg
  have lr := led_room hR hM hk hg
  obtain ⟨⟨L, U⟩, e0⟩ : ∃ a, dueO R k g = a := ⟨_, rfl⟩
  rw [e0] at rm ⊢
  have rA : ∀ v, Dir v → amid L U v → room (tops R) (put (rt R k).2 v) = g := fun v dv ha => room_of_amid hR hk hg dv (by rw [rm.eL, rm.eU]; exact ha)
  have dm := betw_dir rm.dL rm.dU
  have sm : Sz 400 (betw L U) := (betw_sz rm.dL rm.dU rm.sL rm.sU).mono (by decide)
  have am := betw_amid rm.dL rm.dU
  simp [S_simplest_to, S_between, S_unlike_many, S_turn_to_rest, md_lt' hk, md_lt' hg]
  refine ⟨g, rfl, hg, hR, fun y1 y2 hs hz => ⟨rm.dL, rm.dU, rm.sL.mono (by decide), rm.sU.mono (by decide), hR, ?_⟩⟩
  rw [rm.eL, rm.eU] at hs
  split
  · next hk2 =>
    have db := betw_dir (hR.d1 hg) (hR.d2 hg)
    refine ⟨hR, by omega, ?_⟩
    refine q_p4 R t k g L U (y1, y2) (betw L U) _ _ _ X Ψ hR hk hg rm hs hz dm sm am (turn_dir (hR.d2 hk) db) ((turn_sz (hR.d2 hk) db (hR.s2 hk (Nat.le_refl _)) (betw_sz (hR.d1 hg) (hR.d2 hg) (hR.s1 hg (Nat.le_refl _)) (hR.s2 hg (Nat.le_refl _)))).mono (by decide)) lr ⟨a0, a2, a3, a4, a8, a10, a11, _, a16, a17, a18, a19, a20, a21, a26, a27, a28, rfl⟩ fun ρ hc => h ρ _ hc hb2
  · exact q_p4 R t k g L U (y1, y2) (betw L U) _ _ _ X Ψ hR hk hg rm hs hz dm sm am dm sm (rA _ dm am) ⟨a0, a2, a3, a4, a8, a10, a11, _, a16, a17, a18, a19, a20, a21, a26, a27, a28, rfl⟩ fun ρ hc => h ρ _ hc hb2
theorem tp_t (R : Ring) (g : Nat) : tp (tops R) g = (rt R g).1 := by
  unfold tp tops rt
  rw [List.getD_eq_getElem?_getD, List.getD_eq_getElem?_getD, List.getElem?_map]
  cases R[g]? <;> rfl
/-- one room, or one border -/
theorem wb {R : Ring} (hR : RG R) {k : Nat} (hk : k < R.length) {t : P2} (dt : Dir t) :
    ((List.range R.length).filter (fun g => decide (amid (dueO R k g).1 (dueO R k g).2 t)) = [room (tops R) (put (rt R k).2 t)] ∧ (List.range R.length).filter (fun g => decide ((dueO R k g).1 = t)) = [] ∧
      put (rt R k).2 t ∉ tops R ∧ (rt R (room (tops R) (put (rt R k).2 t))).1 ≠ put (rt R k).2 t) ∨
    ((List.range R.length).filter (fun g => decide (amid (dueO R k g).1 (dueO R k g).2 t)) = [] ∧ (List.range R.length).filter (fun g => decide ((dueO R k g).1 = t)) = [room (tops R) (put (rt R k).2 t)] ∧
      put (rt R k).2 t ∈ tops R ∧ (rt R (room (tops R) (put (rt R k).2 t))).1 = put (rt R k).2 t) := by
  have h0 : 0 < (tops R).length := by rw [tops_len]; exact hR.pos
  have hrm := room_lt (put (rt R k).2 t) h0
  have e1 : within (tops R) (rt R k).2 t = (List.range R.length).filter (fun g => decide (amid (dueO R k g).1 (dueO R k g).2 t)) := by
    unfold within dueO; simp only [tp_t, tops_len]
  have e2 : borders (tops R) (rt R k).2 t = (List.range R.length).filter (fun g => decide ((dueO R k g).1 = t)) := by
    unfold borders dueO; simp only [tp_t, tops_len]
  have hl := lands hR.good.srt hR.good.dt (hR.d2 hk) dt h0
  rw [e1, e2, tp_t] at hl
  rcases hl with ⟨a, c, d⟩ | ⟨a, c, d⟩
  · refine .inl ⟨a, c, d, fun e => d ?_⟩
    rw [← e, ← tp_t]; exact tp_mem hrm
  · refine .inr ⟨a, c, ?_, d⟩
    rw [← d, ← tp_t]; exact tp_mem hrm
def CoreD (R : Ring) (t : P2) (k : Nat) (ρ : DL.Env) : Prop := ∃ a0 a2 a3 a4 a8 a9 a10 a11 a15 a17 a18 a19 a20 a21 a22 a23 a24 a25 a26 a27 a28 : Sl,
  ρ = [a0, .bag, a2, a3, a4, .dat (rD R), .dat (.int R.length), .dat (.list ((pts R).map pD)), a8, a9, a10, a11, .dat (pD t), .dat (.int (k : Nat)), .dat (.list (rowsD R k)), a15, .dat (.list (rowsD R k)), a17, a18, a19, a20, a21, a22, a23, a24, a25, a26, a27, a28]
def p2 : List Stmt := (stB ((stB ((defBody st_law).getD 1 (.Pass ⟨0, 0, 0, 0⟩))).getD 7 (.Pass ⟨0, 0, 0, 0⟩))).drop 3
theorem tl_p2 {P : Program} {w : World} {K : PySem.W.Frag} {mg : Str → Option Value} {base : Heap} (T : Txt K mg) (f : Addr) (cdv : Value) (A : Around) (outer : List PySem.Env) (s : Shared) (H : Hp) (hgd : A.guards = some []) (hr : Room 9 (A.deeper (PyProof.Rows.envOfC "law" (defScope st_law) s.heap.objs.size f cdv))) :
    ∃ W, DSs (cxOf CX0 P w K mg base ["script", "bag", "lap", "part", "told", "ring", "size", "points", "top", "low", "its", "rest", "drawn", "number", "rows", "goal", "due", "within", "borders", "lands", "along", "sides", "high", "simple", "mid", "led_there", "turn", "many", "row"] "law" (defScope st_law) f cdv A outer s H E0).nox p2 W ∧ ∀ (R : Ring) (t : P2) (k n0 : Nat) (ρ : DL.Env) (b : Bag) (X : DL.Env → Bag → Prop) (Ψ : Out → Prop), RG R → Mids R → k < R.length → Dir t → Sz 130 t → OkB n0 b → n0 ≤ 90000 → CoreD R t k ρ → (∀ ρ b, Core R t ρ → OkB (n0 + 1) b → X ρ b) → W ρ b (lpK X Ψ) := by
  have h__law_amid := cl__law_amid (P := P) (w := w) (base := base) T
  have hl__law_amid : 5 ≤ 9 := by decide
  have h_next_rest := cl_next_rest (P := P) (w := w) (base := base) T
  have hl_next_rest : 6 ≤ 9 := by decide
  have h__law_next := cl__law_next (P := P) (w := w) (base := base) T
  have hl__law_next : 4 ≤ 9 := by decide
  have h_put := cl_put (P := P) (w := w) (base := base) T
  have hl_put : 2 ≤ 9 := by decide
  have h_rest_at := cl_rest_at (P := P) (w := w) (base := base) T
  have hl_rest_at : 1 ≤ 9 := by decide
  have h__law_alike := cl__law_alike (P := P) (w := w) (base := base) T
  have hl__law_alike : 1 ≤ 9 := by decide
  have h_squeezed := cl_squeezed (P := P) (w := w) (base := base) T
  have hl_squeezed : 5 ≤ 9 := by decide
  have h_is_top := cl_is_top (P := P) (w := w) (base := base) T
  have hl_is_top : 1 ≤ 9 := by decide
  have h_falls := cl_falls (P := P) (w := w) (base := base) T
  have hl_falls : 6 ≤ 9 := by decide
  have nd := sc_law.nd; have hu : (A.deeper (PyProof.Rows.envOfC "law" (defScope st_law) s.heap.objs.size f cdv)).units + 65 < cLine := (by have := hr.un; omega)
  obtain ⟨W_p3, w_p3, q_p3⟩ := tl_p3 (P := P) (w := w) (base := base) T f cdv A outer s H hgd hr
  refine ⟨_, (ss_cons (s_setLc 17 [("goal", 15)] rfl nd rfl rfl rfl (i_rg1 rfl T.ml_range (a_cons (v 6) a_nil)) (by rfl) (fun _ _ _ _ _ => (gv 15 nd)) (fun _ _ _ _ _ => (ts_one (t_val (d_call (h__law_amid.mono hl__law_amid) hgd hr rfl (a_cons (d_ix (d_ix (v 16) (v 15) (fun _ _ => rfl)) d_int (fun _ _ => rfl)) (a_cons (d_ix (d_ix (v 16) (v 15) (fun _ _ => rfl)) d_int (fun _ _ => rfl)) (a_cons (v 12) a_nil))))))) (fun _ _ _ _ _ => (v 15))) (ss_cons (s_setLc 18 [("goal", 15)] rfl nd rfl rfl rfl (i_rg1 rfl T.ml_range (a_cons (v 6) a_nil)) (by rfl) (fun _ _ _ _ _ => (gv 15 nd)) (fun _ _ _ _ _ => (ts_one (te_eq hu (d_ix (d_ix (v 16) (v 15) (fun _ _ => rfl)) d_int (fun _ _ => rfl)) (v 12)))) (fun _ _ _ _ _ => (v 15))) (ss_cons (ss 19 nd (d_call (h_next_rest.mono hl_next_rest) hgd hr rfl (a_cons (v 5) (a_cons (v 13) (a_cons (v 12) a_nil))))) (ss_cons (s_if (t_w (u_or (te_ne hu (d_addA (d_fn call_len fd_len boot_len rfl T.ml_len (a_cons (v 17) a_nil)) (d_fn call_len fd_len boot_len rfl T.ml_len (a_cons (v 18) a_nil))) d_int) (u_or (te_ne hu (v 19) (d_ix (d_addA (v 17) (v 18)) d_int (fun _ _ => rfl))) (u_or1 (te_ne hu (v 19) (d_call (h__law_next.mono hl__law_next) hgd hr rfl (a_cons (v 5) (a_cons (v 13) (a_cons (v 12) a_nil))))))))) (ss_one (s_ret d_bool)) ss_nil) (ss_cons (ss 20 nd (d_call (h_put.mono hl_put) hgd hr rfl (a_cons (d_call (h_rest_at.mono hl_rest_at) hgd hr rfl (a_cons (v 5) (a_cons (v 13) a_nil))) (a_cons (v 12) a_nil)))) (ss_cons (ss 21 nd (d_if (te_ne hu (v 18) (d_lst a_nil)) (d_ty call_tuple_of fd_tuple PyProof.Rows.boot_tuple rfl T.ml_tuple (a_cons (d_sortedSetI rfl T.ml_sorted rfl T.ml_set rfl (d_lst (a_cons (v 19) (a_cons (d_modA (d_ty call_int1 fd_int PyProof.Rows.boot_int rfl T.ml_int (a_cons (d_subA (v 19) d_int) a_nil)) (v 6)) a_nil)))) a_nil)) (d_tup (a_cons (v 19) a_nil)))) (ss_cons (s_if (t_not (t_val (d_call (h__law_alike.mono hl__law_alike) hgd hr rfl (a_cons (d_lst (a_cons (d_call (h_falls.mono hl_falls) hgd hr rfl (a_cons (v 5) (a_cons (v 20) a_nil))) (a_cons (d_call (h_is_top.mono hl_is_top) hgd hr rfl (a_cons (v 5) (a_cons (v 20) a_nil))) (a_cons (d_call (h_squeezed.mono hl_squeezed) hgd hr rfl (a_cons (v 5) (a_cons (v 20) a_nil))) a_nil)))) (a_cons (d_lst (a_cons (v 21) (a_cons (de_ne hu (v 18) (d_lst a_nil)) (a_cons (v 19) a_nil)))) a_nil))))) (ss_one (s_ret d_bool)) ss_nil) w_p3))))))), ?_⟩
  intro R t k n0 ρ b X Ψ hR hM hk dt st hb hn ⟨a0, a2, a3, a4, a8, a9, a10, a11, a15, a17, a18, a19, a20, a21, a22, a23, a24, a25, a26, a27, a28, e⟩ h
  subst e
  have h0 := hR.pos
  have h0' : ¬ R = [] := fun e => by rw [e] at h0; exact absurd h0 (by decide)
  have hfew := hR.few
  simp [rg_map, deown, wipeE]
  refine ⟨by omega, ?_⟩
  refine lc_filt (fun g : Nat => PyData.int (g : Int)) (fun g => decide (amid (dueO R k g).1 (dueO R k g).2 t)) (fun g => PyData.int (g : Int)) (List.range R.length) (by rw [sl_eq, List.length_range]; omega) (fun g hg X1 h1 h2 => ?_) ?_
  · have hg := List.mem_range.mp hg
    have rm := rm_of hR hk hg
    simp [rows_get hg, S_is_amid]
    refine ⟨rm.dL, rm.dU, dt, rm.sL.mono (by decide), rm.sU.mono (by decide), st.mono (by decide), ?_⟩
    split
    · next hy => exact h1 (decide_eq_true hy)
    · next hy => exact h2 (decide_eq_false hy)
  simp
  refine ⟨by omega, ?_⟩
  refine lc_filt (fun g : Nat => PyData.int (g : Int)) (fun g => decide ((dueO R k g).1 = t)) (fun g => PyData.int (g : Int)) (List.range R.length) (by rw [sl_eq, List.length_range]; omega) (fun g hg X1 h1 h2 => ?_) ?_
  · have hg := List.mem_range.mp hg
    simp [rows_get hg]
    split
    · next hy => exact h1 (decide_eq_true hy)
    · next hy => exact h2 (decide_eq_false hy)
  have hx := put_dir (hR.d2 hk) dt
  have sx := put_sz (hR.d2 hk) dt (hR.s2 hk (Nat.le_refl _)) st
  have hwb := wb hR hk dt
  obtain ⟨x, ex⟩ : ∃ x, put (rt R k).2 t = x := ⟨_, rfl⟩
  rw [ex] at hwb hx sx
  have hrm : room (tops R) x < R.length := by have := room_lt x (l := tops R) (by rw [tops_len]; exact h0); rwa [tops_len] at this
  obtain ⟨m, em⟩ : ∃ m, room (tops R) x = m := ⟨_, rfl⟩
  rw [em] at hwb hrm
  rcases hwb with ⟨w1, w2, w3, w4⟩ | ⟨w1, w2, w3, w4⟩
  · rw [w1, w2]
    simp [S_next_rest, S_law_next, S_put, S_at1, md_lt' hk, ex, em, h0', md_eq h0, S_falls, S_is_top, S_squeezed, w3, w4, S_law_alike, at0, ev00, ev1, sh1]
    refine ⟨hR, dt, st.mono (by decide), k, rfl, hk, hR, dt, st.mono (by decide), ?_⟩
    rw [if_pos (by rw [ex, em])]
    have r0 : ∀ x ∈ [PyData.tuple [.int (m : Nat)], .bool false, .int (m : Nat)], Rs 17 1 x := fun y hy => by
      simp only [List.mem_cons, List.not_mem_nil, or_false] at hy
      rcases hy with z | z | z
      · rw [z]; exact (Rs_tup (M := 12) (k := 0) fun u hu => by rw [List.mem_singleton.mp hu]; exact Rs_nat (by omega)).mono (by simp) (by decide)
      · rw [z]; exact (Rs_bool _).mono (by decide) (by decide)
      · rw [z]; exact (Rs_nat (by omega)).mono (by decide) (by decide)
    refine ⟨h0, hR.d2 hk, dt, hR.s2 hk (by decide), st.mono (by decide), hR, hx, sx.mono (by decide), by omega, hR, hx, sx.mono (by decide), rfl, ?_⟩
    have r1 := Rs_list r0
    obtain ⟨N, n1, n2, n3, _⟩ := r1.go (by simp only [List.length_cons, List.length_nil]; decide) (by decide) trivial
    refine ⟨N, n1, n2, n3, ?_⟩
    exact q_p3 R t k n0 _ b X Ψ hR hM hk hb hn ⟨a0, a2, a3, a4, a8, a9, a10, a11, a15, _, _, _, _, _, _, a22, a23, a24, a25, a26, a27, a28, rfl⟩ h
  · rw [w1, w2]
    simp [S_next_rest, S_law_next, S_put, S_at1, md_lt' hk, ex, em, h0', md_eq h0, S_falls, S_is_top, S_squeezed, w3, w4, S_law_alike, at0, ev00, ev1, sh1]
    refine ⟨hR, dt, st.mono (by decide), k, rfl, hk, hR, dt, st.mono (by decide), ?_⟩
    rw [if_pos (by rw [ex, em])]
    refine ⟨h0, hR.d2 hk, dt, hR.s2 hk (by decide), st.mono (by decide), ?_⟩
    have hmd := md_lt (i := (m : Int) - 1) h0
    have r0 : ∀ x ∈ [PyData.tuple ((srt2 (m : Nat) (md ((m : Int) - 1) R.length : Nat)).map .int), .bool true, .int (m : Nat)], Rs 31 1 x := fun y hy => by
      simp only [List.mem_cons, List.not_mem_nil, or_false] at hy
      rcases hy with z | z | z
      · rw [z]; exact (Rs_tup (M := 12) (k := 0) fun u hu => by
          obtain ⟨v, hv, rfl⟩ := List.mem_map.mp hu
          rcases srt2_in hv with q | q
          · rw [q]; exact Rs_nat (by omega)
          · rw [q]; exact Rs_nat (by omega)).mono (by have := srt2_len (m : Nat) (md ((m : Int) - 1) R.length : Nat); rw [List.length_map]; omega) (by decide)
      · rw [z]; exact (Rs_bool _).mono (by decide) (by decide)
      · rw [z]; exact (Rs_nat (by omega)).mono (by decide) (by decide)
    refine ⟨_, _, ⟨rfl, rfl⟩, hR, hx, sx.mono (by decide), by omega, hR, hx, sx.mono (by decide), rfl, rfl, ?_⟩
    have r1 := Rs_list r0
    obtain ⟨N, n1, n2, n3, _⟩ := r1.go (by simp only [List.length_cons, List.length_nil]; decide) (by decide) trivial
    refine ⟨N, n1, n2, n3, ?_⟩
    exact q_p3 R t k n0 _ b X Ψ hR hM hk hb hn ⟨a0, a2, a3, a4, a8, a9, a10, a11, a15, _, _, _, _, _, _, a22, a23, a24, a25, a26, a27, a28, rfl⟩ h
def CoreK (R : Ring) (t : P2) (k : Nat) (ρ : DL.Env) : Prop := ∃ a0 a2 a3 a4 a8 a9 a10 a11 a14 a15 a16 a17 a18 a19 a20 a21 a22 a23 a24 a25 a26 a27 a28 : Sl,
  ρ = [a0, .bag, a2, a3, a4, .dat (rD R), .dat (.int R.length), .dat (.list ((pts R).map pD)), a8, a9, a10, a11, .dat (pD t), .dat (.int (k : Nat)), a14, a15, a16, a17, a18, a19, a20, a21, a22, a23, a24, a25, a26, a27, a28]
def p1 : List Stmt := (stB ((stB ((defBody st_law).getD 1 (.Pass ⟨0, 0, 0, 0⟩))).getD 7 (.Pass ⟨0, 0, 0, 0⟩))).drop 0
theorem tl_p1 {P : Program} {w : World} {K : PySem.W.Frag} {mg : Str → Option Value} {base : Heap} (T : Txt K mg) (f : Addr) (cdv : Value) (A : Around) (outer : List PySem.Env) (s : Shared) (H : Hp) (hgd : A.guards = some []) (hr : Room 9 (A.deeper (PyProof.Rows.envOfC "law" (defScope st_law) s.heap.objs.size f cdv))) :
    ∃ W, DSs (cxOf CX0 P w K mg base ["script", "bag", "lap", "part", "told", "ring", "size", "points", "top", "low", "its", "rest", "drawn", "number", "rows", "goal", "due", "within", "borders", "lands", "along", "sides", "high", "simple", "mid", "led_there", "turn", "many", "row"] "law" (defScope st_law) f cdv A outer s H E0).nox p1 W ∧ ∀ (R : Ring) (t : P2) (k n0 : Nat) (ρ : DL.Env) (b : Bag) (X : DL.Env → Bag → Prop) (Ψ : Out → Prop), RG R → Mids R → k < R.length → Dir t → Sz 130 t → OkB n0 b → n0 ≤ 90000 → CoreK R t k ρ → (∀ ρ b, Core R t ρ → OkB (n0 + 1) b → X ρ b) → W ρ b (lpK X Ψ) := by
  have h_rooms := cl_rooms (P := P) (w := w) (base := base) T
  have hl_rooms : 4 ≤ 9 := by decide
  have h__law_turn := cl__law_turn (P := P) (w := w) (base := base) T
  have hl__law_turn : 4 ≤ 9 := by decide
  have h__law_alike := cl__law_alike (P := P) (w := w) (base := base) T
  have hl__law_alike : 1 ≤ 9 := by decide
  have nd := sc_law.nd; have hu : (A.deeper (PyProof.Rows.envOfC "law" (defScope st_law) s.heap.objs.size f cdv)).units + 65 < cLine := (by have := hr.un; omega)
  obtain ⟨W_p2, w_p2, q_p2⟩ := tl_p2 (P := P) (w := w) (base := base) T f cdv A outer s H hgd hr
  refine ⟨_, (ss_cons (s_setLc 14 [("goal", 15)] rfl nd rfl rfl rfl (i_rg1 rfl T.ml_range (a_cons (v 6) a_nil)) (by rfl) (fun _ _ _ _ _ => (gv 15 nd)) (fun _ _ _ _ _ => ts_nil) (fun _ _ _ _ _ => (d_call (h_rooms.mono hl_rooms) hgd hr rfl (a_cons (v 5) (a_cons (v 13) (a_cons (v 15) a_nil)))))) (ss_cons (ss 16 nd (d_lc [("goal", 15)] rfl nd (i_rg1 rfl T.ml_range (a_cons (v 6) a_nil)) (by rfl) (fun _ _ _ _ _ => (gv 15 nd)) (fun _ _ _ _ _ => ts_nil) (fun _ _ _ _ _ => (d_tup (a_cons (d_call (h__law_turn.mono hl__law_turn) hgd hr rfl (a_cons (d_ix (d_ix (v 5) (v 13) (fun _ _ => rfl)) d_int (fun _ _ => rfl)) (a_cons (d_ix (d_ix (v 5) (v 15) (fun _ _ => rfl)) d_int (fun _ _ => rfl)) a_nil))) (a_cons (d_call (h__law_turn.mono hl__law_turn) hgd hr rfl (a_cons (d_ix (d_ix (v 5) (v 13) (fun _ _ => rfl)) d_int (fun _ _ => rfl)) (a_cons (d_ix (d_ix (v 5) (d_modA (d_ty call_int1 fd_int PyProof.Rows.boot_int rfl T.ml_int (a_cons (d_addA (v 15) d_int) a_nil)) (v 6)) (fun _ _ => rfl)) d_int (fun _ _ => rfl)) a_nil))) a_nil)))))) (ss_cons (s_if (t_not (t_val (d_call (h__law_alike.mono hl__law_alike) hgd hr rfl (a_cons (v 14) (a_cons (v 16) a_nil))))) (ss_one (s_ret d_bool)) ss_nil) w_p2))), ?_⟩
  intro R t k n0 ρ b X Ψ hR hM hk dt st hb hn ⟨a0, a2, a3, a4, a8, a9, a10, a11, a14, a15, a16, a17, a18, a19, a20, a21, a22, a23, a24, a25, a26, a27, a28, e⟩ h
  subst e
  have h0 := hR.pos
  have h0' : ¬ R = [] := fun e => by rw [e] at h0; exact absurd h0 (by decide)
  have hfew := hR.few
  simp [rg_map, deown, wipeE]
  refine ⟨by omega, ?_⟩
  refine lc_map (fun g : Nat => PyData.int (g : Int)) (fun g => cD (dueO R k g)) (List.range R.length) (by rw [sl_eq, List.length_range]; omega) (fun g hg X1 h1 => ?_) ?_
  · have hg := List.mem_range.mp hg
    simp [S_rooms, md_lt' hk, md_lt' hg, md_succ]
    exact ⟨hR, h1⟩
  refine ⟨by omega, ?_⟩
  refine lc_map (fun g : Nat => PyData.int (g : Int)) (fun g => cD (dueO R k g)) (List.range R.length) (by rw [sl_eq, List.length_range]; omega) (fun g hg X1 h1 => ?_) ?_
  · have hg := List.mem_range.mp hg
    simp [S_turn, rD_nat hk, rD_nat hg, rD_ix h0, md_succ, h0']
    have hm := Nat.mod_lt (g + 1) h0
    exact ⟨hR.d2 hk, hR.d1 hg, hR.s2 hk (by decide), hR.s1 hg (by decide), hR.d2 hk, hR.d1 hm, hR.s2 hk (by decide), hR.s1 hm (by decide), h1⟩
  simp [S_law_alike]
  refine ⟨rfl, ?_⟩
  have r1 := Rs_list (M := 200) (k := 2) (xs := List.map (fun g => cD (dueO R k g)) (List.range R.length)) fun x hx => by
    obtain ⟨g, hg, rfl⟩ := List.mem_map.mp hx
    have rm := rm_of hR hk (List.mem_range.mp hg)
    exact (Rs_tup (M := 93) (k := 1) (xs := [pD (dueO R k g).1, pD (dueO R k g).2]) fun y hy => by
      simp only [List.mem_cons, List.not_mem_nil, or_false] at hy
      rcases hy with z | z
      · rw [z]; exact Rs_pD rm.sL (by decide)
      · rw [z]; exact Rs_pD rm.sU (by decide)).mono (by simp only [List.length_cons, List.length_nil]; decide) (Nat.le_refl _)
  obtain ⟨N, n1, n2, n3, _⟩ := r1.go (by rw [List.length_map, List.length_range]; omega) (by decide) trivial
  refine ⟨N, n1, n2, n3, ?_⟩
  exact q_p2 R t k n0 _ b X Ψ hR hM hk dt st hb hn ⟨a0, a2, a3, a4, a8, a9, a10, a11, a15, a17, a18, a19, a20, a21, a22, a23, a24, a25, a26, a27, a28, rfl⟩ h
end K96

/-! KB21: the law's laps. -/
namespace K96
open PySem L2 DL
theorem unl_mem {l : List P2} {k : Nat} (h : k < l.length) : tp l k ∈ unl l := by
  unfold unl
  rw [List.mem_flatten]
  exact ⟨_, List.mem_map.mpr ⟨k, List.mem_range.mpr h, rfl⟩, by simp⟩
theorem find_some {acc : List (List Int × D)} {ns : List Int} (h : ∃ e ∈ acc, e.1 = ns) : (acc.find? fun r => decide (r.1 = ns)).isSome = true := by
  rw [List.find?_isSome]
  obtain ⟨e, he, h⟩ := h
  exact ⟨e, he, decide_eq_true h⟩
theorem any_in {l : List P2} {t : P2} : (l.any ((fun z => PyData.eqv z (pD t)) ∘ pD)) = decide (t ∈ l) := by
  rw [Bool.eq_iff_iff, List.any_eq_true, decide_eq_true_eq]
  constructor
  · rintro ⟨x, hx, e⟩
    have e : PyData.eqv (pD x) (pD t) = true := e
    have := (ev_pp (i := x.1) (j := x.2) (k := t.1) (l := t.2)).symm.trans e
    have := of_decide_eq_true this
    have e2 : x = t := this
    rw [← e2]; exact hx
  · intro h
    refine ⟨t, h, ?_⟩
    show PyData.eqv (pD t) (pD t) = true
    exact (ev_pp (i := t.1) (j := t.2) (k := t.1) (l := t.2)).trans (decide_eq_true rfl)
theorem Rs_lp {l : List P2} {n : Nat} (hn : n ≤ 500) (h : ∀ x ∈ l, Sz n x) (hl : l.length ≤ 1000) : Rs 1100000 2 (.list (l.map pD)) :=
  (Rs_list (M := 2 * n + 11) (k := 1) fun x hx => by
    obtain ⟨y, hy, rfl⟩ := List.mem_map.mp hx
    exact Rs_pD (h y hy) (by omega)).mono (by
      rw [List.length_map]
      have : l.length * (2 * n + 11 + 2) ≤ 1000 * 1013 := Nat.mul_le_mul hl (by omega)
      omega) (Nat.le_refl _)
def q2 : List Stmt := (stB ((defBody st_law).getD 1 (.Pass ⟨0, 0, 0, 0⟩))).drop 10
theorem tl_q2 {P : Program} {w : World} {K : PySem.W.Frag} {mg : Str → Option Value} {base : Heap} (T : Txt K mg) (f : Addr) (cdv : Value) (A : Around) (outer : List PySem.Env) (s : Shared) (H : Hp) (hgd : A.guards = some []) (hr : Room 9 (A.deeper (PyProof.Rows.envOfC "law" (defScope st_law) s.heap.objs.size f cdv))) :
    ∃ W, DSs (cxOf CX0 P w K mg base ["script", "bag", "lap", "part", "told", "ring", "size", "points", "top", "low", "its", "rest", "drawn", "number", "rows", "goal", "due", "within", "borders", "lands", "along", "sides", "high", "simple", "mid", "led_there", "turn", "many", "row"] "law" (defScope st_law) f cdv A outer s H E0).nox q2 W ∧ ∀ (R : Ring) (t : P2) (ρ : DL.Env) (b : Bag) (X : DL.Env → Bag → Prop) (Ψ : Out → Prop), RG R → Dir t → Sz 130 t → Core R t ρ → (∀ ρ, Core R t ρ → X ρ b) → W ρ b (lpK X Ψ) := by
  have h__law_alike := cl__law_alike (P := P) (w := w) (base := base) T
  have hl__law_alike : 1 ≤ 9 := by decide
  have h__law_in_order := cl__law_in_order (P := P) (w := w) (base := base) T
  have hl__law_in_order : 2 ≤ 9 := by decide
  have h_in_order := cl_in_order (P := P) (w := w) (base := base) T
  have hl_in_order : 3 ≤ 9 := by decide
  have nd := sc_law.nd; have hu : (A.deeper (PyProof.Rows.envOfC "law" (defScope st_law) s.heap.objs.size f cdv)).units + 65 < cLine := (by have := hr.un; omega)
  refine ⟨_, (ss_one (s_if (t_not (t_val (d_call (h__law_alike.mono hl__law_alike) hgd hr rfl (a_cons (d_call (h_in_order.mono hl_in_order) hgd hr rfl (a_cons (d_addA (v 7) (d_lst (a_cons (v 12) (a_cons (d_tup (a_cons d_int (a_cons d_int a_nil))) a_nil)))) a_nil)) (a_cons (d_call (h__law_in_order.mono hl__law_in_order) hgd hr rfl (a_cons (d_addA (v 7) (d_lst (a_cons (v 12) (a_cons (d_tup (a_cons d_int (a_cons d_int a_nil))) a_nil)))) a_nil)) a_nil))))) (ss_one (s_ret d_bool)) ss_nil)), ?_⟩
  intro R t ρ b X Ψ hR dt st ⟨a0, a2, a3, a4, a8, a9, a10, a11, a13, a14, a15, a16, a17, a18, a19, a20, a21, a22, a23, a24, a25, a26, a27, a28, e⟩ h
  subst e
  have eL : List.map pD (pts R) ++ [pD t, .tuple [.int 1, .int 0]] = (pts R ++ [t, (1, 0)]).map pD := by simp
  obtain ⟨po, pl⟩ := pts_ok hR
  have hsz : ∀ x ∈ pts R ++ [t, (1, 0)], Sz 130 x := fun x hx => by
    simp only [List.mem_append, List.mem_cons, List.not_mem_nil, or_false] at hx
    rcases hx with z | z | z
    · exact (po x z).2.mono (by decide)
    · rw [z]; exact st
    · rw [z]; exact ⟨Bd.of 1 (by decide) (by decide), Bd.of 0 (by decide) (by decide)⟩
  have hll : (pts R ++ [t, (1, 0)]).length ≤ 102 := by simp only [List.length_append, List.length_cons, List.length_nil]; omega
  simp [S_in_order, S_law_alike]
  rw [eL]
  simp only [asLP_b]
  have r1 := Rs_lp (l := lawOrd (pts R ++ [t, (1, 0)])) (n := 130) (by decide) (fun x hx => hsz x (mem_lawOrd.mp hx)) (Nat.le_trans (lawOrd_len _) (by omega))
  obtain ⟨N, n1, n2, n3, _⟩ := r1.go (by decide) (by decide) trivial
  refine ⟨by omega, by omega, fun x y hx => (hsz (x, y) hx).mono (by decide), by omega, by omega, fun x y hx => (hsz (x, y) hx).mono (by decide), trivial, rfl, N, n1, n2, n3, ?_⟩
  exact h _ ⟨a0, a2, a3, a4, a8, a9, a10, a11, a13, a14, a15, a16, a17, a18, a19, a20, a21, a22, a23, a24, a25, a26, a27, a28, rfl⟩
def q1 : List Stmt := (stB ((defBody st_law).getD 1 (.Pass ⟨0, 0, 0, 0⟩))).drop 8
theorem tl_q1 {P : Program} {w : World} {K : PySem.W.Frag} {mg : Str → Option Value} {base : Heap} (T : Txt K mg) (f : Addr) (cdv : Value) (A : Around) (outer : List PySem.Env) (s : Shared) (H : Hp) (hgd : A.guards = some []) (hr : Room 9 (A.deeper (PyProof.Rows.envOfC "law" (defScope st_law) s.heap.objs.size f cdv))) :
    ∃ W, DSs (cxOf CX0 P w K mg base ["script", "bag", "lap", "part", "told", "ring", "size", "points", "top", "low", "its", "rest", "drawn", "number", "rows", "goal", "due", "within", "borders", "lands", "along", "sides", "high", "simple", "mid", "led_there", "turn", "many", "row"] "law" (defScope st_law) f cdv A outer s H E0).nox q1 W ∧ ∀ (R : Ring) (t : P2) (ρ : DL.Env) (b : Bag) (X : DL.Env → Bag → Prop) (Ψ : Out → Prop), RG R → Dir t → Sz 130 t → Core R t ρ → (∀ ρ, Core R t ρ → X ρ b) → W ρ b (lpK X Ψ) := by
  have h_map_of := cl_map_of (P := P) (w := w) (base := base) T
  have hl_map_of : 7 ≤ 9 := by decide
  have h__law_is_firm := cl__law_is_firm (P := P) (w := w) (base := base) T
  have hl__law_is_firm : 4 ≤ 9 := by decide
  have h_a_little_on := cl_a_little_on (P := P) (w := w) (base := base) T
  have hl_a_little_on : 5 ≤ 9 := by decide
  have h_maps := cl_maps (P := P) (w := w) (base := base) T
  have hl_maps : 7 ≤ 9 := by decide
  have nd := sc_law.nd; have hu : (A.deeper (PyProof.Rows.envOfC "law" (defScope st_law) s.heap.objs.size f cdv)).units + 65 < cLine := (by have := hr.un; omega)
  obtain ⟨W_q2, w_q2, q_q2⟩ := tl_q2 (P := P) (w := w) (base := base) T f cdv A outer s H hgd hr
  refine ⟨_, (ss_cons (ss 28 nd (d_call (h_map_of.mono hl_map_of) hgd hr rfl (a_cons (v 5) (a_cons (v 12) a_nil)))) (ss_cons (s_if (t_w (u_or (t_notInK hu (v 28) (d_call (h_maps.mono hl_maps) hgd hr rfl (a_cons (v 5) a_nil))) (u_or (te_ne hu (d_call (h_map_of.mono hl_map_of) hgd hr rfl (a_cons (v 5) (a_cons (d_call (h_a_little_on.mono hl_a_little_on) hgd hr rfl (a_cons (v 5) (a_cons (v 12) a_nil))) a_nil))) (v 28)) (u_or1 (t_w (u_and (t_notIn hu (v 12) (v 7)) (u_and1 (t_not (t_val (d_call (h__law_is_firm.mono hl__law_is_firm) hgd hr rfl (a_cons (v 5) (a_cons (v 12) a_nil)))))))))))) (ss_one (s_ret d_bool)) ss_nil) w_q2)), ?_⟩
  intro R t ρ b X Ψ hR dt st ⟨a0, a2, a3, a4, a8, a9, a10, a11, a13, a14, a15, a16, a17, a18, a19, a20, a21, a22, a23, a24, a25, a26, a27, a28, e⟩ h
  subst e
  obtain ⟨po, pl⟩ := pts_ok hR
  simp [S_map_of, S_maps, S_a_little_on, S_law_is_firm, any_in]
  refine ⟨hR, dt, st.mono (by decide), hR, fun acc hacc => ?_⟩
  have hf := find_some (acc := acc) (ns := mI (mapOf R t)) (by
    obtain ⟨k, hk, e⟩ := map_point hR.good dt
    rw [← e]
    exact hacc.all _ (unl_mem hk))
  rw [hf]
  simp
  refine ⟨hR, dt, st.mono (by decide), fun hn => ⟨hR, dt, st.mono (by decide), ?_⟩, fun k hk e => ?_⟩
  · rw [if_neg hn]
    refine ⟨hR, dt, st.mono (by decide), fun x y hx => firm hR.good dt hn (x, y) hx, ?_⟩
    exact q_q2 R t _ b X Ψ hR dt st ⟨a0, a2, a3, a4, a8, a9, a10, a11, a13, a14, a15, a16, a17, a18, a19, a20, a21, a22, a23, a24, a25, a26, a27, _, rfl⟩ h
  · have hm := Nat.mod_lt (k + 1) hR.good.np
    have o1 := po _ (tp_mem hk)
    have o2 := po _ (tp_mem hm)
    rw [e] at o1
    refine ⟨hR, betw_dir dt o2.1, (betw_sz dt o2.1 o1.2 o2.2).mono (by decide), ?_⟩
    have em : mapOf R (betw t (tp (pts R) ((k + 1) % (pts R).length))) = mapOf R t := by
      have := map_on hR.good hk
      rwa [e] at this
    rw [em]
    have hmem : t ∈ pts R := by rw [← e]; exact tp_mem hk
    simp [hmem]
    exact q_q2 R t _ b X Ψ hR dt st ⟨a0, a2, a3, a4, a8, a9, a10, a11, a13, a14, a15, a16, a17, a18, a19, a20, a21, a22, a23, a24, a25, a26, a27, _, rfl⟩ h
/-- after a lap's first lines -/
def CoreP (R : Ring) (P : List P2) (p : Addr) (ρ : DL.Env) : Prop := ∃ a0 a2 a8 a9 a10 a11 a12 a13 a14 a15 a16 a17 a18 a19 a20 a21 a22 a23 a24 a25 a26 a27 a28 : Sl,
  ρ = [a0, .bag, a2, .dat (tP P), .dat (tP P), .dat (rD R), .dat (.int R.length), .own p (.list []), a8, a9, a10, a11, a12, a13, a14, a15, a16, a17, a18, a19, a20, a21, a22, a23, a24, a25, a26, a27, a28]
def r1 : List Stmt := (stB ((defBody st_law).getD 1 (.Pass ⟨0, 0, 0, 0⟩))).drop 3
theorem tl_r1 {P : Program} {w : World} {K : PySem.W.Frag} {mg : Str → Option Value} {base : Heap} (T : Txt K mg) (f : Addr) (cdv : Value) (A : Around) (outer : List PySem.Env) (s : Shared) (H : Hp) (hgd : A.guards = some []) (hr : Room 9 (A.deeper (PyProof.Rows.envOfC "law" (defScope st_law) s.heap.objs.size f cdv))) :
    ∃ W, DSs (cxOf CX0 P w K mg base ["script", "bag", "lap", "part", "told", "ring", "size", "points", "top", "low", "its", "rest", "drawn", "number", "rows", "goal", "due", "within", "borders", "lands", "along", "sides", "high", "simple", "mid", "led_there", "turn", "many", "row"] "law" (defScope st_law) f cdv A outer s H E0).nox r1 W ∧ ∀ (R : Ring) (P : List P2) (p : Addr) (n0 : Nat) (ρ : DL.Env) (b : Bag) (X : DL.Env → Bag → Prop) (Ψ : Out → Prop), RG R → Mids R → PartOk P → OkB n0 b → n0 ≤ 80000 → CoreP R P p ρ → (∀ t ρ b, Core R t ρ → OkB (n0 + 20) b → X ρ b) → W ρ b (lpK X Ψ) := by
  have h__law_turn := cl__law_turn (P := P) (w := w) (base := base) T
  have hl__law_turn : 4 ≤ 9 := by decide
  have h__law_in_order := cl__law_in_order (P := P) (w := w) (base := base) T
  have hl__law_in_order : 2 ≤ 9 := by decide
  have h__law_alike := cl__law_alike (P := P) (w := w) (base := base) T
  have hl__law_alike : 1 ≤ 9 := by decide
  have h_turning_points := cl_turning_points (P := P) (w := w) (base := base) T
  have hl_turning_points : 4 ≤ 9 := by decide
  have h__law_some := cl__law_some (P := P) (w := w) (base := base) T
  have hl__law_some : 2 ≤ 9 := by decide
  have h__law_turns := cl__law_turns (P := P) (w := w) (base := base) T
  have hl__law_turns : 6 ≤ 9 := by decide
  have h__law_drawn_direction := cl__law_drawn_direction (P := P) (w := w) (base := base) T
  have hl__law_drawn_direction : 3 ≤ 9 := by decide
  have nd := sc_law.nd; have hu : (A.deeper (PyProof.Rows.envOfC "law" (defScope st_law) s.heap.objs.size f cdv)).units + 65 < cLine := (by have := hr.un; omega)
  obtain ⟨W_q1, w_q1, q_q1⟩ := tl_q1 (P := P) (w := w) (base := base) T f cdv A outer s H hgd hr
  obtain ⟨W_p1, w_p1, q_p1⟩ := tl_p1 (P := P) (w := w) (base := base) T f cdv A outer s H hgd hr
  refine ⟨_, (ss_cons (s_for PassesOwn.never rfl (i_it (v 5)) (g_tup (n := 2) rfl (g_cons (gv 8 nd) (g_cons (gv 9 nd) g_nil))) (ss_one (s_extend 7 rfl (by first | exact Or.inl rfl | exact Or.inr (Or.inl rfl)) (a_cons (d_lc [("its", 10), ("rest", 11)] rfl nd (i_it (v 5)) (by rfl) (fun _ _ _ _ _ => (g_tup (n := 2) rfl (g_cons (gv 10 nd) (g_cons (gv 11 nd) g_nil)))) (fun _ _ _ _ _ => ts_nil) (fun _ _ _ _ _ => (d_call (h__law_turn.mono hl__law_turn) hgd hr rfl (a_cons (v 11) (a_cons (v 8) a_nil))))) a_nil)))) (ss_cons (s_frz 7 (ss 7 nd (d_call (h__law_in_order.mono hl__law_in_order) hgd hr rfl (a_cons (v 7) a_nil)))) (ss_cons (s_if (t_not (t_val (d_call (h__law_alike.mono hl__law_alike) hgd hr rfl (a_cons (d_lst (a_cons (v 4) (a_cons (d_call (h_turning_points.mono hl_turning_points) hgd hr rfl (a_cons (v 5) a_nil)) a_nil))) (a_cons (d_lst (a_cons (v 3) (a_cons (v 7) a_nil))) a_nil))))) (ss_one (s_ret d_bool)) ss_nil) (ss_cons (ss 12 nd (d_callB 1 (h__law_some.mono hl__law_some) hgd hr rfl rfl (by first | exact Or.inl rfl | exact Or.inr (Or.inl rfl) | exact Or.inr (Or.inr rfl)) (a_cons (d_addA (d_call (h__law_turns.mono hl__law_turns) hgd hr rfl (a_cons (v 5) a_nil)) (d_lst (a_cons (d_callB 1 (h__law_drawn_direction.mono hl__law_drawn_direction) hgd hr rfl rfl (by first | exact Or.inl rfl | exact Or.inr (Or.inl rfl) | exact Or.inr (Or.inr rfl)) (a_cons d_int a_nil)) a_nil))) a_nil))) (ss_cons (s_for PassesOwn.never rfl (i_rg1 rfl T.ml_range (a_cons (v 6) a_nil)) (gv 13 nd) w_p1) w_q1))))), ?_⟩
  intro R P p n0 ρ b X Ψ hR hM hP hb hn ⟨a0, a2, a8, a9, a10, a11, a12, a13, a14, a15, a16, a17, a18, a19, a20, a21, a22, a23, a24, a25, a26, a27, a28, e⟩ h
  subst e
  have h0 := hR.pos
  have h0' : ¬ R = [] := fun e => by rw [e] at h0; exact absurd h0 (by decide)
  have hfew := hR.few
  obtain ⟨po, pl⟩ := pts_ok hR
  simp
  refine for_l cD (fun r ρ b' => b = b' ∧ ∃ (q : Ring) (l : List P2) (a8 a9 : Sl), R = q ++ r ∧ (∀ x, x ∈ l ↔ ∃ a ∈ q, ∃ c ∈ R, x = turnB c.2 a.1) ∧ l.length = q.length * R.length ∧
    ρ = [a0, .bag, a2, .dat (tP P), .dat (tP P), .dat (rD R), .dat (.int R.length), .own p (.list (l.map pD)), a8, a9, a10, a11, a12, a13, a14, a15, a16, a17, a18, a19, a20, a21, a22, a23, a24, a25, a26, a27, a28]) (fun a r ρ b' hI X' hX => ?_) (fun ρ b' hI => ?_) R _ _ ⟨rfl, [], [], a8, a9, rfl, fun x => by simp, by simp, rfl⟩
  · obtain ⟨rfl, q, l, a8, a9, e, hl, hlen, rfl⟩ := hI
    have ha : a ∈ R := by rw [e]; simp
    have hql : q.length + (r.length + 1) = R.length := by rw [e]; simp
    have hq2 : q.length * R.length ≤ 10 * 10 := Nat.mul_le_mul (by omega) hfew
    have da := hR.good.dt a.1 (List.mem_map.mpr ⟨a, ha, rfl⟩)
    have sa := (hR.sz a ha).1
    simp [deown, wipeE]
    refine lc_map cD (fun c => pD (turnB c.2 a.1)) R (by rw [sl_eq]; omega) (fun c hc X1 h1 => ?_) ?_
    · simp [S_turn]
      exact ⟨hR.good.dr c.2 (List.mem_map.mpr ⟨c, hc, rfl⟩), da, (hR.sz c hc).2.mono (by decide), sa.mono (by decide), h1⟩
    · simp
      refine ⟨by omega, hX _ _ ⟨rfl, q ++ [a], l ++ R.map (fun c => turnB c.2 a.1), .dat (pD a.1), .dat (pD a.2), by rw [e]; simp, fun x => ?_, ?_, by simp⟩⟩
      · simp only [List.mem_append, List.mem_singleton, List.mem_map, hl]
        constructor
        · rintro (⟨z, z1, c, c1, z2⟩ | ⟨c, c1, z2⟩)
          · exact ⟨z, .inl z1, c, c1, z2⟩
          · exact ⟨a, .inr rfl, c, c1, z2.symm⟩
        · rintro ⟨z, z1 | z1, c, c1, z2⟩
          · exact .inl ⟨z, z1, c, c1, z2⟩
          · exact .inr ⟨c, c1, by rw [z2, z1]⟩
      · simp only [List.length_append, List.length_singleton, List.length_map, hlen, Nat.add_mul, Nat.one_mul]
  · obtain ⟨rfl, q, l, a8, a9, e, hl, hlen, rfl⟩ := hI
    rw [List.append_nil] at e
    subst e
    have hml : ∀ x, x ∈ l ↔ x ∈ pts R := fun x => by
      rw [hl, mem_pts]
      constructor
      · rintro ⟨a, ha, c, hc, rfl⟩
        exact ⟨c.2, List.mem_map.mpr ⟨c, hc, rfl⟩, a.1, List.mem_map.mpr ⟨a, ha, rfl⟩, rfl⟩
      · rintro ⟨u, hu, y, hy, rfl⟩
        obtain ⟨c, hc, rfl⟩ := List.mem_map.mp hu
        obtain ⟨a, ha, rfl⟩ := List.mem_map.mp hy
        exact ⟨a, ha, c, hc, rfl⟩
    have hq2 : R.length * R.length ≤ 10 * 10 := Nat.mul_le_mul hfew hfew
    have el : lawOrd l = pts R := srt_uniq (srt_lawOrd fun y hy => (po y ((hml y).mp hy)).1) hR.good.sp fun x => by rw [mem_lawOrd, hml]
    have r1 := Rs_list (M := 1100000) (k := 2) (xs := [tP P, .list ((pts R).map pD)]) fun x hx => by
      simp only [List.mem_cons, List.not_mem_nil, or_false] at hx
      rcases hx with z | z
      · rw [z]
        exact (Rs_tup (M := 25) (k := 1) (xs := P.map pD) fun y hy => by
          obtain ⟨v, hv, rfl⟩ := List.mem_map.mp hy
          exact Rs_pD (hP.sz (n := 7) (by decide) v hv) (by decide)).mono (by rw [List.length_map]; have := hP.ten; omega) (Nat.le_refl _)
      · rw [z]; exact Rs_lp (n := 41) (by decide) (fun x hx => (po x hx).2) (by omega)
    obtain ⟨N, n1, n2, n3, _⟩ := r1.go (by simp only [List.length_cons, List.length_nil]; decide) (by decide) trivial
    have huo := unl_ok hR
    have hul := unl_len (pts R)
    simp [S_in_order, S_law_alike, S_turning_points, el, S_law_turns, S_law_drawn, S_law_some]
    refine ⟨by omega, fun x y hx => (po (x, y) ((hml _).mp hx)).2.mono (by decide), hR, rfl, N, n1, n2, n3, ?_⟩
    refine ⟨hR, n0, hb, by omega, fun x y c1 c2 c3 c4 dp sp hb2 => ⟨by omega, _, hb2, by omega, by omega, fun j v d1 d2 d3 d4 hj hv hb3 => ⟨by omega, ?_⟩⟩⟩
    obtain ⟨t, rfl, dt, st⟩ : ∃ t, v = pD t ∧ Dir t ∧ Sz 130 t := by
      have e2 : List.map pD (unl (pts R)) ++ [pD (x, y)] = (unl (pts R) ++ [(x, y)]).map pD := by simp
      rw [e2] at hv
      obtain ⟨t, ht, rfl⟩ := List.mem_map.mp (List.mem_of_getElem? hv)
      rcases List.mem_append.mp ht with z | z
      · exact ⟨t, rfl, huo t z⟩
      · rw [List.mem_singleton.mp z]; exact ⟨_, rfl, dp, sp.mono (by decide)⟩
    rw [rg_map]
    refine for_l (fun k : Nat => PyData.int (k : Int)) (fun r ρ b' => ∃ q : List Nat, List.range R.length = q ++ r ∧ OkB (n0 + 3 + q.length) b' ∧ Core R t ρ) (fun k r ρ b' hI X' hX => ?_) (fun ρ b' hI => ?_) (List.range R.length) _ _ ⟨[], rfl, hb3.mono (by simp), a0, a2, _, _, a8, a9, a10, a11, a13, a14, a15, a16, a17, a18, a19, a20, a21, a22, a23, a24, a25, a26, a27, a28, rfl⟩
    · obtain ⟨q, e, hb4, a0, a2, a3, a4, a8, a9, a10, a11, a13, a14, a15, a16, a17, a18, a19, a20, a21, a22, a23, a24, a25, a26, a27, a28, rfl⟩ := hI
      have hql : q.length + (r.length + 1) = R.length := by have := congrArg List.length e; simpa using this.symm
      have hk : k < R.length := List.mem_range.mp (by rw [e]; simp)
      refine ⟨by simp, ?_⟩
      refine q_p1 R t k (n0 + 3 + q.length) _ b' X' _ hR hM hk dt st hb4 (by omega) ⟨a0, a2, a3, a4, a8, a9, a10, a11, a14, a15, a16, a17, a18, a19, a20, a21, a22, a23, a24, a25, a26, a27, a28, rfl⟩ fun ρ b2 hc hb5 => ?_
      exact hX _ _ ⟨q ++ [k], by rw [e]; simp, by rw [List.length_append, List.length_singleton]; exact hb5, hc⟩
    · obtain ⟨q, e, hb4, hc⟩ := hI
      have hql : q.length = R.length := by have := congrArg List.length e; simpa using this.symm
      exact q_q1 R t ρ b' X Ψ hR dt st hc fun ρ2 hc2 => h t ρ2 b' hc2 (hb4.mono (by omega))
/-- all slots but the bag's are free -/
def CoreL (ρ : DL.Env) : Prop := ∃ a0 a2 a3 a4 a5 a6 a7 a8 a9 a10 a11 a12 a13 a14 a15 a16 a17 a18 a19 a20 a21 a22 a23 a24 a25 a26 a27 a28 : Sl,
  ρ = [a0, .bag, a2, a3, a4, a5, a6, a7, a8, a9, a10, a11, a12, a13, a14, a15, a16, a17, a18, a19, a20, a21, a22, a23, a24, a25, a26, a27, a28]
def r0 : List Stmt := (stB ((defBody st_law).getD 1 (.Pass ⟨0, 0, 0, 0⟩))).drop 0
theorem tl_r0 {P : Program} {w : World} {K : PySem.W.Frag} {mg : Str → Option Value} {base : Heap} (T : Txt K mg) (f : Addr) (cdv : Value) (A : Around) (outer : List PySem.Env) (s : Shared) (H : Hp) (hgd : A.guards = some []) (hr : Room 9 (A.deeper (PyProof.Rows.envOfC "law" (defScope st_law) s.heap.objs.size f cdv))) :
    ∃ W, DSs (cxOf CX0 P w K mg base ["script", "bag", "lap", "part", "told", "ring", "size", "points", "top", "low", "its", "rest", "drawn", "number", "rows", "goal", "due", "within", "borders", "lands", "along", "sides", "high", "simple", "mid", "led_there", "turn", "many", "row"] "law" (defScope st_law) f cdv A outer s H E0).nox r0 W ∧ ∀ (n0 : Nat) (ρ : DL.Env) (b : Bag) (X : DL.Env → Bag → Prop) (Ψ : Out → Prop), OkB n0 b → n0 ≤ 60000 → CoreL ρ → (∀ ρ b, CoreL ρ → OkB (n0 + 2000) b → X ρ b) → W ρ b (lpK X Ψ) := by
  have h__law_richest := cl__law_richest (P := P) (w := w) (base := base) T
  have hl__law_richest : 7 ≤ 9 := by decide
  have h__law_part := cl__law_part (P := P) (w := w) (base := base) T
  have hl__law_part : 3 ≤ 9 := by decide
  have h__law_tied := cl__law_tied (P := P) (w := w) (base := base) T
  have hl__law_tied : 3 ≤ 9 := by decide
  have h__law_ring := cl__law_ring (P := P) (w := w) (base := base) T
  have hl__law_ring : 6 ≤ 9 := by decide
  have h_read_whole := cl_read_whole (P := P) (w := w) (base := base) T
  have hl_read_whole : 6 ≤ 9 := by decide
  have h__law_text := cl__law_text (P := P) (w := w) (base := base) T
  have hl__law_text : 4 ≤ 9 := by decide
  have nd := sc_law.nd; have hu : (A.deeper (PyProof.Rows.envOfC "law" (defScope st_law) s.heap.objs.size f cdv)).units + 65 < cLine := (by have := hr.un; omega)
  obtain ⟨W_r1, w_r1, q_r1⟩ := tl_r1 (P := P) (w := w) (base := base) T f cdv A outer s H hgd hr
  refine ⟨_, (ss_cons (ss 3 nd (d_call (h__law_richest.mono hl__law_richest) hgd hr rfl (a_cons (d_lst (a_cons (d_callB 1 (h__law_part.mono hl__law_part) hgd hr rfl rfl (by first | exact Or.inl rfl | exact Or.inr (Or.inl rfl) | exact Or.inr (Or.inr rfl)) (a_cons d_int a_nil)) (a_cons (d_callB 1 (h__law_tied.mono hl__law_tied) hgd hr rfl rfl (by first | exact Or.inl rfl | exact Or.inr (Or.inl rfl) | exact Or.inr (Or.inr rfl)) (a_cons d_int a_nil)) (a_cons (d_callB 1 (h__law_part.mono hl__law_part) hgd hr rfl rfl (by first | exact Or.inl rfl | exact Or.inr (Or.inl rfl) | exact Or.inr (Or.inr rfl)) (a_cons d_int a_nil)) a_nil)))) a_nil))) (ss_cons (s_asg (d_tup (a_cons (d_call (h_read_whole.mono hl_read_whole) hgd hr rfl (a_cons (d_callB 1 (h__law_text.mono hl__law_text) hgd hr rfl rfl (by first | exact Or.inl rfl | exact Or.inr (Or.inl rfl) | exact Or.inr (Or.inr rfl)) (a_cons (v 3) a_nil)) a_nil)) (a_cons (d_call (h__law_ring.mono hl__law_ring) hgd hr rfl (a_cons (v 3) a_nil)) a_nil))) (g_tup (n := 2) rfl (g_cons (gv 4 nd) (g_cons (gv 5 nd) g_nil)))) (ss_cons (s_parO 6 7 nd rfl rfl (by first | exact Or.inl rfl | exact Or.inr rfl) (by first | exact .inr rfl | exact .inl rfl) rfl (by first | exact Or.inl rfl | exact Or.inr rfl) (by first | exact .inr rfl | exact .inl rfl) (d_fn call_len fd_len boot_len rfl T.ml_len (a_cons (v 5) a_nil))) w_r1))), ?_⟩
  intro n0 ρ b X Ψ hb hn ⟨a0, a2, a3, a4, a5, a6, a7, a8, a9, a10, a11, a12, a13, a14, a15, a16, a17, a18, a19, a20, a21, a22, a23, a24, a25, a26, a27, a28, e⟩ h
  subst e
  simp [S_law_part, S_law_tied, S_law_richest, S_read_text, S_law_text, S_law_ring]
  refine ⟨n0, hb, by omega, fun P1 b1 b2 b3 b4 h1 hb1 => ⟨_, hb1, by omega, fun P2 c1 c2 c3 c4 h2 hb2 => ⟨_, hb2, by omega, fun P3 d1 d2 d3 d4 h3 hb3 => ⟨[P1, P2, P3], rfl, rfl, fun P hP => ?_, fun P hP => ⟨hP, _, hb3, by omega, fun T ps e1 e2 e3 e4 ht hps hm hb4 => ⟨ps, ht, P, hP, hps, ?_⟩⟩⟩⟩⟩⟩
  · simp only [List.mem_cons, List.not_mem_nil, or_false] at hP
    rcases hP with z | z | z <;> rw [z] <;> assumption
  refine ⟨hm, hP, fun R hR hM p => q_r1 R P p (n0 + 300 + 300 + 300 + 100) _ _ X Ψ hR hM hP hb4 (by omega) ⟨a0, a2, a8, a9, a10, a11, a12, a13, a14, a15, a16, a17, a18, a19, a20, a21, a22, a23, a24, a25, a26, a27, a28, rfl⟩ fun t ρ b hc hb5 => ?_⟩
  obtain ⟨a0, a2, a3, a4, a8, a9, a10, a11, a13, a14, a15, a16, a17, a18, a19, a20, a21, a22, a23, a24, a25, a26, a27, a28, rfl⟩ := hc
  exact h _ b ⟨a0, a2, a3, a4, _, _, _, a8, a9, a10, a11, _, a13, a14, a15, a16, a17, a18, a19, a20, a21, a22, a23, a24, a25, a26, a27, a28, rfl⟩ (hb5.mono (by omega))
def r : List Stmt := (defBody st_law).drop 1
theorem tl_r {P : Program} {w : World} {K : PySem.W.Frag} {mg : Str → Option Value} {base : Heap} (T : Txt K mg) (f : Addr) (cdv : Value) (A : Around) (outer : List PySem.Env) (s : Shared) (H : Hp) (hgd : A.guards = some []) (hr : Room 9 (A.deeper (PyProof.Rows.envOfC "law" (defScope st_law) s.heap.objs.size f cdv))) :
    ∃ W, DSs (cxOf CX0 P w K mg base ["script", "bag", "lap", "part", "told", "ring", "size", "points", "top", "low", "its", "rest", "drawn", "number", "rows", "goal", "due", "within", "borders", "lands", "along", "sides", "high", "simple", "mid", "led_there", "turn", "many", "row"] "law" (defScope st_law) f cdv A outer s H E0).nox r W ∧ ∀ (ρ : DL.Env) (b : Bag), OkB 0 b → CoreL ρ → W ρ b (fin fun d _ => d = .bool true) := by
  have nd := sc_law.nd; have hu : (A.deeper (PyProof.Rows.envOfC "law" (defScope st_law) s.heap.objs.size f cdv)).units + 65 < cLine := (by have := hr.un; omega)
  obtain ⟨W_r0, w_r0, q_r0⟩ := tl_r0 (P := P) (w := w) (base := base) T f cdv A outer s H hgd hr
  refine ⟨_, (ss_cons (s_for PassesOwn.never rfl (i_rg1 rfl T.ml_range (a_cons d_int a_nil)) (gv 2 nd) w_r0) (ss_one (s_ret d_bool))), ?_⟩
  intro ρ b hb ⟨a0, a2, a3, a4, a5, a6, a7, a8, a9, a10, a11, a12, a13, a14, a15, a16, a17, a18, a19, a20, a21, a22, a23, a24, a25, a26, a27, a28, e⟩
  subst e
  simp
  refine for_ind (fun r ρ b' => ∃ n, OkB n b' ∧ n + r.length * 2000 ≤ 4000 ∧ CoreL ρ) (fun d r ρ b' hI X hX => ?_) (fun ρ b' hI => ?_) _ _ _ ⟨0, hb, by decide, a0, a2, a3, a4, a5, a6, a7, a8, a9, a10, a11, a12, a13, a14, a15, a16, a17, a18, a19, a20, a21, a22, a23, a24, a25, a26, a27, a28, rfl⟩
  · obtain ⟨n, hb1, hn, a0, a2, a3, a4, a5, a6, a7, a8, a9, a10, a11, a12, a13, a14, a15, a16, a17, a18, a19, a20, a21, a22, a23, a24, a25, a26, a27, a28, rfl⟩ := hI
    simp only [List.length_cons, Nat.add_mul, Nat.one_mul] at hn
    refine ⟨by simp, ?_⟩
    exact q_r0 n _ b' X _ hb1 (by omega) ⟨a0, _, a3, a4, a5, a6, a7, a8, a9, a10, a11, a12, a13, a14, a15, a16, a17, a18, a19, a20, a21, a22, a23, a24, a25, a26, a27, a28, rfl⟩ fun ρ b2 hc hb2 => hX ρ b2 ⟨_, hb2, by omega, hc⟩
  · obtain ⟨n, _, _, a0, a2, a3, a4, a5, a6, a7, a8, a9, a10, a11, a12, a13, a14, a15, a16, a17, a18, a19, a20, a21, a22, a23, a24, a25, a26, a27, a28, rfl⟩ := hI
    simp [fin]
end K96

/-! KE1: the law's def: its script, its bag, its promise. -/
namespace K96
open PySem L2 DL
/-- the list of the script: known to the object, or one of the module's own -/
def FrzL (K : PySem.W.Frag) (H : Hp) (a : Addr) (xs : List V) : Prop := (∃ o, H a = some (.frz o (.lst xs))) ∨ ∀ H', SqL K H' a xs
theorem FrzL.sql {K : PySem.W.Frag} {fs ex : List Addr} {H H' : Hp} {h h' : Heap} {a : Addr} {xs : List V} (z : FrzL K H a xs) (u : Un fs ex H H' h h') : SqL K H' a xs := by
  rcases z with ⟨o, z⟩ | z
  · exact .inl (.inr ⟨o, u.frzs a o _ z⟩)
  · exact z H'
section
variable {X : Cx} {x : Str} {p pos p2 p3 : Pos} {j : Option Str}
def wCut (i : Nat) (a : Addr) (ns : List Int) : WE := fun ρ b Φ => ρ[i]? = some (.fn a) ∧ Φ (.list ((ns.take 63).map .int)) b
theorem d_cut (i : Nat) (a : Addr) (ns : List Int) (hz : FrzL X.K X.H_0 a (ns.map V.int)) (hN : X.N[i]? = some x) (hv : Vis X.env.scope x) {e : Expr} (he : PE X e (tC (.int 63)) := by exact pe_int) (hd : (x == ("__debug__" : Str)) = false := by decide) (hcd : (x == ("__classdict__" : Str)) = false := by decide) :
    DE X (.Subscript (.Name x p) (.Slice none (some e) none p2) pos) (wCut i a ns) := by
  refine ⟨fun σ H Q => σ[i]? = some (some (.ref a)) ∧ ∀ p, H p = none → Q (.ref p) (upd H p (.lst (cutV (ns.map V.int) none (some 63)))), ⟨fun pins s σ H Q I ⟨h1, h2⟩ => ?_⟩, fun c ρ b σ H Φ Q I ⟨h1, h2⟩ q => ?_⟩
  · exact (pe_slice sl_list (pe_var hN hv hd hcd) po_none (po_some he)).run pins s σ H Q I ⟨.ref a, h1, 63, rfl, a, _, rfl, hz.sql I.base, h2⟩
  · obtain ⟨o, e1, e2⟩ := I.sl i _ h1
    refine ⟨by rw [e1, e2], fun p hp => ?_⟩
    have ec : cutV (ns.map V.int) none (some 63) = (ns.take 63).map V.int := by
      rw [List.map_take]
      exact cut_take (xs := ns.map V.int) (k := 63)
    rw [ec]
    exact q _ b _ _ h2 (I.grow (same_new hp _)) (Gr.of (same_new hp _)) (dq_newL I.dom hp (DqAll.ofInts _))
end
@[simp] theorem rCut {i : Nat} {a : Addr} {ns : List Int} {ρ : DL.Env} {b : Bag} {Φ : D → Bag → Prop} : wCut i a ns ρ b Φ ↔ ρ[i]? = some (.fn a) ∧ Φ (.list ((ns.take 63).map .int)) b := Iff.rfl
def bag0 (ns : List Int) : D := .list [.int 0, .int 1234567891, .int 0, .list (((ns.take 63).map absI).map .int)]
def spScr (K : PySem.W.Frag) : Sp := fun vs H Q _ => ∃ (a : Addr) (ns : List Int), vs = [.ref a] ∧ FrzL K H a (ns.map V.int) ∧ ∀ v H', Same H H' → Dq K H' v (bag0 ns) → Q v H'
theorem cl__law_bag {P : Program} {w : World} {K : PySem.W.Frag} {mg : Str → Option Value} {base : Heap} (T : Txt K mg) : Cl P w K mg base "_law_bag" 1 (spScr K) := by
  obtain ⟨f, fd, F, hb, hm⟩ := T.at__law_bag.ex
  refine ⟨f, fd, ["script"], FnG.of F sc__law_bag (fun vs H Q E h => ?_) (fun cdv A outer s H vs Q hgd hr h => ?_), hb, hm, F.kp⟩
  · obtain ⟨a, ns, e, _⟩ := h
    subst e; rfl
  obtain ⟨a, ns, e, hz, q⟩ := h
  subst e
  have nd := sc__law_bag.nd; have hu : (A.deeper (PyProof.Rows.envOfC "_law_bag" (defScope st__law_bag) s.heap.objs.size f cdv)).units + 65 < cLine := (by have := hr.un; omega)
  have d : ∃ W, DSs (cxOf CX0 P w K mg base ["script", "cell"] "_law_bag" (defScope st__law_bag) f cdv A outer s H E0).nox (defBody st__law_bag) W ∧ W [.fn a, .no] (0, 0, 0, []) (fin fun d _ => d = bag0 ns) := by
    refine ⟨_, (ss_one (s_ret (d_lst (a_cons d_int (a_cons d_int (a_cons d_int (a_cons (d_lc [("cell", 1)] rfl nd (i_it (d_cut 0 a ns hz rfl (by first | exact Or.inl rfl | exact Or.inr (Or.inl rfl)))) (by rfl) (fun _ _ _ _ _ => (gv 1 nd)) (fun _ _ _ _ _ => ts_nil) (fun _ _ _ _ _ => (d_fn call_abs fd_abs PyProof.Rows.boot_abs rfl T.ml_abs (a_cons (v 1) a_nil)))) a_nil))))))), ?_⟩
    simp [deown, wipeE]
    rw [← List.map_take]
    refine lc_map PyData.int (fun n => .int (absI n)) (ns.take 63) (by rw [List.length_take, sl_eq]; omega) (fun n hn X hX => ?_) ?_
    · simp; exact hX
    · simp [fin, bag0]; rfl
  obtain ⟨W, ⟨ts, p, snd⟩, hw⟩ := d
  refine ⟨ts, p, ?_⟩
  refine snd ⟨H, [], none⟩ [.fn a, .no] (0, 0, 0, []) (start ["script", "cell"] [.ref a]) H (fun _ => none) _ _ ⟨Same.refl _, rfl, fun i s hs => ?_, List.nodup_nil, fun _ h => (by cases h), fun _ h => (by cases h), fun p hp => (by cases hp)⟩ (fun _ _ h => by cases h) hw ?_
  · match i, hs with
    | 0, hs => cases hs; exact ⟨some (.ref a), rfl, rfl⟩
    | 1, hs => cases hs; exact ⟨none, rfl, trivial⟩
  · refine ⟨fun ρ b σ H' hφ I _ => ?_, fun d b v H' hφ R => ?_, fun _ _ _ _ hφ => hφ.elim, fun _ _ _ _ hφ => hφ.elim⟩
    · exact absurd hφ (by simp [fin, bag0])
    · have hφ : d = bag0 ns := hφ
      subst hφ
      refine q _ _ R.same ?_
      have := R.val
      rwa [show (Fr.mk H [] none).hb = [] from rfl, hid_nil] at this
theorem bag_inv {K : PySem.W.Frag} {H : Hp} {v : V} {m n : Int} {cs : List Int} (d : Dq K H v (.list [.int n, .int m, .int n, .list (cs.map .int)])) :
    ∃ p q, v = .ref p ∧ H p = some (.lst [.int n, .int m, .int n, .ref q]) ∧ H q = some (.lst (cs.map V.int)) ∧ q ≠ p := by
  obtain ⟨p, xs, rfl, h1, h2⟩ := d.lst_inv
  match xs, h2 with
  | [x0, x1, x2, x3], .cons r0 (.cons r1 (.cons r2 (.cons r3 .nil))) =>
    obtain rfl := r0.int_inv
    obtain rfl := r1.int_inv
    obtain rfl := r2.int_inv
    obtain ⟨q, ys, rfl, h4, h5⟩ := r3.lst_inv
    rw [h5.ints] at h4
    refine ⟨p, q, rfl, h1, h4, fun e => ?_⟩
    rw [e, h1] at h4
    have h4 : [V.int n, .int m, .int n, .ref q] = cs.map V.int := by injection h4 with h4; injection h4
    have : V.ref q ∈ cs.map V.int := by rw [← h4]; simp
    obtain ⟨c, _, hc⟩ := List.mem_map.mp this
    cases hc
/-- the law's def: from a script of ints, True -/
def spLaw (K : PySem.W.Frag) : Sp := fun vs H Q _ => ∃ (a : Addr) (ns : List Int), vs = [.ref a] ∧ FrzL K H a (ns.map V.int) ∧ ∀ H', Q (.bl true) H'
theorem cl_law {P : Program} {w : World} {K : PySem.W.Frag} {mg : Str → Option Value} {base : Heap} (T : Txt K mg) {f : Addr} {fd : FuncData} (F : Fun K "law" "law" st_law f fd) : FnG P w K mg base 10 f fd ["script"] (spLaw K) := by
  refine FnG.of F sc_law (fun vs H Q E h => ?_) (fun cdv A outer s H vs Q hgd hr h => ?_)
  · obtain ⟨a, ns, e, _⟩ := h
    subst e; rfl
  obtain ⟨a, ns, e, hz, q⟩ := h
  subst e
  have nd := sc_law.nd
  obtain ⟨W, ⟨ts, p, snd⟩, hw⟩ := tl_r (P := P) (w := w) (base := base) T f cdv A outer s H hgd hr
  obtain ⟨fb, fdb, psb, Fb, hbb, hmb, hkb⟩ := (cl__law_bag (P := P) (w := w) (base := base) T).ex
  refine ⟨_, pss_cons (ps_set (i := 1) nd rfl (by first | exact Or.inl rfl | exact Or.inr rfl) (pe_callG Fb hgd (hr.mono (by decide)) rfl hmb hkb hbb (pa_cons (pe_var (i := 0) rfl (by first | exact Or.inl rfl | exact Or.inr (Or.inl rfl))) pa_nil)) rfl (by first | exact .inr rfl | exact .inl rfl)) p, ?_⟩
  refine ⟨.ref a, rfl, a, ns, rfl, hz, fun v H' sm dq => ?_⟩
  obtain ⟨p1, q1, rfl, h1, h2, hne⟩ := bag_inv dq
  obtain ⟨m, em⟩ : ∃ m : Int, m = 1234567891 := ⟨_, rfl⟩
  rw [← em] at h1
  have hb0 : OkB 0 (0, m, 0, (ns.take 63).map absI) := ⟨Int.le_refl 0, by show 0 ≤ m; omega, by show m < 2147483647; omega, Int.le_refl 0, Int.le_refl 0, by rw [List.length_map, List.length_take]; exact Nat.min_le_left _ _, fun c hc => by
    obtain ⟨m, _, rfl⟩ := List.mem_map.mp hc
    unfold absI; omega⟩
  have hs : (Fr.mk (fun _ => none) [] (some p1)).hs [.no, .bag, .no, .no, .no, .no, .no, .no, .no, .no, .no, .no, .no, .no, .no, .no, .no, .no, .no, .no, .no, .no, .no, .no, .no, .no, .no, .no, .no] = [p1] := rfl
  have hb : (Fr.mk (fun _ => none) [] (some p1)).hb = [p1] := rfl
  have I : En K ⟨fun _ => none, [], some p1⟩ [.no, .bag, .no, .no, .no, .no, .no, .no, .no, .no, .no, .no, .no, .no, .no, .no, .no, .no, .no, .no, .no, .no, .no, .no, .no, .no, .no, .no, .no] (0, m, 0, (ns.take 63).map absI) ((start ["script", "bag", "lap", "part", "told", "ring", "size", "points", "top", "low", "its", "rest", "drawn", "number", "rows", "goal", "due", "within", "borders", "lands", "along", "sides", "high", "simple", "mid", "led_there", "turn", "many", "row"] [.ref a]).set 1 (some (.ref p1))) H' := by
    refine ⟨fun _ _ h => (by cases h), rfl, fun i s hs => ?_, by rw [hs]; simp, fun b hb => ?_, fun _ _ => rfl, fun p hp => ?_⟩
    · match i, hs with
      | 0, hs => cases hs; exact ⟨some (.ref a), rfl, trivial⟩
      | 1, hs => cases hs; exact ⟨some (.ref p1), rfl, p1, rfl, rfl⟩
      | i + 2, hs =>
        have hs : (List.replicate 27 Sl.no)[i]? = some s := hs
        obtain ⟨h3, h4⟩ := List.getElem?_eq_some_iff.mp hs
        have h4 : s = .no := by rw [← h4, List.getElem_replicate]
        rw [List.length_replicate] at h3
        subst h4
        have hl : i + 2 < ((start ["script", "bag", "lap", "part", "told", "ring", "size", "points", "top", "low", "its", "rest", "drawn", "number", "rows", "goal", "due", "within", "borders", "lands", "along", "sides", "high", "simple", "mid", "led_there", "turn", "many", "row"] [V.ref a]).set 1 (some (.ref p1))).length := by show i + 2 < 29; omega
        exact ⟨_, List.getElem?_eq_getElem hl, trivial⟩
    · rw [hs, List.mem_singleton] at hb
      rw [hb, h1]; simp
    · cases hp
      rw [hs]
      exact ⟨q1, h1, .lst (by rw [hid_out (by simpa using hne)]; exact h2) (DqAll.ofInts _)⟩
  refine snd ⟨fun _ => none, [], some p1⟩ _ _ _ H' (fun _ => none) _ _ I (fun _ _ h => by cases h) (hw _ _ hb0 ⟨.no, .no, .no, .no, .no, .no, .no, .no, .no, .no, .no, .no, .no, .no, .no, .no, .no, .no, .no, .no, .no, .no, .no, .no, .no, .no, .no, .no, rfl⟩) ?_
  refine ⟨fun ρ b σ H' hφ I _ => ?_, fun d b v H' hφ R => ?_, fun _ _ _ _ hφ => hφ.elim, fun _ _ _ _ hφ => hφ.elim⟩
  · have hφ : PyData.none = .bool true := hφ
    cases hφ
  · have hφ : d = .bool true := hφ
    subst hφ
    have := R.val.bool_inv
    subst this
    exact q _
end K96

/-! KE2: the law called behind the top. -/
namespace K96
open PySem PySem.Spec PyProof.Rows L2 DL
theorem law_goes {P : Program} {w : World} {K : PySem.W.Frag} {mg mb : Str → Option Value} {fa a : Addr} {fd : FuncData} {z : Shared} {vs : List Value} {ns : List Int}
    (kX : K.In z.heap) (gX : z.heap.Ns mainGlobals mg) (bX : z.heap.Ns builtinsNs mb) (boot : ∀ x : Str, x ≠ "__name__" → mb x = bootBuiltins x) (lim : z.heap.NoLimit) (noG : z.gens = #[])
    (at_ : z.heap.get? a = some { cls := .type "list", data := .seq vs.toArray }) (hi : IntsAre vs ns) (few : ns.length ≤ sizeLine)
    (F : ∀ base : Heap, K.In base → base.Ns mainGlobals mg → FnG P w K mg base 10 fa fd ["script"] (spLaw K)) (bind : ∀ u : Value, BindsTo z fd ⟨[u], []⟩ [("script", u)]) :
    codeAny (model P w) callerA (.call (.ref fa) ⟨[.ref a], []⟩) (fun r s' => r = .ok (.ret (.bool true)) ∧ OldK z.heap s'.heap ∧ s'.os = z.os ∧ AllBare s'.gens) z := by
  obtain ⟨ob, hob⟩ : ∃ ob : Obj, ob = { cls := .type "list", data := .seq vs.toArray } := ⟨_, rfl⟩
  obtain ⟨xs, hxs⟩ : ∃ xs : List V, xs = ns.map V.int := ⟨_, rfl⟩
  have rel : Vals xs vs := hxs ▸ vals_ints hi
  have lenX : xs.length ≤ sizeLine := by rw [hxs, List.length_map]; exact few
  obtain ⟨H, hH⟩ : ∃ H : Hp, H = fun b => if b = a ∧ K.lookup a = none then some (.frz ob (.lst xs)) else none := ⟨_, rfl⟩
  have only : ∀ {b : Addr} {u : HO}, H b = some u → b = a ∧ K.lookup a = none ∧ u = .frz ob (.lst xs) := fun {b u} e => by
    rw [hH] at e
    dsimp only at e
    by_cases c : b = a ∧ K.lookup a = none
    · rw [if_pos c] at e; cases e; exact ⟨c.1, c.2, rfl⟩
    · rw [if_neg c] at e; cases e
  have none_ : ∀ {b : Addr}, ¬ (b = a ∧ K.lookup a = none) → H b = none := fun {b} c => by rw [hH]; exact if_neg c
  have seen : ∀ {b : Addr} {o : Obj}, z.heap.get? b = some o → H b = none → (hidT z.heap H).get? b = some o := fun e n => hidT_get e n
  have noDic : ∀ {b : Addr} {o : Obj} {es : Array DictEntry} {ep : Nat}, z.heap.get? b = some o → o.data = .dict es ep → H b = none := fun {b o es ep} e d => none_ fun c => by
    obtain ⟨c, _⟩ := c
    subst c
    rw [at_] at e; cases e; cases d
  have nsOf : ∀ {b : Addr} {m : Str → Option Value}, z.heap.Ns b m → (hidT z.heap H).Ns b m := fun ⟨o, es, ep, e, d, r⟩ => ⟨o, es, ep, seen e (noDic e d), d, r⟩
  have kin : K.In (hidT z.heap H) := fun b o e => seen (kX b o e) (none_ fun c => by
    obtain ⟨c, n⟩ := c
    subst c
    rw [n] at e; cases e)
  have hok : HOk P w H z.heap := fun b u e => by
    obtain ⟨e1, _, e2⟩ := only e
    subst e1 e2 hob
    exact ⟨at_, lenX, vs, _, rel, at_⟩
  have frz : FrzL K H a (ns.map V.int) := by
    rw [← hxs]
    cases e : K.lookup a with
    | none => exact .inl ⟨ob, by rw [hH]; exact if_pos ⟨rfl, e⟩⟩
    | some o =>
      have e2 := kX a o e
      rw [at_] at e2; cases e2
      refine .inr fun H' => .inr ⟨_, vs.toArray, _, e, rfl, rfl, rfl, ?_, rel⟩
      rw [List.size_toArray, ← rel.length]; exact lenX
  have mod : Mod K mg (hidT z.heap H) := ⟨kin, nsOf gX, ⟨mb, nsOf bX, boot⟩, by obtain ⟨m, l1, l2⟩ := lim; exact ⟨m, nsOf l1, l2⟩⟩
  have env : Env0 P w K mg (hidT z.heap H) callerA [] z H := ⟨rfl, mod, fun b o e => of_hidT e, Nat.le_of_eq (hidT_size _ _), trivial, fun b hb => (by cases hb), hok, .of_eq noG⟩
  refine codeAny_mono ((F _ kin (nsOf gX)).go callerA [] z H ⟨[.ref a], []⟩ [.ref a] [.ref a] (fun v _ => v = .bl true) rfl ⟨rfl, by decide, by decide⟩ env (bind (.ref a)) (.cons rfl .nil) ⟨a, ns, rfl, frz, fun _ => rfl⟩) fun r s' ⟨u, er, v, H', os, bare, un, hok', rv, q⟩ => ?_
  have q : v = .bl true := q
  subst q
  obtain rfl : u = Value.bool true := rv
  refine ⟨er, OldK.of_keep fun b o e => ?_, os, bare⟩
  cases c : H b with
  | none => exact un.keep b o e c (fun m => by cases m) (fun m => by cases m)
  | some y =>
    obtain ⟨_, _, ey⟩ := only c
    rw [ey] at c
    have now := (hok' b _ (un.frzs b ob _ c)).1
    have was := (hok b _ c).1
    rw [e] at was; cases was
    exact now
theorem fun_of {K : PySem.W.Frag} {x : Str} {st : Stmt} {f : Addr} {fd : FuncData} (F : FunD K x x (defArgs st) (defBody st) (defScope st) [] [] f fd) : Fun K x x st f fd := by
  obtain ⟨oc, od, dV, kV, doc, pm, an, cdv, ct, osl, e, l, c, d, _⟩ := F.ex
  rcases d with ⟨_, d⟩ | ⟨n, _⟩
  · subst d
    exact ⟨⟨oc, od, kV, doc, pm, an, cdv, ct, osl, e, l, c⟩, F.kp⟩
  · exact absurd rfl n
end K96

/-! KH: what the top has written; the law holds. -/
namespace K96
open PySem PySem.Spec PyProof.Rows L2 DL
theorem txt {K : PySem.W.Frag} {h : Heap} {mg : Str → Option Value} (X : K.In h) (G : h.Ns mainGlobals mg) (m : more K = true) (c : He.SaysD fas fns K) : Txt K mg where
  ml_len := He.free_ok X G (c.fact 0 (f := .free "len") rfl)
  ml_abs := He.free_ok X G (c.fact 1 (f := .free "abs") rfl)
  ml_all := He.free_ok X G (c.fact 2 (f := .free "all") rfl)
  ml_any := He.free_ok X G (c.fact 3 (f := .free "any") rfl)
  ml_int := He.free_ok X G (c.fact 4 (f := .free "int") rfl)
  ml_str := He.free_ok X G (c.fact 5 (f := .free "str") rfl)
  ml_list := He.free_ok X G (c.fact 6 (f := .free "list") rfl)
  ml_tuple := He.free_ok X G (c.fact 7 (f := .free "tuple") rfl)
  ml_repr := He.free_ok X G (c.fact 8 (f := .free "repr") rfl)
  ml_isinstance := He.free_ok X G (c.fact 9 (f := .free "isinstance") rfl)
  ml_max := He.free_ok X G (c.fact 10 (f := .free "max") rfl)
  ml_min := He.free_ok X G (c.fact 11 (f := .free "min") rfl)
  ml_sorted := He.free_ok X G (c.fact 12 (f := .free "sorted") rfl)
  ml_set := He.free_ok X G (c.fact 13 (f := .free "set") rfl)
  ml_range := He.free_ok X G (c.fact 14 (f := .free "range") rfl)
  ml_enumerate := He.free_ok X G (c.fact 15 (f := .free "enumerate") rfl)
  ml_zip := He.free_ok X G (c.fact 16 (f := .free "zip") rfl)
  ml_bool := He.free_ok X G (c.fact 17 (f := .free "bool") rfl)
  mg_gcd := PySem.W.mg_of X G (He.eqO_ok (He.ba m).2)
  g_DIGITS := He.str_ok X G (c.fact 18 (f := .str "DIGITS" "0123456789") rfl)
  g_EAST := ⟨_, He.glo_ok X G (c.fact 19 (f := .glo "EAST") rfl), ⟨⟨_, rfl, fun H => He.tupB_ok (He.ba m).1 H⟩⟩⟩
  g_MOST_CORNERS := He.int_ok X G (c.fact 20 (f := .int "MOST_CORNERS" 10) rfl)
  g_MOST_FAR := He.int_ok X G (c.fact 21 (f := .int "MOST_FAR" 99) rfl)
  g_MOST_LINES := He.int_ok X G (c.fact 22 (f := .int "MOST_LINES" 200) rfl)
  g_MOST_FIGURES := He.int_ok X G (c.fact 23 (f := .int "MOST_FIGURES" 4) rfl)
  at_is_number := by
    obtain ⟨fd, F⟩ := c.def_ 0 (d := df_is_number) rfl
    exact ⟨_, fd, fun_of F, FunD.bindsN F fun _ _ _ _ _ _ us hl => match us, hl with | [_], _ => rfl, He.glo_ok X G (c.fact 24 (f := .glo "is_number") rfl)⟩
  at_is_index := by
    obtain ⟨fd, F⟩ := c.def_ 1 (d := df_is_index) rfl
    exact ⟨_, fd, fun_of F, FunD.bindsN F fun _ _ _ _ _ _ us hl => match us, hl with | [_], _ => rfl, He.glo_ok X G (c.fact 25 (f := .glo "is_index") rfl)⟩
  at_is_sized := by
    obtain ⟨fd, F⟩ := c.def_ 2 (d := df_is_sized) rfl
    exact ⟨_, fd, fun_of F, FunD.bindsN F fun _ _ _ _ _ _ us hl => match us, hl with | [_, _], _ => rfl, He.glo_ok X G (c.fact 26 (f := .glo "is_sized") rfl)⟩
  at_is_tuple_of := by
    obtain ⟨fd, F⟩ := c.def_ 3 (d := df_is_tuple_of) rfl
    exact ⟨_, fd, fun_of F, FunD.bindsN F fun _ _ _ _ _ _ us hl => match us, hl with | [_, _], _ => rfl, He.glo_ok X G (c.fact 27 (f := .glo "is_tuple_of") rfl)⟩
  at_is_couple := by
    obtain ⟨fd, F⟩ := c.def_ 4 (d := df_is_couple) rfl
    exact ⟨_, fd, fun_of F, FunD.bindsN F fun _ _ _ _ _ _ us hl => match us, hl with | [_], _ => rfl, He.glo_ok X G (c.fact 28 (f := .glo "is_couple") rfl)⟩
  at_is_corners := by
    obtain ⟨fd, F⟩ := c.def_ 5 (d := df_is_corners) rfl
    exact ⟨_, fd, fun_of F, FunD.bindsN F fun _ _ _ _ _ _ us hl => match us, hl with | [_], _ => rfl, He.glo_ok X G (c.fact 29 (f := .glo "is_corners") rfl)⟩
  at_direction := by
    obtain ⟨fd, F⟩ := c.def_ 6 (d := df_direction) rfl
    exact ⟨_, fd, fun_of F, FunD.bindsN F fun _ _ _ _ _ _ us hl => match us, hl with | [_, _], _ => rfl, He.glo_ok X G (c.fact 30 (f := .glo "direction") rfl)⟩
  at_cross := by
    obtain ⟨fd, F⟩ := c.def_ 7 (d := df_cross) rfl
    exact ⟨_, fd, fun_of F, FunD.bindsN F fun _ _ _ _ _ _ us hl => match us, hl with | [_, _], _ => rfl, He.glo_ok X G (c.fact 31 (f := .glo "cross") rfl)⟩
  at_put := by
    obtain ⟨fd, F⟩ := c.def_ 8 (d := df_put) rfl
    exact ⟨_, fd, fun_of F, FunD.bindsN F fun _ _ _ _ _ _ us hl => match us, hl with | [_, _], _ => rfl, He.glo_ok X G (c.fact 32 (f := .glo "put") rfl)⟩
  at_back := by
    obtain ⟨fd, F⟩ := c.def_ 9 (d := df_back) rfl
    exact ⟨_, fd, fun_of F, FunD.bindsN F fun _ _ _ _ _ _ us hl => match us, hl with | [_], _ => rfl, He.glo_ok X G (c.fact 33 (f := .glo "back") rfl)⟩
  at_before := by
    obtain ⟨fd, F⟩ := c.def_ 10 (d := df_before) rfl
    exact ⟨_, fd, fun_of F, FunD.bindsN F fun _ _ _ _ _ _ us hl => match us, hl with | [_, _], _ => rfl, He.glo_ok X G (c.fact 34 (f := .glo "before") rfl)⟩
  at_turn_between := by
    obtain ⟨fd, F⟩ := c.def_ 11 (d := df_turn_between) rfl
    exact ⟨_, fd, fun_of F, FunD.bindsN F fun _ _ _ _ _ _ us hl => match us, hl with | [_, _], _ => rfl, He.glo_ok X G (c.fact 35 (f := .glo "turn_between") rfl)⟩
  at_between := by
    obtain ⟨fd, F⟩ := c.def_ 12 (d := df_between) rfl
    exact ⟨_, fd, fun_of F, FunD.bindsN F fun _ _ _ _ _ _ us hl => match us, hl with | [_, _], _ => rfl, He.glo_ok X G (c.fact 36 (f := .glo "between") rfl)⟩
  at_size_of := by
    obtain ⟨fd, F⟩ := c.def_ 13 (d := df_size_of) rfl
    exact ⟨_, fd, fun_of F, FunD.bindsN F fun _ _ _ _ _ _ us hl => match us, hl with | [_], _ => rfl, He.glo_ok X G (c.fact 37 (f := .glo "size_of") rfl)⟩
  at_in_order := by
    obtain ⟨fd, F⟩ := c.def_ 14 (d := df_in_order) rfl
    exact ⟨_, fd, fun_of F, FunD.bindsN F fun _ _ _ _ _ _ us hl => match us, hl with | [_], _ => rfl, He.glo_ok X G (c.fact 38 (f := .glo "in_order") rfl)⟩
  at_is_less := by
    obtain ⟨fd, F⟩ := c.def_ 15 (d := df_is_less) rfl
    exact ⟨_, fd, fun_of F, FunD.bindsN F fun _ _ _ _ _ _ us hl => match us, hl with | [_, _], _ => rfl, He.glo_ok X G (c.fact 39 (f := .glo "is_less") rfl)⟩
  at_turn_of := by
    obtain ⟨fd, F⟩ := c.def_ 16 (d := df_turn_of) rfl
    exact ⟨_, fd, fun_of F, FunD.bindsN F fun _ _ _ _ _ _ us hl => match us, hl with | [_, _, _], _ => rfl, He.glo_ok X G (c.fact 40 (f := .glo "turn_of") rfl)⟩
  at_chain := by
    obtain ⟨fd, F⟩ := c.def_ 17 (d := df_chain) rfl
    exact ⟨_, fd, fun_of F, FunD.bindsN F fun _ _ _ _ _ _ us hl => match us, hl with | [_], _ => rfl, He.glo_ok X G (c.fact 41 (f := .glo "chain") rfl)⟩
  at_hull_of := by
    obtain ⟨fd, F⟩ := c.def_ 18 (d := df_hull_of) rfl
    exact ⟨_, fd, fun_of F, FunD.bindsN F fun _ _ _ _ _ _ us hl => match us, hl with | [_], _ => rfl, He.glo_ok X G (c.fact 42 (f := .glo "hull_of") rfl)⟩
  at_checked_part := by
    obtain ⟨fd, F⟩ := c.def_ 19 (d := df_checked_part) rfl
    exact ⟨_, fd, fun_of F, FunD.bindsN F fun _ _ _ _ _ _ us hl => match us, hl with | [_], _ => rfl, He.glo_ok X G (c.fact 43 (f := .glo "checked_part") rfl)⟩
  at_is_hull := by
    obtain ⟨fd, F⟩ := c.def_ 20 (d := df_is_hull) rfl
    exact ⟨_, fd, fun_of F, FunD.bindsN F fun _ _ _ _ _ _ us hl => match us, hl with | [_], _ => rfl, He.glo_ok X G (c.fact 44 (f := .glo "is_hull") rfl)⟩
  at_is_amid := by
    obtain ⟨fd, F⟩ := c.def_ 21 (d := df_is_amid) rfl
    exact ⟨_, fd, fun_of F, FunD.bindsN F fun _ _ _ _ _ _ us hl => match us, hl with | [_, _, _], _ => rfl, He.glo_ok X G (c.fact 45 (f := .glo "is_amid") rfl)⟩
  at_squeezed := by
    obtain ⟨fd, F⟩ := c.def_ 22 (d := df_squeezed) rfl
    exact ⟨_, fd, fun_of F, FunD.bindsN F fun _ _ _ _ _ _ us hl => match us, hl with | [_, _], _ => rfl, He.glo_ok X G (c.fact 46 (f := .glo "squeezed") rfl)⟩
  at_rest_at := by
    obtain ⟨fd, F⟩ := c.def_ 23 (d := df_rest_at) rfl
    exact ⟨_, fd, fun_of F, FunD.bindsN F fun _ _ _ _ _ _ us hl => match us, hl with | [_, _], _ => rfl, He.glo_ok X G (c.fact 47 (f := .glo "rest_at") rfl)⟩
  at_top_at := by
    obtain ⟨fd, F⟩ := c.def_ 24 (d := df_top_at) rfl
    exact ⟨_, fd, fun_of F, FunD.bindsN F fun _ _ _ _ _ _ us hl => match us, hl with | [_, _], _ => rfl, He.glo_ok X G (c.fact 48 (f := .glo "top_at") rfl)⟩
  at_turned_ring := by
    obtain ⟨fd, F⟩ := c.def_ 25 (d := df_turned_ring) rfl
    exact ⟨_, fd, fun_of F, FunD.bindsN F fun _ _ _ _ _ _ us hl => match us, hl with | [_, _], _ => rfl, He.glo_ok X G (c.fact 49 (f := .glo "turned_ring") rfl)⟩
  at_leaves := by
    obtain ⟨fd, F⟩ := c.def_ 26 (d := df_leaves) rfl
    exact ⟨_, fd, fun_of F, FunD.bindsN F fun _ _ _ _ _ _ us hl => match us, hl with | [_, _], _ => rfl, He.glo_ok X G (c.fact 50 (f := .glo "leaves") rfl)⟩
  at_same_turns := by
    obtain ⟨fd, F⟩ := c.def_ 27 (d := df_same_turns) rfl
    exact ⟨_, fd, fun_of F, FunD.bindsN F fun _ _ _ _ _ _ us hl => match us, hl with | [_], _ => rfl, He.glo_ok X G (c.fact 51 (f := .glo "same_turns") rfl)⟩
  at_unlike_many := by
    obtain ⟨fd, F⟩ := c.def_ 28 (d := df_unlike_many) rfl
    exact ⟨_, fd, fun_of F, FunD.bindsN F fun _ _ _ _ _ _ us hl => match us, hl with | [_], _ => rfl, He.glo_ok X G (c.fact 52 (f := .glo "unlike_many") rfl)⟩
  at_are_alike := by
    obtain ⟨fd, F⟩ := c.def_ 29 (d := df_are_alike) rfl
    exact ⟨_, fd, fun_of F, FunD.bindsN F fun _ _ _ _ _ _ us hl => match us, hl with | [_, _, _], _ => rfl, He.glo_ok X G (c.fact 53 (f := .glo "are_alike") rfl)⟩
  at_next_rest := by
    obtain ⟨fd, F⟩ := c.def_ 30 (d := df_next_rest) rfl
    exact ⟨_, fd, fun_of F, FunD.bindsN F fun _ _ _ _ _ _ us hl => match us, hl with | [_, _, _], _ => rfl, He.glo_ok X G (c.fact 54 (f := .glo "next_rest") rfl)⟩
  at_weight := by
    obtain ⟨fd, F⟩ := c.def_ 31 (d := df_weight) rfl
    exact ⟨_, fd, fun_of F, FunD.bindsN F fun _ _ _ _ _ _ us hl => match us, hl with | [_], _ => rfl, He.glo_ok X G (c.fact 55 (f := .glo "weight") rfl)⟩
  at_by_weight := by
    obtain ⟨fd, F⟩ := c.def_ 32 (d := df_by_weight) rfl
    exact ⟨_, fd, fun_of F, FunD.bindsN F fun _ _ _ _ _ _ us hl => match us, hl with | [_], _ => rfl, He.glo_ok X G (c.fact 56 (f := .glo "by_weight") rfl)⟩
  at_is_prime_to := by
    obtain ⟨fd, F⟩ := c.def_ 33 (d := df_is_prime_to) rfl
    exact ⟨_, fd, fun_of F, FunD.bindsN F fun _ _ _ _ _ _ us hl => match us, hl with | [_, _], _ => rfl, He.glo_ok X G (c.fact 57 (f := .glo "is_prime_to") rfl)⟩
  at_simplest_amid := by
    obtain ⟨fd, F⟩ := c.def_ 34 (d := df_simplest_amid) rfl
    exact ⟨_, fd, fun_of F, FunD.bindsN F fun _ _ _ _ _ _ us hl => match us, hl with | [_, _], _ => rfl, He.glo_ok X G (c.fact 58 (f := .glo "simplest_amid") rfl)⟩
  at_is_at_most := by
    obtain ⟨fd, F⟩ := c.def_ 35 (d := df_is_at_most) rfl
    exact ⟨_, fd, fun_of F, FunD.bindsN F fun _ _ _ _ _ _ us hl => match us, hl with | [_, _], _ => rfl, He.glo_ok X G (c.fact 59 (f := .glo "is_at_most") rfl)⟩
  at_rooms := by
    obtain ⟨fd, F⟩ := c.def_ 36 (d := df_rooms) rfl
    exact ⟨_, fd, fun_of F, FunD.bindsN F fun _ _ _ _ _ _ us hl => match us, hl with | [_, _, _], _ => rfl, He.glo_ok X G (c.fact 60 (f := .glo "rooms") rfl)⟩
  at_simplest_to := by
    obtain ⟨fd, F⟩ := c.def_ 37 (d := df_simplest_to) rfl
    exact ⟨_, fd, fun_of F, FunD.bindsN F fun _ _ _ _ _ _ us hl => match us, hl with | [_, _, _], _ => rfl, He.glo_ok X G (c.fact 61 (f := .glo "simplest_to") rfl)⟩
  at_turning_points := by
    obtain ⟨fd, F⟩ := c.def_ 38 (d := df_turning_points) rfl
    exact ⟨_, fd, fun_of F, FunD.bindsN F fun _ _ _ _ _ _ us hl => match us, hl with | [_], _ => rfl, He.glo_ok X G (c.fact 62 (f := .glo "turning_points") rfl)⟩
  at_unlike_turns := by
    obtain ⟨fd, F⟩ := c.def_ 39 (d := df_unlike_turns) rfl
    exact ⟨_, fd, fun_of F, FunD.bindsN F fun _ _ _ _ _ _ us hl => match us, hl with | [_], _ => rfl, He.glo_ok X G (c.fact 63 (f := .glo "unlike_turns") rfl)⟩
  at_maps := by
    obtain ⟨fd, F⟩ := c.def_ 40 (d := df_maps) rfl
    exact ⟨_, fd, fun_of F, FunD.bindsN F fun _ _ _ _ _ _ us hl => match us, hl with | [_], _ => rfl, He.glo_ok X G (c.fact 64 (f := .glo "maps") rfl)⟩
  at_map_of := by
    obtain ⟨fd, F⟩ := c.def_ 41 (d := df_map_of) rfl
    exact ⟨_, fd, fun_of F, FunD.bindsN F fun _ _ _ _ _ _ us hl => match us, hl with | [_, _], _ => rfl, He.glo_ok X G (c.fact 65 (f := .glo "map_of") rfl)⟩
  at_keeping_turns := by
    obtain ⟨fd, F⟩ := c.def_ 42 (d := df_keeping_turns) rfl
    exact ⟨_, fd, fun_of F, FunD.bindsN F fun _ _ _ _ _ _ us hl => match us, hl with | [_, _], _ => rfl, He.glo_ok X G (c.fact 66 (f := .glo "keeping_turns") rfl)⟩
  at_is_top := by
    obtain ⟨fd, F⟩ := c.def_ 43 (d := df_is_top) rfl
    exact ⟨_, fd, fun_of F, FunD.bindsN F fun _ _ _ _ _ _ us hl => match us, hl with | [_, _], _ => rfl, He.glo_ok X G (c.fact 67 (f := .glo "is_top") rfl)⟩
  at_falls := by
    obtain ⟨fd, F⟩ := c.def_ 44 (d := df_falls) rfl
    exact ⟨_, fd, fun_of F, FunD.bindsN F fun _ _ _ _ _ _ us hl => match us, hl with | [_, _], _ => rfl, He.glo_ok X G (c.fact 68 (f := .glo "falls") rfl)⟩
  at_a_little_on := by
    obtain ⟨fd, F⟩ := c.def_ 45 (d := df_a_little_on) rfl
    exact ⟨_, fd, fun_of F, FunD.bindsN F fun _ _ _ _ _ _ us hl => match us, hl with | [_, _], _ => rfl, He.glo_ok X G (c.fact 69 (f := .glo "a_little_on") rfl)⟩
  at_check_kind := by
    obtain ⟨fd, F⟩ := c.def_ 46 (d := df_check_kind) rfl
    exact ⟨_, fd, fun_of F, FunD.bindsN F fun _ _ _ _ _ _ us hl => match us, hl with | [_, _], _ => rfl, He.glo_ok X G (c.fact 70 (f := .glo "check_kind") rfl)⟩
  at_turn_to_rest := by
    obtain ⟨fd, F⟩ := c.def_ 47 (d := df_turn_to_rest) rfl
    exact ⟨_, fd, fun_of F, FunD.bindsN F fun _ _ _ _ _ _ us hl => match us, hl with | [_, _, _], _ => rfl, He.glo_ok X G (c.fact 71 (f := .glo "turn_to_rest") rfl)⟩
  at_word_lines := by
    obtain ⟨fd, F⟩ := c.def_ 48 (d := df_word_lines) rfl
    exact ⟨_, fd, fun_of F, FunD.bindsN F fun _ _ _ _ _ _ us hl => match us, hl with | [_], _ => rfl, He.glo_ok X G (c.fact 72 (f := .glo "word_lines") rfl)⟩
  at_index_in := by
    obtain ⟨fd, F⟩ := c.def_ 49 (d := df_index_in) rfl
    exact ⟨_, fd, fun_of F, FunD.bindsN F fun _ _ _ _ _ _ us hl => match us, hl with | [_], _ => rfl, He.glo_ok X G (c.fact 73 (f := .glo "index_in") rfl)⟩
  at_number_in := by
    obtain ⟨fd, F⟩ := c.def_ 50 (d := df_number_in) rfl
    exact ⟨_, fd, fun_of F, FunD.bindsN F fun _ _ _ _ _ _ us hl => match us, hl with | [_], _ => rfl, He.glo_ok X G (c.fact 74 (f := .glo "number_in") rfl)⟩
  at_corner_in := by
    obtain ⟨fd, F⟩ := c.def_ 51 (d := df_corner_in) rfl
    exact ⟨_, fd, fun_of F, FunD.bindsN F fun _ _ _ _ _ _ us hl => match us, hl with | [_, _], _ => rfl, He.glo_ok X G (c.fact 75 (f := .glo "corner_in") rfl)⟩
  at_read_corners := by
    obtain ⟨fd, F⟩ := c.def_ 52 (d := df_read_corners) rfl
    exact ⟨_, fd, fun_of F, FunD.bindsN F fun _ _ _ _ _ _ us hl => match us, hl with | [_], _ => rfl, He.glo_ok X G (c.fact 76 (f := .glo "read_corners") rfl)⟩
  at_read_text := by
    obtain ⟨fd, F⟩ := c.def_ 53 (d := df_read_text) rfl
    exact ⟨_, fd, fun_of F, FunD.bindsN F fun _ _ _ _ _ _ us hl => match us, hl with | [_], _ => rfl, He.glo_ok X G (c.fact 77 (f := .glo "read_text") rfl)⟩
  at_read_whole := by
    obtain ⟨fd, F⟩ := c.def_ 54 (d := df_read_whole) rfl
    exact ⟨_, fd, fun_of F, FunD.bindsN F fun _ _ _ _ _ _ us hl => match us, hl with | [_], _ => rfl, He.glo_ok X G (c.fact 78 (f := .glo "read_whole") rfl)⟩
  at__law_bag := by
    obtain ⟨fd, F⟩ := c.def_ 55 (d := df__law_bag) rfl
    exact ⟨_, fd, fun_of F, FunD.bindsN F fun _ _ _ _ _ _ us hl => match us, hl with | [_], _ => rfl, He.glo_ok X G (c.fact 79 (f := .glo "_law_bag") rfl)⟩
  at__law_take := by
    obtain ⟨fd, F⟩ := c.def_ 56 (d := df__law_take) rfl
    exact ⟨_, fd, fun_of F, FunD.bindsN F fun _ _ _ _ _ _ us hl => match us, hl with | [_, _], _ => rfl, He.glo_ok X G (c.fact 80 (f := .glo "_law_take") rfl)⟩
  at__law_some := by
    obtain ⟨fd, F⟩ := c.def_ 57 (d := df__law_some) rfl
    exact ⟨_, fd, fun_of F, FunD.bindsN F fun _ _ _ _ _ _ us hl => match us, hl with | [_, _], _ => rfl, He.glo_ok X G (c.fact 81 (f := .glo "_law_some") rfl)⟩
  at__law_mixed := by
    obtain ⟨fd, F⟩ := c.def_ 58 (d := df__law_mixed) rfl
    exact ⟨_, fd, fun_of F, FunD.bindsN F fun _ _ _ _ _ _ us hl => match us, hl with | [_, _], _ => rfl, He.glo_ok X G (c.fact 82 (f := .glo "_law_mixed") rfl)⟩
  at__law_alike := by
    obtain ⟨fd, F⟩ := c.def_ 59 (d := df__law_alike) rfl
    exact ⟨_, fd, fun_of F, FunD.bindsN F fun _ _ _ _ _ _ us hl => match us, hl with | [_, _], _ => rfl, He.glo_ok X G (c.fact 83 (f := .glo "_law_alike") rfl)⟩
  at__law_gcd := by
    obtain ⟨fd, F⟩ := c.def_ 60 (d := df__law_gcd) rfl
    exact ⟨_, fd, fun_of F, FunD.bindsN F fun _ _ _ _ _ _ us hl => match us, hl with | [_, _], _ => rfl, He.glo_ok X G (c.fact 84 (f := .glo "_law_gcd") rfl)⟩
  at__law_direction := by
    obtain ⟨fd, F⟩ := c.def_ 61 (d := df__law_direction) rfl
    exact ⟨_, fd, fun_of F, FunD.bindsN F fun _ _ _ _ _ _ us hl => match us, hl with | [_, _], _ => rfl, He.glo_ok X G (c.fact 85 (f := .glo "_law_direction") rfl)⟩
  at__law_cross := by
    obtain ⟨fd, F⟩ := c.def_ 62 (d := df__law_cross) rfl
    exact ⟨_, fd, fun_of F, FunD.bindsN F fun _ _ _ _ _ _ us hl => match us, hl with | [_, _], _ => rfl, He.glo_ok X G (c.fact 86 (f := .glo "_law_cross") rfl)⟩
  at__law_put := by
    obtain ⟨fd, F⟩ := c.def_ 63 (d := df__law_put) rfl
    exact ⟨_, fd, fun_of F, FunD.bindsN F fun _ _ _ _ _ _ us hl => match us, hl with | [_, _], _ => rfl, He.glo_ok X G (c.fact 87 (f := .glo "_law_put") rfl)⟩
  at__law_back := by
    obtain ⟨fd, F⟩ := c.def_ 64 (d := df__law_back) rfl
    exact ⟨_, fd, fun_of F, FunD.bindsN F fun _ _ _ _ _ _ us hl => match us, hl with | [_], _ => rfl, He.glo_ok X G (c.fact 88 (f := .glo "_law_back") rfl)⟩
  at__law_turn := by
    obtain ⟨fd, F⟩ := c.def_ 65 (d := df__law_turn) rfl
    exact ⟨_, fd, fun_of F, FunD.bindsN F fun _ _ _ _ _ _ us hl => match us, hl with | [_, _], _ => rfl, He.glo_ok X G (c.fact 89 (f := .glo "_law_turn") rfl)⟩
  at__law_in_order := by
    obtain ⟨fd, F⟩ := c.def_ 66 (d := df__law_in_order) rfl
    exact ⟨_, fd, fun_of F, FunD.bindsN F fun _ _ _ _ _ _ us hl => match us, hl with | [_], _ => rfl, He.glo_ok X G (c.fact 90 (f := .glo "_law_in_order") rfl)⟩
  at__law_amid := by
    obtain ⟨fd, F⟩ := c.def_ 67 (d := df__law_amid) rfl
    exact ⟨_, fd, fun_of F, FunD.bindsN F fun _ _ _ _ _ _ us hl => match us, hl with | [_, _, _], _ => rfl, He.glo_ok X G (c.fact 91 (f := .glo "_law_amid") rfl)⟩
  at__law_between := by
    obtain ⟨fd, F⟩ := c.def_ 68 (d := df__law_between) rfl
    exact ⟨_, fd, fun_of F, FunD.bindsN F fun _ _ _ _ _ _ us hl => match us, hl with | [_, _], _ => rfl, He.glo_ok X G (c.fact 92 (f := .glo "_law_between") rfl)⟩
  at__law_drawn_direction := by
    obtain ⟨fd, F⟩ := c.def_ 69 (d := df__law_drawn_direction) rfl
    exact ⟨_, fd, fun_of F, FunD.bindsN F fun _ _ _ _ _ _ us hl => match us, hl with | [_, _], _ => rfl, He.glo_ok X G (c.fact 93 (f := .glo "_law_drawn_direction") rfl)⟩
  at__law_hull := by
    obtain ⟨fd, F⟩ := c.def_ 70 (d := df__law_hull) rfl
    exact ⟨_, fd, fun_of F, FunD.bindsN F fun _ _ _ _ _ _ us hl => match us, hl with | [_], _ => rfl, He.glo_ok X G (c.fact 94 (f := .glo "_law_hull") rfl)⟩
  at__law_part := by
    obtain ⟨fd, F⟩ := c.def_ 71 (d := df__law_part) rfl
    exact ⟨_, fd, fun_of F, FunD.bindsN F fun _ _ _ _ _ _ us hl => match us, hl with | [_, _], _ => rfl, He.glo_ok X G (c.fact 95 (f := .glo "_law_part") rfl)⟩
  at__law_spread := by
    obtain ⟨fd, F⟩ := c.def_ 72 (d := df__law_spread) rfl
    exact ⟨_, fd, fun_of F, FunD.bindsN F fun _ _ _ _ _ _ us hl => match us, hl with | [_, _], _ => rfl, He.glo_ok X G (c.fact 96 (f := .glo "_law_spread") rfl)⟩
  at__law_width := by
    obtain ⟨fd, F⟩ := c.def_ 73 (d := df__law_width) rfl
    exact ⟨_, fd, fun_of F, FunD.bindsN F fun _ _ _ _ _ _ us hl => match us, hl with | [_, _], _ => rfl, He.glo_ok X G (c.fact 97 (f := .glo "_law_width") rfl)⟩
  at__law_wider := by
    obtain ⟨fd, F⟩ := c.def_ 74 (d := df__law_wider) rfl
    exact ⟨_, fd, fun_of F, FunD.bindsN F fun _ _ _ _ _ _ us hl => match us, hl with | [_, _], _ => rfl, He.glo_ok X G (c.fact 98 (f := .glo "_law_wider") rfl)⟩
  at__law_side_ways := by
    obtain ⟨fd, F⟩ := c.def_ 75 (d := df__law_side_ways) rfl
    exact ⟨_, fd, fun_of F, FunD.bindsN F fun _ _ _ _ _ _ us hl => match us, hl with | [_], _ => rfl, He.glo_ok X G (c.fact 99 (f := .glo "_law_side_ways") rfl)⟩
  at__law_ring := by
    obtain ⟨fd, F⟩ := c.def_ 76 (d := df__law_ring) rfl
    exact ⟨_, fd, fun_of F, FunD.bindsN F fun _ _ _ _ _ _ us hl => match us, hl with | [_], _ => rfl, He.glo_ok X G (c.fact 100 (f := .glo "_law_ring") rfl)⟩
  at__law_squeezed := by
    obtain ⟨fd, F⟩ := c.def_ 77 (d := df__law_squeezed) rfl
    exact ⟨_, fd, fun_of F, FunD.bindsN F fun _ _ _ _ _ _ us hl => match us, hl with | [_, _], _ => rfl, He.glo_ok X G (c.fact 101 (f := .glo "_law_squeezed") rfl)⟩
  at__law_same_turns := by
    obtain ⟨fd, F⟩ := c.def_ 78 (d := df__law_same_turns) rfl
    exact ⟨_, fd, fun_of F, FunD.bindsN F fun _ _ _ _ _ _ us hl => match us, hl with | [_], _ => rfl, He.glo_ok X G (c.fact 102 (f := .glo "_law_same_turns") rfl)⟩
  at__law_kinds := by
    obtain ⟨fd, F⟩ := c.def_ 79 (d := df__law_kinds) rfl
    exact ⟨_, fd, fun_of F, FunD.bindsN F fun _ _ _ _ _ _ us hl => match us, hl with | [_], _ => rfl, He.glo_ok X G (c.fact 103 (f := .glo "_law_kinds") rfl)⟩
  at__law_next := by
    obtain ⟨fd, F⟩ := c.def_ 80 (d := df__law_next) rfl
    exact ⟨_, fd, fun_of F, FunD.bindsN F fun _ _ _ _ _ _ us hl => match us, hl with | [_, _, _], _ => rfl, He.glo_ok X G (c.fact 104 (f := .glo "_law_next") rfl)⟩
  at__law_turns := by
    obtain ⟨fd, F⟩ := c.def_ 81 (d := df__law_turns) rfl
    exact ⟨_, fd, fun_of F, FunD.bindsN F fun _ _ _ _ _ _ us hl => match us, hl with | [_], _ => rfl, He.glo_ok X G (c.fact 105 (f := .glo "_law_turns") rfl)⟩
  at__law_text_rows := by
    obtain ⟨fd, F⟩ := c.def_ 82 (d := df__law_text_rows) rfl
    exact ⟨_, fd, fun_of F, FunD.bindsN F fun _ _ _ _ _ _ us hl => match us, hl with | [_], _ => rfl, He.glo_ok X G (c.fact 106 (f := .glo "_law_text_rows") rfl)⟩
  at__law_loose := by
    obtain ⟨fd, F⟩ := c.def_ 83 (d := df__law_loose) rfl
    exact ⟨_, fd, fun_of F, FunD.bindsN F fun _ _ _ _ _ _ us hl => match us, hl with | [_, _], _ => rfl, He.glo_ok X G (c.fact 107 (f := .glo "_law_loose") rfl)⟩
  at__law_tied := by
    obtain ⟨fd, F⟩ := c.def_ 84 (d := df__law_tied) rfl
    exact ⟨_, fd, fun_of F, FunD.bindsN F fun _ _ _ _ _ _ us hl => match us, hl with | [_, _], _ => rfl, He.glo_ok X G (c.fact 108 (f := .glo "_law_tied") rfl)⟩
  at__law_text := by
    obtain ⟨fd, F⟩ := c.def_ 85 (d := df__law_text) rfl
    exact ⟨_, fd, fun_of F, FunD.bindsN F fun _ _ _ _ _ _ us hl => match us, hl with | [_, _], _ => rfl, He.glo_ok X G (c.fact 109 (f := .glo "_law_text") rfl)⟩
  at__law_richest := by
    obtain ⟨fd, F⟩ := c.def_ 86 (d := df__law_richest) rfl
    exact ⟨_, fd, fun_of F, FunD.bindsN F fun _ _ _ _ _ _ us hl => match us, hl with | [_], _ => rfl, He.glo_ok X G (c.fact 110 (f := .glo "_law_richest") rfl)⟩
  at__law_is_firm := by
    obtain ⟨fd, F⟩ := c.def_ 87 (d := df__law_is_firm) rfl
    exact ⟨_, fd, fun_of F, FunD.bindsN F fun _ _ _ _ _ _ us hl => match us, hl with | [_, _], _ => rfl, He.glo_ok X G (c.fact 111 (f := .glo "_law_is_firm") rfl)⟩
  at_law := by
    obtain ⟨fd, F⟩ := c.def_ 88 (d := df_law) rfl
    exact ⟨_, fd, fun_of F, FunD.bindsN F fun _ _ _ _ _ _ us hl => match us, hl with | [_], _ => rfl, He.glo_ok X G (c.fact 112 (f := .glo "law") rfl)⟩
end K96
open PySem PySem.W PySem.Calls PyProof.Rows
theorem PySem.Challenge.cw_gripsure_k96_rooms_between_all_couples_o_holds : PySem.Challenge.rw_gripsure_k96_rooms_between_all_couples_o.Holds := by
  w_on; o_law
  refine HandSHeadRun.head_imp (r := OpenLaw.row PySem.Challenge.rw_gripsure_k96_rooms_between_all_couples_o) (q := view (OpenLaw.row PySem.Challenge.rw_gripsure_k96_rooms_between_all_couples_o).prog [0, 117]) (H := K96.hookZ) (ob := K96.seeZ) (M := 6000) (loose := K96.nms) (d := HandSHeadRun.topDef (OpenLaw.row PySem.Challenge.rw_gripsure_k96_rooms_between_all_couples_o).prog 117) (kwd := []) K96.seeZ_eq
    K96.topRunZ (by kernel_rfl) (by kernel_rfl) (by kernel_rfl) (by rfl) (by first | assumption | decide +kernel) (by decide +kernel) ⟨rfl, rfl, rfl, rfl, rfl, by decide +kernel⟩ ?hw ?hc
  case hw => w_witness2
  case hc =>
    refine Att.attach_call rfl (by kernel_rfl) fun w s₀ s₁ mg mb fa o pm cd doc a vs ns g Y ho hd hcd hmg hobj hints hlen hg => ?_
    obtain ⟨K, kin, m, c⟩ := Y
    have T := K96.txt kin g.T.g m c
    have hmg : mg ("law" : PySem.Str) = some (.ref fa) := hmg
    obtain ⟨f, fd, F, hb, e⟩ := T.at_law.ex
    rw [hmg] at e; cases e
    exact K96.law_goes kin g.T.g g.T.b g.T.builtins g.T.nolimit hg hobj hints (Nat.le_trans hlen (by decide)) (fun base _ _ => K96.cl_law T F) fun u => by
      have b := hb s₁ [u] kin rfl
      rw [List.append_nil] at b
      exact b
