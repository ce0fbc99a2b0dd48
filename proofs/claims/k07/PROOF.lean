import PyProof.Rows.All
import Wide.All
import OpenK.AllK
import Wide.FinOn
import HandS.ForMost
import HandS.ForExc
import HandS.ExcInit
import HandS.TryMany
import HandS.TryOnly
import HandS.CallSlots
import HandS.IsInst
import HandS.Walk
import HandS.Zip
import HandS.HeadHook4
import HandS.Flow
import HandS.Wide
import HandS.TupAny
import HandS.TupMul
import HandS.Deep
import HandS.Style
import KE.GoesZip
import KE.GoesMore
import KE.GoesEnum
import KE.GoesNew
import HandS.Comp
import HandS.Small
import HandS.ExcField
import HandS.HeadEnd
import KE.KDictZip
import HandS.DictComp
import KE.KDictKeyed
import HandS.Dict
import KE.KDictDisplayH
import HandS.TupLen
import KE.KEqDict
import HandS.More
import KE.KDictPairs
import PySem.Challenge.RW_seriesbooked_k07_whole_mends
import HandS.Head0
import HandS.Head1
import HandS.Head2
import HandS.HeadHook1
import HandS.HeadHook2
import HandS.HeadHook3
import KE.KStateDown
import Lean
set_option Elab.async false
set_option linter.all false
set_option maxRecDepth 100000
set_option maxHeartbeats 2000000
namespace Mi
open PySem PySem.Spec PyProof.Rows L2
/-- plain data, and references into a store -/
inductive MV where
  | non | bl (b : Bool) | int (i : Int) | str (x : Str)
  | tup (xs : List MV) | lst (xs : List MV)
  | dct (ks : List Key) (vs : List MV)
  | dcT (ks : List MV) (vs : List MV)
  | obj (c : Str) (fs : List Str) (vs : List MV)
  | ref (n : Nat)
  | kls (xs : List MV)
  | ptp (xs : List MV)
  deriving Inhabited
mutual
def conB (K : PySem.W.Frag) : MV → Value → Bool
  | .non, .none => true
  | .bl b, .bool c => b == c
  | .str x, .str y _ => decide (y = x)
  | .int i, .int j _ => decide (j = i)
  | .tup xs, .ref a => (match K.lookup a with
    | some ⟨.type c, _, .seq its _, _⟩ => decide (c = "tuple") && (decide (its.size ≤ sizeLine) && conBs K xs its.toList)
    | _ => false)
  | _, _ => false
def conBs (K : PySem.W.Frag) : List MV → List Value → Bool
  | [], [] => true
  | d :: ds, u :: us => conB K d u && conBs K ds us
  | _, _ => false
end
end Mi
namespace Lw
open PySem PySem.Spec PyProof.Rows L2 Mi
set_option maxHeartbeats 0
def top (i : Nat) : Stmt := PySem.Challenge.pw_seriesbooked_k07_whole_mends.main.body.getD i (.Pass ⟨0, 0, 0, 0⟩)
def d_BLANK : MV := .tup [.non, .non, .non]
def d_FAULTS : MV := .tup [.str "room", .str "person", .str "lost", .str "elder", .str "half"]
def d_PARTS : MV := .tup [.str "checking", .str "singles", .str "halves", .str "telling"]
def d_VALUES : MV := .tup [.tup [.str "none", .str "room", .str "both"], .tup [.str "keep", .str "move", .str "reset"], .tup [.str "left", .str "undone"], .tup [.str "now", .str "seen"]]
abbrev s_law_begin : Stmt := top 55
abbrev s_law_values : Stmt := top 57
abbrev s_law_draw : Stmt := top 56
abbrev s_law_parts : Stmt := top 59
abbrev s_law_hour_step : Stmt := top 81
abbrev s_law_world : Stmt := top 82
abbrev s_law_new : Stmt := top 61
abbrev s_law_start : Stmt := top 72
abbrev s_law_key : Stmt := top 63
abbrev s_law_state : Stmt := top 74
abbrev s_law_has : Stmt := top 77
abbrev s_law_next : Stmt := top 84
abbrev s_law_clone : Stmt := top 73
abbrev s_law_free : Stmt := top 64
abbrev s_law_gap : Stmt := top 65
abbrev s_law_told : Stmt := top 71
abbrev s_law_copy : Stmt := top 62
abbrev s_law_room : Stmt := top 66
abbrev s_law_fits : Stmt := top 68
abbrev s_law_person : Stmt := top 67
abbrev s_law_undone : Stmt := top 70
abbrev s_law_single : Stmt := top 69
abbrev s_law_write : Stmt := top 75
abbrev s_law_step : Stmt := top 76
abbrev s_law_meets : Stmt := top 79
abbrev s_law_words : Stmt := top 78
abbrev s_law_faults : Stmt := top 80
abbrev s_law_walk : Stmt := top 85
abbrev s_law_like_0 : Stmt := top 86
abbrev s_law_like_1 : Stmt := top 86
abbrev s_law_like_2 : Stmt := top 86
abbrev s_law_like_3 : Stmt := top 86
abbrev s_law_like_4 : Stmt := top 86
abbrev s_law_like_5 : Stmt := top 86
abbrev s_law_like_6 : Stmt := top 86
abbrev s_law_sets_0 : Stmt := top 87
abbrev s_law_names : Stmt := top 58
abbrev s_law_sets_1 : Stmt := top 87
abbrev s_law_sets_2 : Stmt := top 87
abbrev s_law_sets_3 : Stmt := top 87
abbrev s_law_sets_4 : Stmt := top 87
abbrev s_law_sets_5 : Stmt := top 87
abbrev s_law_set : Stmt := top 88
abbrev s_law_due : Stmt := top 89
abbrev s_is_whole : Stmt := top 26
abbrev s_are_series : Stmt := top 29
abbrev s_is_step : Stmt := top 27
abbrev s_is_hand : Stmt := top 28
abbrev s_is_world : Stmt := top 30
abbrev s_check_world : Stmt := top 31
abbrev s_check_faults : Stmt := top 49
abbrev s_Rule_parts : Stmt := inClass (top 8) 1
abbrev s_turnings_0 : Stmt := top 51
abbrev s_turnings_1 : Stmt := top 51
abbrev s_turnings_2 : Stmt := top 51
abbrev s_turnings_3 : Stmt := top 51
abbrev s_turnings_4 : Stmt := top 51
abbrev s_turnings_5 : Stmt := top 51
abbrev s_fresh : Stmt := top 11
abbrev s_begin : Stmt := top 32
abbrev s_has_step : Stmt := top 44
abbrev s_hands_at : Stmt := top 46
abbrev s_is_room_free : Stmt := top 12
abbrev s_is_person_free : Stmt := top 13
abbrev s_is_gap : Stmt := top 14
abbrev s_person_hours : Stmt := top 22
abbrev s_find_step : Stmt := top 33
abbrev s_tell_step : Stmt := top 34
abbrev s_room_day : Stmt := top 16
abbrev s_with_series : Stmt := top 15
abbrev s_room_set : Stmt := top 17
abbrev s_room_step : Stmt := top 35
abbrev s_person_set : Stmt := top 18
abbrev s_taken_back : Stmt := top 19
abbrev s_person_step : Stmt := top 36
abbrev s_one_set : Stmt := top 20
abbrev s_off_set : Stmt := top 21
abbrev s_stepped : Stmt := top 37
abbrev s_meets_room : Stmt := top 38
abbrev s_meets_person : Stmt := top 39
abbrev s_lost_single : Stmt := top 40
abbrev s_step_faults : Stmt := top 41
abbrev s_is_half : Stmt := top 42
abbrev s_led : Stmt := top 43
abbrev s_walked : Stmt := top 47
abbrev s_is_without : Stmt := top 50
abbrev s_Rule___init__ : Stmt := inClass (top 8) 0
abbrev s_rule_of : Stmt := top 9
abbrev s_with_turns : Stmt := top 52
abbrev s_mends : Stmt := top 53
abbrev s_law_rule : Stmt := top 60
abbrev s_law : Stmt := top 90
def D_law_begin : He.DefD := ⟨("_law_begin", none), "_law_begin", "_law_begin", defArgs s_law_begin, defBody s_law_begin, defScope s_law_begin, [], []⟩
def D_law_values : He.DefD := ⟨("_law_values", none), "_law_values", "_law_values", defArgs s_law_values, defBody s_law_values, defScope s_law_values, [], []⟩
def D_law_draw : He.DefD := ⟨("_law_draw", none), "_law_draw", "_law_draw", defArgs s_law_draw, defBody s_law_draw, defScope s_law_draw, [], []⟩
def D_law_parts : He.DefD := ⟨("_law_parts", none), "_law_parts", "_law_parts", defArgs s_law_parts, defBody s_law_parts, defScope s_law_parts, [], []⟩
def D_law_hour_step : He.DefD := ⟨("_law_hour_step", none), "_law_hour_step", "_law_hour_step", defArgs s_law_hour_step, defBody s_law_hour_step, defScope s_law_hour_step, [], []⟩
def D_law_world : He.DefD := ⟨("_law_world", none), "_law_world", "_law_world", defArgs s_law_world, defBody s_law_world, defScope s_law_world, [], []⟩
def D_law_new : He.DefD := ⟨("_law_new", none), "_law_new", "_law_new", defArgs s_law_new, defBody s_law_new, defScope s_law_new, [], []⟩
def D_law_start : He.DefD := ⟨("_law_start", none), "_law_start", "_law_start", defArgs s_law_start, defBody s_law_start, defScope s_law_start, [], []⟩
def D_law_key : He.DefD := ⟨("_law_key", none), "_law_key", "_law_key", defArgs s_law_key, defBody s_law_key, defScope s_law_key, [], []⟩
def D_law_state : He.DefD := ⟨("_law_state", none), "_law_state", "_law_state", defArgs s_law_state, defBody s_law_state, defScope s_law_state, [], []⟩
def D_law_has : He.DefD := ⟨("_law_has", none), "_law_has", "_law_has", defArgs s_law_has, defBody s_law_has, defScope s_law_has, [], []⟩
def D_law_next : He.DefD := ⟨("_law_next", none), "_law_next", "_law_next", defArgs s_law_next, defBody s_law_next, defScope s_law_next, [], []⟩
def D_law_clone : He.DefD := ⟨("_law_clone", none), "_law_clone", "_law_clone", defArgs s_law_clone, defBody s_law_clone, defScope s_law_clone, [], []⟩
def D_law_free : He.DefD := ⟨("_law_free", none), "_law_free", "_law_free", defArgs s_law_free, defBody s_law_free, defScope s_law_free, [], []⟩
def D_law_gap : He.DefD := ⟨("_law_gap", none), "_law_gap", "_law_gap", defArgs s_law_gap, defBody s_law_gap, defScope s_law_gap, [], []⟩
def D_law_told : He.DefD := ⟨("_law_told", none), "_law_told", "_law_told", defArgs s_law_told, defBody s_law_told, defScope s_law_told, [], []⟩
def D_law_copy : He.DefD := ⟨("_law_copy", none), "_law_copy", "_law_copy", defArgs s_law_copy, defBody s_law_copy, defScope s_law_copy, [], []⟩
def D_law_room : He.DefD := ⟨("_law_room", none), "_law_room", "_law_room", defArgs s_law_room, defBody s_law_room, defScope s_law_room, [], []⟩
def D_law_fits : He.DefD := ⟨("_law_fits", none), "_law_fits", "_law_fits", defArgs s_law_fits, defBody s_law_fits, defScope s_law_fits, [], []⟩
def D_law_person : He.DefD := ⟨("_law_person", none), "_law_person", "_law_person", defArgs s_law_person, defBody s_law_person, defScope s_law_person, [], []⟩
def D_law_undone : He.DefD := ⟨("_law_undone", none), "_law_undone", "_law_undone", defArgs s_law_undone, defBody s_law_undone, defScope s_law_undone, [], []⟩
def D_law_single : He.DefD := ⟨("_law_single", none), "_law_single", "_law_single", defArgs s_law_single, defBody s_law_single, defScope s_law_single, [], []⟩
def D_law_write : He.DefD := ⟨("_law_write", none), "_law_write", "_law_write", defArgs s_law_write, defBody s_law_write, defScope s_law_write, [], []⟩
def D_law_step : He.DefD := ⟨("_law_step", none), "_law_step", "_law_step", defArgs s_law_step, defBody s_law_step, defScope s_law_step, [], []⟩
def D_law_meets : He.DefD := ⟨("_law_meets", none), "_law_meets", "_law_meets", defArgs s_law_meets, defBody s_law_meets, defScope s_law_meets, [], []⟩
def D_law_words : He.DefD := ⟨("_law_words", none), "_law_words", "_law_words", defArgs s_law_words, defBody s_law_words, defScope s_law_words, [], []⟩
def D_law_faults : He.DefD := ⟨("_law_faults", none), "_law_faults", "_law_faults", defArgs s_law_faults, defBody s_law_faults, defScope s_law_faults, [], []⟩
def D_law_walk : He.DefD := ⟨("_law_walk", none), "_law_walk", "_law_walk", defArgs s_law_walk, defBody s_law_walk, defScope s_law_walk, [], []⟩
def D_law_like_0 : He.DefD := ⟨("_law_like", none), "_law_like", "_law_like", defArgs s_law_like_0, defBody s_law_like_0, defScope s_law_like_0, [], []⟩
def D_law_sets_0 : He.DefD := ⟨("_law_sets", none), "_law_sets", "_law_sets", defArgs s_law_sets_0, defBody s_law_sets_0, defScope s_law_sets_0, [], []⟩
def D_law_names : He.DefD := ⟨("_law_names", none), "_law_names", "_law_names", defArgs s_law_names, defBody s_law_names, defScope s_law_names, [], []⟩
def D_law_set : He.DefD := ⟨("_law_set", none), "_law_set", "_law_set", defArgs s_law_set, defBody s_law_set, defScope s_law_set, [], []⟩
def D_law_due : He.DefD := ⟨("_law_due", none), "_law_due", "_law_due", defArgs s_law_due, defBody s_law_due, defScope s_law_due, [], []⟩
def D_is_whole : He.DefD := ⟨("is_whole", none), "is_whole", "is_whole", defArgs s_is_whole, defBody s_is_whole, defScope s_is_whole, [], []⟩
def D_are_series : He.DefD := ⟨("are_series", none), "are_series", "are_series", defArgs s_are_series, defBody s_are_series, defScope s_are_series, [], []⟩
def D_is_step : He.DefD := ⟨("is_step", none), "is_step", "is_step", defArgs s_is_step, defBody s_is_step, defScope s_is_step, [], []⟩
def D_is_hand : He.DefD := ⟨("is_hand", none), "is_hand", "is_hand", defArgs s_is_hand, defBody s_is_hand, defScope s_is_hand, [], []⟩
def D_is_world : He.DefD := ⟨("is_world", none), "is_world", "is_world", defArgs s_is_world, defBody s_is_world, defScope s_is_world, [], []⟩
def D_check_world : He.DefD := ⟨("check_world", none), "check_world", "check_world", defArgs s_check_world, defBody s_check_world, defScope s_check_world, [], []⟩
def D_check_faults : He.DefD := ⟨("check_faults", none), "check_faults", "check_faults", defArgs s_check_faults, defBody s_check_faults, defScope s_check_faults, [], []⟩
def D_Rule_parts : He.DefD := ⟨("Rule", some "parts"), "parts", "Rule.parts", defArgs s_Rule_parts, defBody s_Rule_parts, defScope s_Rule_parts, [], []⟩
def D_turnings_0 : He.DefD := ⟨("turnings", none), "turnings", "turnings", defArgs s_turnings_0, defBody s_turnings_0, defScope s_turnings_0, [], []⟩
def D_fresh : He.DefD := ⟨("fresh", none), "fresh", "fresh", defArgs s_fresh, defBody s_fresh, defScope s_fresh, [], []⟩
def D_begin : He.DefD := ⟨("begin", none), "begin", "begin", defArgs s_begin, defBody s_begin, defScope s_begin, [], []⟩
def D_has_step : He.DefD := ⟨("has_step", none), "has_step", "has_step", defArgs s_has_step, defBody s_has_step, defScope s_has_step, [], []⟩
def D_hands_at : He.DefD := ⟨("hands_at", none), "hands_at", "hands_at", defArgs s_hands_at, defBody s_hands_at, defScope s_hands_at, [], []⟩
def D_is_room_free : He.DefD := ⟨("is_room_free", none), "is_room_free", "is_room_free", defArgs s_is_room_free, defBody s_is_room_free, defScope s_is_room_free, [], []⟩
def D_is_person_free : He.DefD := ⟨("is_person_free", none), "is_person_free", "is_person_free", defArgs s_is_person_free, defBody s_is_person_free, defScope s_is_person_free, [], []⟩
def D_is_gap : He.DefD := ⟨("is_gap", none), "is_gap", "is_gap", defArgs s_is_gap, defBody s_is_gap, defScope s_is_gap, [], []⟩
def D_person_hours : He.DefD := ⟨("person_hours", none), "person_hours", "person_hours", defArgs s_person_hours, defBody s_person_hours, defScope s_person_hours, [], []⟩
def D_find_step : He.DefD := ⟨("find_step", none), "find_step", "find_step", defArgs s_find_step, defBody s_find_step, defScope s_find_step, [], []⟩
def D_tell_step : He.DefD := ⟨("tell_step", none), "tell_step", "tell_step", defArgs s_tell_step, defBody s_tell_step, defScope s_tell_step, [], []⟩
def D_room_day : He.DefD := ⟨("room_day", none), "room_day", "room_day", defArgs s_room_day, defBody s_room_day, defScope s_room_day, [], []⟩
def D_with_series : He.DefD := ⟨("with_series", none), "with_series", "with_series", defArgs s_with_series, defBody s_with_series, defScope s_with_series, [], []⟩
def D_room_set : He.DefD := ⟨("room_set", none), "room_set", "room_set", defArgs s_room_set, defBody s_room_set, defScope s_room_set, [], []⟩
def D_room_step : He.DefD := ⟨("room_step", none), "room_step", "room_step", defArgs s_room_step, defBody s_room_step, defScope s_room_step, [], []⟩
def D_person_set : He.DefD := ⟨("person_set", none), "person_set", "person_set", defArgs s_person_set, defBody s_person_set, defScope s_person_set, [], []⟩
def D_taken_back : He.DefD := ⟨("taken_back", none), "taken_back", "taken_back", defArgs s_taken_back, defBody s_taken_back, defScope s_taken_back, [], []⟩
def D_person_step : He.DefD := ⟨("person_step", none), "person_step", "person_step", defArgs s_person_step, defBody s_person_step, defScope s_person_step, [], []⟩
def D_one_set : He.DefD := ⟨("one_set", none), "one_set", "one_set", defArgs s_one_set, defBody s_one_set, defScope s_one_set, [], []⟩
def D_off_set : He.DefD := ⟨("off_set", none), "off_set", "off_set", defArgs s_off_set, defBody s_off_set, defScope s_off_set, [], []⟩
def D_stepped : He.DefD := ⟨("stepped", none), "stepped", "stepped", defArgs s_stepped, defBody s_stepped, defScope s_stepped, [], []⟩
def D_meets_room : He.DefD := ⟨("meets_room", none), "meets_room", "meets_room", defArgs s_meets_room, defBody s_meets_room, defScope s_meets_room, [], []⟩
def D_meets_person : He.DefD := ⟨("meets_person", none), "meets_person", "meets_person", defArgs s_meets_person, defBody s_meets_person, defScope s_meets_person, [], []⟩
def D_lost_single : He.DefD := ⟨("lost_single", none), "lost_single", "lost_single", defArgs s_lost_single, defBody s_lost_single, defScope s_lost_single, [], []⟩
def D_step_faults : He.DefD := ⟨("step_faults", none), "step_faults", "step_faults", defArgs s_step_faults, defBody s_step_faults, defScope s_step_faults, [], []⟩
def D_is_half : He.DefD := ⟨("is_half", none), "is_half", "is_half", defArgs s_is_half, defBody s_is_half, defScope s_is_half, [], []⟩
def D_led : He.DefD := ⟨("led", none), "led", "led", defArgs s_led, defBody s_led, defScope s_led, [], []⟩
def D_walked : He.DefD := ⟨("walked", none), "walked", "walked", defArgs s_walked, defBody s_walked, defScope s_walked, [], []⟩
def D_is_without : He.DefD := ⟨("is_without", none), "is_without", "is_without", defArgs s_is_without, defBody s_is_without, defScope s_is_without, [], []⟩
def D_Rule___init__ : He.DefD := ⟨("Rule", some "__init__"), "__init__", "Rule.__init__", defArgs s_Rule___init__, defBody s_Rule___init__, defScope s_Rule___init__, [], []⟩
def D_rule_of : He.DefD := ⟨("rule_of", none), "rule_of", "rule_of", defArgs s_rule_of, defBody s_rule_of, defScope s_rule_of, [], []⟩
def D_with_turns : He.DefD := ⟨("with_turns", none), "with_turns", "with_turns", defArgs s_with_turns, defBody s_with_turns, defScope s_with_turns, [], []⟩
def D_mends : He.DefD := ⟨("mends", none), "mends", "mends", defArgs s_mends, defBody s_mends, defScope s_mends, [], []⟩
def D_law_rule : He.DefD := ⟨("_law_rule", none), "_law_rule", "_law_rule", defArgs s_law_rule, defBody s_law_rule, defScope s_law_rule, [], []⟩
def D_law : He.DefD := ⟨("law", none), "law", "law", defArgs s_law, defBody s_law, defScope s_law, [], []⟩
def fn : List He.DefD := [D_law_begin, D_law_values, D_law_draw, D_law_parts, D_law_hour_step, D_law_world, D_law_new, D_law_start, D_law_key, D_law_state, D_law_has, D_law_next, D_law_clone, D_law_free, D_law_gap, D_law_told, D_law_copy, D_law_room, D_law_fits, D_law_person, D_law_undone, D_law_single, D_law_write, D_law_step, D_law_meets, D_law_words, D_law_faults, D_law_walk, D_law_like_0, D_law_sets_0, D_law_names, D_law_set, D_law_due, D_is_whole, D_are_series, D_is_step, D_is_hand, D_is_world, D_check_world, D_check_faults, D_Rule_parts, D_turnings_0, D_fresh, D_begin, D_has_step, D_hands_at, D_is_room_free, D_is_person_free, D_is_gap, D_person_hours, D_find_step, D_tell_step, D_room_day, D_with_series, D_room_set, D_room_step, D_person_set, D_taken_back, D_person_step, D_one_set, D_off_set, D_stepped, D_meets_room, D_meets_person, D_lost_single, D_step_faults, D_is_half, D_led, D_walked, D_is_without, D_Rule___init__, D_rule_of, D_with_turns, D_mends, D_law_rule, D_law]
def fa : List He.Fa := [.glo "_law_begin", .glo "_law_values", .glo "_law_draw", .glo "_law_parts", .glo "_law_hour_step", .glo "_law_world", .glo "_law_new", .glo "_law_start", .glo "_law_key", .glo "_law_state", .glo "_law_has", .glo "_law_next", .glo "_law_clone", .glo "_law_free", .glo "_law_gap", .glo "_law_told", .glo "_law_copy", .glo "_law_room", .glo "_law_fits", .glo "_law_person", .glo "_law_undone", .glo "_law_single", .glo "_law_write", .glo "_law_step", .glo "_law_meets", .glo "_law_words", .glo "_law_faults", .glo "_law_walk", .glo "_law_like", .glo "_law_sets", .glo "_law_names", .glo "_law_set", .glo "_law_due", .glo "is_whole", .glo "are_series", .glo "is_step", .glo "is_hand", .glo "is_world", .glo "check_world", .glo "check_faults", .glo "turnings", .glo "fresh", .glo "begin", .glo "has_step", .glo "hands_at", .glo "is_room_free", .glo "is_person_free", .glo "is_gap", .glo "person_hours", .glo "find_step", .glo "tell_step", .glo "room_day", .glo "with_series", .glo "room_set", .glo "room_step", .glo "person_set", .glo "taken_back", .glo "person_step", .glo "one_set", .glo "off_set", .glo "stepped", .glo "meets_room", .glo "meets_person", .glo "lost_single", .glo "step_faults", .glo "is_half", .glo "led", .glo "walked", .glo "is_without", .glo "rule_of", .glo "with_turns", .glo "mends", .glo "_law_rule", .glo "law", .free "all", .free "any", .free "bool", .free "dict", .free "enumerate", .free "int", .free "isinstance", .free "len", .free "list", .free "max", .free "range", .free "str", .free "sum", .free "tuple", .free "zip", .glo "BLANK", .glo "FAULTS", .glo "PARTS", .glo "VALUES", .glo "Rule", .cls "Rule", .noat "Rule" "checking", .noat "Rule" "halves", .noat "Rule" "singles", .noat "Rule" "telling", .meth "Rule" "parts", .mkr "Rule"]
def exs : List (PySem.W.Frag → Bool) := [fun K => conB K d_BLANK (.ref (He.ga K "BLANK")), fun K => conB K d_FAULTS (.ref (He.ga K "FAULTS")), fun K => conB K d_PARTS (.ref (He.ga K "PARTS")), fun K => conB K d_VALUES (.ref (He.ga K "VALUES"))]
def ex (K : PySem.W.Frag) : Bool := exs.all fun f => f K
theorem ex_at {K : PySem.W.Frag} (h : ex K = true) (i : Nat) {f : PySem.W.Frag → Bool} (e : exs[i]? = some f := by rfl) : f K = true := List.all_eq_true.mp h f (List.mem_of_getElem? e)
abbrev R0 : PySem.W.OpenRow := PySem.W.OpenLaw.row PySem.Challenge.rw_seriesbooked_k07_whole_mends
def asL : List Addr := [3, 6, 4, 24, 37, 49, 68, 71, 76, 112, 123, 130, 135, 142, 149, 156, 163, 168, 173, 180, 187, 194, 199, 200, 201, 208, 215, 220, 225, 230, 237, 242, 249, 256, 263, 270, 277, 282, 289, 294, 301, 306, 313, 320, 325, 332, 337, 342, 347, 352, 357, 364, 371, 378, 385, 390, 397, 402, 407, 412, 419, 426, 433, 440, 447, 454, 461, 466, 471, 476, 483, 490, 497, 504, 511, 518, 523, 530, 535, 542, 547, 554, 561, 566, 573, 578, 585, 0, 23, 36, 48, 67, 72, 73, 74, 75, 111, 122, 129, 134, 141, 148, 155, 162, 167, 172, 179, 186, 193, 198, 207, 214, 219, 224, 229, 236, 241, 248, 255, 262, 269, 276, 281, 288, 293, 300, 305, 312, 319, 324, 331, 336, 341, 346, 351, 356, 363, 370, 377, 384, 389, 396, 401, 406, 411, 418, 425, 432, 439, 446, 453, 460, 465, 470, 475, 482, 489, 496, 503, 510, 517, 522, 529, 534, 541, 546, 553, 560, 565, 572, 577, 584, 22, 25, 35, 47, 65, 66, 90, 97, 104, 109, 110, 113, 114, 117, 118, 119, 120, 121, 124, 125, 126, 127, 128, 131, 132, 133, 136, 137, 138, 139, 140, 143, 144, 145, 146, 147, 150, 151, 152, 153, 154, 157, 158, 159, 160, 161, 164, 165, 166, 169, 170, 171, 174, 175, 176, 177, 178, 181, 182, 183, 184, 185, 188, 189, 190, 191, 192, 195, 196, 197, 202, 203, 204, 205, 206, 209, 210, 211, 212, 213, 216, 217, 218, 221, 222, 223, 226, 227, 228, 231, 232, 233, 234, 235, 238, 239, 240, 243, 244, 245, 246, 247, 250, 251, 252, 253, 254, 257, 258, 259, 260, 261, 264, 265, 266, 267, 268, 271, 272, 273, 274, 275, 278, 279, 280, 283, 284, 285, 286, 287, 290, 291, 292, 295, 296, 297, 298, 299, 302, 303, 304, 307, 308, 309, 310, 311, 314, 315, 316, 317, 318, 321, 322, 323, 326, 327, 328, 329, 330, 333, 334, 335, 338, 339, 340, 343, 344, 345, 348, 349, 350, 353, 354, 355, 358, 359, 360, 361, 362, 365, 366, 367, 368, 369, 372, 373, 374, 375, 376, 379, 380, 381, 382, 383, 386, 387, 388, 391, 392, 393, 394, 395, 398, 399, 400, 403, 404, 405, 408, 409, 410, 413, 414, 415, 416, 417, 420, 421, 422, 423, 424, 427, 428, 429, 430, 431, 434, 435, 436, 437, 438, 441, 442, 443, 444, 445, 448, 449, 450, 451, 452, 455, 456, 457, 458, 459, 462, 463, 464, 467, 468, 469, 472, 473, 474, 477, 478, 479, 480, 481, 484, 485, 486, 487, 488, 491, 492, 493, 494, 495, 498, 499, 500, 501, 502, 505, 506, 507, 508, 509, 512, 513, 514, 515, 516, 519, 520, 521, 524, 525, 526, 527, 528, 531, 532, 533, 536, 537, 538, 539, 540, 543, 544, 545, 548, 549, 550, 551, 552, 555, 556, 557, 558, 559, 562, 563, 564, 567, 568, 569, 570, 571, 574, 575, 576, 579, 580, 581, 582, 583, 64, 89, 96, 103, 108, 59, 60, 61, 62, 63, 84, 85, 86, 87, 88, 91, 92, 93, 94, 95, 98, 99, 100, 101, 102, 105, 106, 107]
/-- the hook's view of the state, over told addresses -/
def obsA (as : List Addr) (fa : List He.Fa) (fn : List He.DefD) (ts : List He.Tab) (ex : PySem.W.Frag → Bool) (g : Addr → Option Obj) : He.AlT × Bool :=
  (He.obsT fa fn ts (He.frT g as), ex (He.frT g as))
def hookA (as : List Addr) (fa : List He.Fa) (fn : List He.DefD) (ts : List He.Tab) (ex : PySem.W.Frag → Bool) : PySem.W.Hook where
  α := He.AlT × Bool
  obs := fun s => obsA as fa fn ts ex s.heap.get?
  val := fun w => (He.valT fn ts w, true)
  says := fun w h => ∃ K : PySem.W.Frag, K.In h ∧ (He.SaysT fa fn ts w K ∧ ex K = true)
  of := fun _ _ e => ⟨_, He.frT_in, congrArg Prod.fst e, congrArg Prod.snd e⟩
  keeps := fun _ _ _ z k => z.elim fun K c => ⟨K, PySem.W.Frag.In.keeps c.1 k, c.2⟩
abbrev hk : PySem.W.Hook := hookA asL fa fn [] ex
def ob (s : PySem.W.SharedT) : He.AlT × Bool := obsA asL fa fn [] ex (HandSHeadRun.getT s)
theorem ob_eq (s : PySem.W.SharedT) : ob s = hk.obs s.abs := by
  have e : HandSHeadRun.getT s = s.abs.heap.get? := funext (HandSHeadRun.getT_eq s)
  unfold ob
  rw [e]
  rfl
def ns0 : List PySem.Str := ["SeriesError", "BadWorld", "BadFault", "BadRule", "PARTS", "VALUES", "Rule", "rule_of", "fresh", "is_room_free", "is_person_free", "is_gap", "with_series", "room_day", "room_set", "person_set", "taken_back", "one_set", "off_set", "person_hours"]
def ns1 : List PySem.Str := ["FAULTS", "BLANK", "is_whole", "is_step", "is_hand", "are_series", "is_world", "check_world", "begin", "find_step", "tell_step", "room_step", "person_step", "stepped", "meets_room", "meets_person", "lost_single", "step_faults", "is_half", "led"]
def ns2 : List PySem.Str := ["has_step", "hands_at", "walked", "check_faults", "is_without", "turnings", "with_turns", "mends", "_law_begin", "_law_draw", "_law_values", "_law_names", "_law_parts", "_law_rule", "_law_new", "_law_copy", "_law_key", "_law_free", "_law_gap", "_law_room"]
def ns3 : List PySem.Str := ["_law_person", "_law_fits", "_law_single", "_law_undone", "_law_told", "_law_start", "_law_clone", "_law_state", "_law_write", "_law_step", "_law_has", "_law_words", "_law_meets", "_law_faults", "_law_hour_step", "_law_world", "_law_sizes", "_law_next", "_law_walk", "_law_like"]
def ns4 : List PySem.Str := ["_law_sets", "_law_set", "_law_due"]
def nms : List PySem.Str := ns0 ++ ns1 ++ ns2 ++ ns3 ++ ns4
theorem run0 (w : PySem.World) : HandSHeadRun.RunEq R0 (PySem.W.view R0.prog [90]) hk ob 4000 nms w := by
  intro os
  kernel_rfl
set_option maxHeartbeats 2000000
end Lw
namespace Mi
open PySem PySem.Spec PyProof.Rows L2
/-- what stands in the store -/
inductive MO where
  | lst (xs : List MV)
  | dct (ks : List Key) (vs : List MV)
  | dcT (ks : List MV) (vs : List MV)
  | obj (c : Str) (fs : List Str) (vs : List MV)
  deriving Inhabited
abbrev Sto := List MO
abbrev Ev := List (Option MV)
mutual
def MV.beq : MV → MV → Bool
  | .non, .non => true
  | .bl a, .bl b => a == b
  | .int a, .int b => decide (a = b)
  | .str a, .str b => decide (a = b)
  | .tup a, .tup b => MV.beqs a b
  | .lst a, .lst b => MV.beqs a b
  | .dct ka a, .dct kb b => decide (ka = kb) && MV.beqs a b
  | .dcT ka a, .dcT kb b => MV.beqs ka kb && MV.beqs a b
  | .obj c f a, .obj c' f' b => decide (c = c') && (decide (f = f') && MV.beqs a b)
  | .ref a, .ref b => decide (a = b)
  | .kls a, .kls b => MV.beqs a b
  | .ptp a, .ptp b => MV.beqs a b
  | _, _ => false
def MV.beqs : List MV → List MV → Bool
  | [], [] => true
  | a :: as, b :: bs => MV.beq a b && MV.beqs as bs
  | _, _ => false
end
mutual
theorem MV.beq_ok : ∀ a b : MV, MV.beq a b = true ↔ a = b
  | .non, b => by cases b <;> simp [MV.beq]
  | .bl a, b => by cases b <;> simp [MV.beq]
  | .int a, b => by cases b <;> simp [MV.beq]
  | .str a, b => by cases b <;> simp [MV.beq]
  | .tup a, b => by cases b <;> simp [MV.beq, MV.beqs_ok a]
  | .lst a, b => by cases b <;> simp [MV.beq, MV.beqs_ok a]
  | .dct ka a, b => by cases b <;> simp [MV.beq, MV.beqs_ok a]
  | .dcT ka a, b => by cases b <;> simp [MV.beq, MV.beqs_ok a, MV.beqs_ok ka]
  | .obj c f a, b => by cases b <;> simp [MV.beq, MV.beqs_ok a]
  | .ref a, b => by cases b <;> simp [MV.beq]
  | .kls a, b => by cases b <;> simp [MV.beq, MV.beqs_ok a]
  | .ptp a, b => by cases b <;> simp [MV.beq, MV.beqs_ok a]
theorem MV.beqs_ok : ∀ a b : List MV, MV.beqs a b = true ↔ a = b
  | [], b => by cases b <;> simp [MV.beqs]
  | a :: as, b => by
    cases b with
    | nil => simp [MV.beqs]
    | cons b bs => simp [MV.beqs, MV.beq_ok a b, MV.beqs_ok as bs]
end
instance : DecidableEq MV := fun a b => decidable_of_iff _ (MV.beq_ok a b)
def MO.beq : MO → MO → Bool
  | .lst a, .lst b => MV.beqs a b
  | .dct ka a, .dct kb b => decide (ka = kb) && MV.beqs a b
  | .dcT ka a, .dcT kb b => MV.beqs ka kb && MV.beqs a b
  | .obj c f a, .obj c' f' b => decide (c = c') && (decide (f = f') && MV.beqs a b)
  | _, _ => false
theorem MO.beq_ok (a b : MO) : MO.beq a b = true ↔ a = b := by
  cases a <;> cases b <;> simp [MO.beq, MV.beqs_ok]
instance : DecidableEq MO := fun a b => decidable_of_iff _ (MO.beq_ok a b)
mutual
def canon : MV → MV
  | .bl b => .int (if b then 1 else 0)
  | .tup xs => .tup (canons xs)
  | x => x
def canons : List MV → List MV
  | [] => []
  | x :: xs => canon x :: canons xs
end
theorem canons_map : ∀ xs : List MV, canons xs = xs.map canon
  | [] => rfl
  | x :: xs => by rw [canons, canons_map xs]; rfl
mutual
def keyOk : MV → Bool
  | .non | .bl _ | .int _ | .str _ => true
  | .tup xs => keyOks xs
  | _ => false
def keyOks : List MV → Bool
  | [] => true
  | x :: xs => keyOk x && keyOks xs
end
mutual
def kdep : MV → Nat
  | .tup xs => kdeps xs + 1
  | _ => 0
def kdeps : List MV → Nat
  | [] => 0
  | x :: xs => max (kdep x) (kdeps xs)
end
/-- keys of a dict: plain data, not too deep -/
def keyTs (ks : List MV) : Bool := keyOks ks && decide (kdeps ks ≤ 8)
/-- where data is read: the program, the world, the written part, the abstract heap, the addresses of the store -/
structure RC where
  w : World
  K : PySem.W.Frag
  H : Hp
  ι : List Addr
  bad : List Addr := []
/-- not to be written -/
def Froz (C : RC) (a : Addr) : Prop := a ∉ C.ι ∧ a ∉ C.bad
mutual
def hashK (w : World) : MV → Int
  | .non => 0xfca86420
  | .int i => hashInt i
  | .bl b => hashInt (if b then 1 else 0)
  | .str x => hashStr w x
  | .tup xs => reduceHash (Builtin.Tuple.tupleHashOf (hashKs w xs))
  | _ => 0
def hashKs (w : World) : List MV → List Int
  | [] => []
  | x :: xs => hashK w x :: hashKs w xs
end
/-- the entries of a dict whose keys are tuples -/
def entsOf (w : World) : List MV → List Addr → List Value → List DictEntry
  | k :: ks, p :: ps, u :: us => ⟨hashK w k, .ref p, u⟩ :: entsOf w ks ps us
  | _, _, _ => []
/-- a list of the written part -/
def KList (K : PySem.W.Frag) (a : Addr) (xs : List V) : Prop :=
  SqL K (fun _ => none) a xs
theorem KList.sq {K : PySem.W.Frag} {a : Addr} {xs : List V} (h : KList K a xs) (H : Hp) : SqL K H a xs := by
  rcases h with (k | ⟨ob, k⟩) | k
  · cases k
  · cases k
  · exact .inr k
theorem KList.of {K : PySem.W.Frag} {a : Addr} {xs : List V} {o : Obj} {its : Array Value} {n : Nat} (q : K.lookup a = some o) (c : o.cls = .type "list") (nd : o.dict = none) (dt : o.data = .seq its n) (z : its.size ≤ sizeLine) (rv : Vals xs its.toList) : KList K a xs :=
  .inr ⟨o, its, n, q, c, nd, dt, z, rv⟩
mutual
def RepV (C : RC) : MV → V → Prop
  | .non, v => v = .non
  | .bl b, v => v = .bl b
  | .int i, v => v = .int i
  | .str x, v => v = .str x
  | .tup xs, v => ∃ a vs, v = .ref a ∧ SqT C.K C.H a vs ∧ RepVs C xs vs
  | .lst xs, v => ∃ a vs, v = .ref a ∧ Froz C a ∧ C.H a = some (.lst vs) ∧ RepVs C xs vs
  | .dct ks ds, v => ∃ a vs, v = .ref a ∧ Froz C a ∧ Rd C.H a (.dK (ks.zip vs)) ∧ ks.length = vs.length ∧ ks.Nodup ∧ RepVs C ds vs
  | .dcT ks ds, v => ∃ a, v = .ref a ∧ Froz C a ∧ (a == sysModules) = false ∧ keyTs ks = true ∧ ((canons ks).Nodup) ∧ ks.length = ds.length ∧ ks.length ≤ sizeLine ∧
      ∃ (ob : Obj) (es : Array DictEntry) (ep : Nat) (ps : List Addr) (us : List Value) (kvs vs : List V),
        C.H a = some (.ext fun h => h.get? a = some ob) ∧ ob.ExactDict ∧ ob.data = .dict es ep ∧ es.toList = entsOf C.w ks ps us ∧ kvs = ps.map V.ref ∧ RepVs C ks kvs ∧ Vals vs us ∧ RepVs C ds vs
  | .obj c fs ds, v => ∃ a dx vs, v = .ref a ∧ Froz C a ∧ C.H a = some (.ins (He.ga C.K c) dx (fs.zip vs)) ∧ fs.length = vs.length ∧ RepVs C ds vs
  | .ref n, v => ∃ a, v = .ref a ∧ C.ι[n]? = some a
  | .kls xs, v => ∃ a vs, v = .ref a ∧ ((∃ o, C.H a = some (.frz o (.lst vs))) ∨ KList C.K a vs) ∧ RepVs C xs vs
  | .ptp xs, v => ∃ a vs, v = .ref a ∧ (∃ o, C.H a = some (.frz o (.tup vs)) ∧ o.dict = none) ∧ RepVs C xs vs
def RepVs (C : RC) : List MV → List V → Prop
  | [], [] => True
  | d :: ds, v :: vs => RepV C d v ∧ RepVs C ds vs
  | _, _ => False
end
/-- an object of the store at its address -/
def RepO (C : RC) (a : Addr) : MO → Prop
  | .lst xs => ∃ vs, C.H a = some (.lst vs) ∧ RepVs C xs vs
  | .dct ks ds => ∃ vs, C.H a = some (.dK (ks.zip vs)) ∧ ks.length = vs.length ∧ ks.Nodup ∧ RepVs C ds vs
  | .dcT ks ds => (a == sysModules) = false ∧ keyTs ks = true ∧ ((canons ks).Nodup) ∧ ks.length = ds.length ∧ ks.length ≤ sizeLine ∧
      ∃ (ob : Obj) (es : Array DictEntry) (ep : Nat) (ps : List Addr) (us : List Value) (kvs vs : List V),
        C.H a = some (.ext fun h => h.get? a = some ob) ∧ ob.ExactDict ∧ ob.data = .dict es ep ∧ es.toList = entsOf C.w ks ps us ∧ kvs = ps.map V.ref ∧ RepVs C ks kvs ∧ Vals vs us ∧ RepVs C ds vs
  | .obj c fs ds => ∃ dx vs, C.H a = some (.ins (He.ga C.K c) dx (fs.zip vs)) ∧ fs.length = vs.length ∧ RepVs C ds vs
structure RepS (C : RC) (S : Sto) : Prop where
  len : C.ι.length = S.length
  nd : C.ι.Nodup
  bad : ∀ a ∈ C.bad, a ∉ C.ι ∧ C.H a ≠ none
  ob : ∀ (n : Nat) (o : MO) (a : Addr), S[n]? = some o → C.ι[n]? = some a → RepO C a o
theorem RepVs.length {C : RC} : ∀ {ds : List MV} {vs : List V}, RepVs C ds vs → ds.length = vs.length
  | [], [], _ => rfl
  | [], _ :: _, h => by simp [RepVs] at h
  | _ :: _, [], h => by simp [RepVs] at h
  | d :: ds, v :: vs, h => by
    rw [RepVs] at h
    simp [RepVs.length h.2]
theorem RepVs.get {C : RC} : ∀ {ds : List MV} {vs : List V} {i : Nat} {d : MV}, RepVs C ds vs → ds[i]? = some d → ∃ v, vs[i]? = some v ∧ RepV C d v
  | [], _, _, _, _, e => by simp at e
  | _ :: _, [], _, _, h, _ => by simp [RepVs] at h
  | d :: ds, v :: vs, 0, x, h, e => by
    rw [RepVs] at h
    simp at e; subst e
    exact ⟨v, rfl, h.1⟩
  | d :: ds, v :: vs, i + 1, x, h, e => by
    rw [RepVs] at h
    obtain ⟨w, k1, k2⟩ := RepVs.get (i := i) h.2 (by simpa using e)
    exact ⟨w, by simpa using k1, k2⟩
theorem RepVs.get' {C : RC} : ∀ {ds : List MV} {vs : List V} {i : Nat} {v : V}, RepVs C ds vs → vs[i]? = some v → ∃ d, ds[i]? = some d ∧ RepV C d v
  | [], [], _, _, _, e => by simp at e
  | [], _ :: _, _, _, h, _ => by simp [RepVs] at h
  | _ :: _, [], _, _, h, _ => by simp [RepVs] at h
  | d :: ds, v :: vs, 0, x, h, e => by
    rw [RepVs] at h
    simp at e; subst e
    exact ⟨d, rfl, h.1⟩
  | d :: ds, v :: vs, i + 1, x, h, e => by
    rw [RepVs] at h
    obtain ⟨w, k1, k2⟩ := RepVs.get' (i := i) h.2 (by simpa using e)
    exact ⟨w, by simpa using k1, k2⟩
theorem RepVs.cons {C : RC} {d : MV} {ds : List MV} {v : V} {vs : List V} (h : RepV C d v) (t : RepVs C ds vs) : RepVs C (d :: ds) (v :: vs) := by
  rw [RepVs]; exact ⟨h, t⟩
theorem RepVs.nil {C : RC} : RepVs C [] [] := by rw [RepVs]; trivial
theorem RepVs.cons_inv {C : RC} {d : MV} {ds : List MV} {vs : List V} (h : RepVs C (d :: ds) vs) : ∃ v vr, vs = v :: vr ∧ RepV C d v ∧ RepVs C ds vr := by
  cases vs with
  | nil => simp [RepVs] at h
  | cons v vr => rw [RepVs] at h; exact ⟨v, vr, rfl, h.1, h.2⟩
theorem RepVs.nil_inv {C : RC} {vs : List V} (h : RepVs C [] vs) : vs = [] := by
  cases vs with
  | nil => rfl
  | cons v vr => simp [RepVs] at h
theorem RepVs.append {C : RC} : ∀ {ds es : List MV} {vs us : List V}, RepVs C ds vs → RepVs C es us → RepVs C (ds ++ es) (vs ++ us)
  | [], _, vs, _, h, t => by rw [h.nil_inv]; exact t
  | d :: ds, _, vs, _, h, t => by
    obtain ⟨v, vr, rfl, h1, h2⟩ := h.cons_inv
    exact .cons h1 (RepVs.append h2 t)
theorem RepVs.take {C : RC} : ∀ {ds : List MV} {vs : List V} (n : Nat), RepVs C ds vs → RepVs C (ds.take n) (vs.take n)
  | _, _, 0, _ => by simp; exact .nil
  | [], vs, n + 1, h => by rw [h.nil_inv]; simpa using RepVs.nil
  | d :: ds, vs, n + 1, h => by
    obtain ⟨v, vr, rfl, h1, h2⟩ := h.cons_inv
    exact .cons h1 (RepVs.take n h2)
theorem RepVs.drop {C : RC} : ∀ {ds : List MV} {vs : List V} (n : Nat), RepVs C ds vs → RepVs C (ds.drop n) (vs.drop n)
  | _, _, 0, h => h
  | [], vs, n + 1, h => by rw [h.nil_inv]; simpa using RepVs.nil
  | d :: ds, vs, n + 1, h => by
    obtain ⟨v, vr, rfl, h1, h2⟩ := h.cons_inv
    exact RepVs.drop n h2
theorem RepVs.set {C : RC} {d : MV} {v : V} (r : RepV C d v) : ∀ {ds : List MV} {vs : List V} (i : Nat), RepVs C ds vs → RepVs C (ds.set i d) (vs.set i v)
  | [], vs, _, h => by rw [h.nil_inv]; simpa using RepVs.nil
  | x :: ds, vs, 0, h => by
    obtain ⟨u, vr, rfl, h1, h2⟩ := h.cons_inv
    exact .cons r h2
  | x :: ds, vs, i + 1, h => by
    obtain ⟨u, vr, rfl, h1, h2⟩ := h.cons_inv
    exact .cons h1 (RepVs.set r i h2)
theorem RepVs.flatRep {C : RC} {ds : List MV} {vs : List V} (h : RepVs C ds vs) : ∀ n : Nat, RepVs C ((List.replicate n ds).flatten) ((List.replicate n vs).flatten)
  | 0 => by simpa using RepVs.nil
  | n + 1 => by
    simp only [List.replicate_succ, List.flatten_cons]
    exact h.append (h.flatRep n)
/-- what stands at a later: the same, or a dict that is told to be read only from then on -/
def Kp (C C' : RC) (a : Addr) (o : HO) : Prop := C'.H a = some o ∨ a ∉ C.bad ∧ (∃ kvs, o = .dK kvs) ∧ ∃ ob, C'.H a = some (.frz ob o)
theorem Kp.isIt {C C' : RC} {a : Addr} {o : HO} (k : Kp C C' a o) : ∃ u, C'.H a = some u := by
  rcases k with k | ⟨_, _, ob, k⟩
  · exact ⟨_, k⟩
  · exact ⟨_, k⟩
theorem Kp.nix {C C' : RC} {a : Addr} {o : HO} (k : Kp C C' a o) : ¬ C'.H a = none := fun z => by
  obtain ⟨u, e⟩ := k.isIt
  rw [e] at z; cases z
theorem Kp.exact {C C' : RC} {a : Addr} {o : HO} (k : Kp C C' a o) (h : (∀ kvs, o ≠ .dK kvs) ∨ a ∈ C.bad) : C'.H a = some o := by
  rcases k with k | ⟨nb, ⟨kvs, e⟩, _⟩
  · exact k
  · rcases h with h | h
    · exact absurd e (h kvs)
    · exact absurd h nb
/-- from one state to a later one: b the least length of the store in between -/
structure Ext (b : Nat) (C C' : RC) : Prop where
  w : C'.w = C.w
  K : C'.K = C.K
  bad : ∀ a ∈ C'.bad, a ∈ C.bad ∨ a ∈ C.ι ∨ C.H a = none
  bad' : ∀ a ∈ C.bad, a ∈ C'.bad
  kp : ∀ a o, a ∉ C.ι → C.H a = some o → Kp C C' a o
  new : ∀ a ∈ C'.ι, a ∈ C.ι ∨ C.H a = none
  pre : C'.ι.take b = C.ι.take b
  le : b ≤ C.ι.length
  le' : b ≤ C'.ι.length
theorem Ext.refl {b : Nat} {C : RC} (h : b ≤ C.ι.length) : Ext b C C := ⟨rfl, rfl, fun _ h => .inl h, fun _ h => h, fun _ _ _ h => .inl h, fun _ h => .inl h, rfl, h, h⟩
theorem Ext.trans {b : Nat} {C C1 C2 : RC} (x : Ext b C C1) (y : Ext b C1 C2) : Ext b C C2 where
  w := y.w.trans x.w
  K := y.K.trans x.K
  bad := fun a m => by
    rcases y.bad a m with q | q | q
    · exact x.bad a q
    · rcases x.new a q with z | z
      · exact .inr (.inl z)
      · exact .inr (.inr z)
    · by_cases ha : a ∈ C.ι
      · exact .inr (.inl ha)
      · cases e : C.H a with
        | none => exact .inr (.inr rfl)
        | some o => exact absurd q (x.kp a o ha e).nix
  bad' := fun a m => y.bad' a (x.bad' a m)
  kp := fun a o na h => by
    have n1 : a ∉ C1.ι := fun m => by
      rcases x.new a m with q | q
      · exact na q
      · rw [h] at q; cases q
    rcases x.kp a o na h with k | ⟨nb, ⟨kvs, e⟩, ob, k⟩
    · rcases y.kp a o n1 k with j | ⟨nb, e, j⟩
      · exact .inl j
      · exact .inr ⟨fun m => nb (x.bad' a m), e, j⟩
    · exact .inr ⟨nb, ⟨kvs, e⟩, ob, (y.kp a _ n1 k).exact (.inl fun _ z => by cases z)⟩
  new := fun a m => by
    rcases y.new a m with q | q
    · exact x.new a q
    · by_cases ha : a ∈ C.ι
      · exact .inl ha
      · cases e : C.H a with
        | none => exact .inr rfl
        | some o => exact absurd q (x.kp a o ha e).nix
  pre := y.pre.trans x.pre
  le := x.le
  le' := y.le'
theorem Ext.weak {b b' : Nat} {C C' : RC} (x : Ext b C C') (h : b' ≤ b) : Ext b' C C' where
  w := x.w
  K := x.K
  bad := x.bad
  bad' := x.bad'
  kp := x.kp
  new := x.new
  pre := by
    have e := congrArg (List.take b') x.pre
    rw [List.take_take, List.take_take, Nat.min_eq_left h] at e
    exact e
  le := Nat.le_trans h x.le
  le' := Nat.le_trans h x.le'
/-- an address of the store carries no tuple and is not locked -/
theorem RepO.kind {C : RC} {a : Addr} {o : MO} (r : RepO C a o) : ∃ u, C.H a = some u ∧ (∀ xs, u ≠ .tup xs) ∧ (∀ ob x, u ≠ .frz ob x) ∧ (∀ y, u ≠ .own y) ∧ ∀ fs, u ≠ .xd fs := by
  cases o with
  | lst xs => obtain ⟨vs, h, _⟩ := r; exact ⟨_, h, by simp, by simp, by simp, by simp⟩
  | dct ks ds => obtain ⟨vs, h, _⟩ := r; exact ⟨_, h, by simp, by simp, by simp, by simp⟩
  | dcT ks ds => obtain ⟨_, _, _, _, _, ob, es, ep, ps, us, kvs, vs, h, _⟩ := r; exact ⟨_, h, by simp, by simp, by simp, by simp⟩
  | obj c fs ds => obtain ⟨dx, vs, h, _⟩ := r; exact ⟨_, h, by simp, by simp, by simp, by simp⟩
theorem RepS.kind {C : RC} {S : Sto} (r : RepS C S) {a : Addr} (h : a ∈ C.ι) : ∃ u, C.H a = some u ∧ (∀ xs, u ≠ .tup xs) ∧ (∀ ob x, u ≠ .frz ob x) ∧ (∀ y, u ≠ .own y) ∧ ∀ fs, u ≠ .xd fs := by
  obtain ⟨n, hn⟩ := List.mem_iff_getElem?.mp h
  have hl : n < S.length := by rw [← r.len]; exact (List.getElem?_eq_some_iff.mp hn).1
  exact (r.ob n S[n] a (List.getElem?_eq_getElem hl) hn).kind
mutual
def refsB (b : Nat) : MV → Bool
  | .ref n => decide (n < b)
  | .tup xs => refsBs b xs
  | .lst xs => refsBs b xs
  | .dct _ vs => refsBs b vs
  | .dcT ks vs => refsBs b ks && refsBs b vs
  | .obj _ _ vs => refsBs b vs
  | .kls vs => refsBs b vs
  | .ptp vs => refsBs b vs
  | _ => true
def refsBs (b : Nat) : List MV → Bool
  | [] => true
  | x :: xs => refsB b x && refsBs b xs
end
theorem Ext.seqT {b : Nat} {C C' : RC} {S : Sto} (x : Ext b C C') (r : RepS C S) {a : Addr} {vs : List V} (h : SqT C.K C.H a vs) : SqT C'.K C'.H a vs := by
  rw [x.K]
  have na : ∀ {u}, C.H a = some u → ((∃ xs, u = .tup xs) ∨ ∃ ob y, u = .frz ob y) → a ∉ C.ι := fun {u} e k m => by
    obtain ⟨u', e', k1, k2, _⟩ := r.kind m
    rw [e] at e'; cases e'
    rcases k with ⟨xs, k⟩ | ⟨ob, y, k⟩
    · exact k1 _ k
    · exact k2 _ _ k
  rcases h with (k | ⟨ob, k⟩) | k
  · exact .inl (.inl ((x.kp _ _ (na k (.inl ⟨_, rfl⟩)) k).exact (.inl fun _ z => by cases z)))
  · exact .inl (.inr ⟨ob, (x.kp _ _ (na k (.inr ⟨_, _, rfl⟩)) k).exact (.inl fun _ z => by cases z)⟩)
  · exact .inr k
theorem Ext.out {b : Nat} {C C' : RC} (x : Ext b C C') {a : Addr} {u : HO} (n : Froz C a) (h : C.H a = some u) : Froz C' a := by
  refine ⟨fun m => ?_, fun m => ?_⟩
  rotate_left
  · rcases x.bad a m with q | q | q
    · exact n.2 q
    · exact n.1 q
    · rw [h] at q; cases q
  rcases x.new a m with q | q
  · exact n.1 q
  · rw [h] at q; cases q
theorem Ext.ref {b : Nat} {C C' : RC} (x : Ext b C C') {n : Nat} {a : Addr} (hn : n < b) (h : C.ι[n]? = some a) : C'.ι[n]? = some a := by
  have e := congrArg (fun l => l[n]?) x.pre
  simp only [List.getElem?_take_of_lt hn] at e
  rw [e]; exact h
/-- what data needs to stay -/
structure Tr (b : Nat) (C C' : RC) : Prop where
  w : C'.w = C.w
  K : C'.K = C.K
  seqT : ∀ a vs, SqT C.K C.H a vs → SqT C'.K C'.H a vs
  froz : ∀ a u, Froz C a → C.H a = some u → Froz C' a ∧ Kp C C' a u
  frz : ∀ a o u, C.H a = some (.frz o u) → C'.H a = some (.frz o u)
  ref : ∀ n a, n < b → C.ι[n]? = some a → C'.ι[n]? = some a
theorem Ext.tr {b : Nat} {C C' : RC} {S : Sto} (x : Ext b C C') (r : RepS C S) : Tr b C C' where
  w := x.w
  K := x.K
  seqT := fun a vs h => x.seqT r h
  froz := fun a u n h => ⟨x.out n h, x.kp _ _ n.1 h⟩
  frz := fun a o u q => (x.kp _ _ (fun m => by
    obtain ⟨u', e', _, k2, _⟩ := r.kind m
    rw [q] at e'; cases e'
    exact k2 _ _ rfl) q).exact (.inl fun _ z => by cases z)
  ref := fun n a hn h => x.ref hn h
mutual
theorem RepV.tr {b : Nat} {C C' : RC} (x : Tr b C C') : ∀ (d : MV) (v : V), refsB b d = true → RepV C d v → RepV C' d v
  | .non, v, _, h => by rw [RepV] at h ⊢; exact h
  | .bl _, v, _, h => by rw [RepV] at h ⊢; exact h
  | .int _, v, _, h => by rw [RepV] at h ⊢; exact h
  | .str _, v, _, h => by rw [RepV] at h ⊢; exact h
  | .tup xs, v, hb, h => by
    rw [RepV] at h ⊢
    obtain ⟨a, vs, e, q, t⟩ := h
    exact ⟨a, vs, e, x.seqT _ _ q, RepVs.tr x xs vs (by simpa [refsB] using hb) t⟩
  | .lst xs, v, hb, h => by
    rw [RepV] at h ⊢
    obtain ⟨a, vs, e, n, q, t⟩ := h
    exact ⟨a, vs, e, (x.froz _ _ n q).1, (x.froz _ _ n q).2.exact (.inl fun _ z => by cases z), RepVs.tr x xs vs (by simpa [refsB] using hb) t⟩
  | .kls xs, v, hb, h => by
    rw [RepV] at h ⊢
    obtain ⟨a, vs, e, q, t⟩ := h
    refine ⟨a, vs, e, ?_, RepVs.tr x xs vs (by simpa [refsB] using hb) t⟩
    rcases q with ⟨o, q⟩ | q
    · exact .inl ⟨o, x.frz _ _ _ q⟩
    · exact .inr (by rw [x.K]; exact q)
  | .ptp xs, v, hb, h => by
    rw [RepV] at h ⊢
    obtain ⟨a, vs, e, ⟨o, q, z⟩, t⟩ := h
    exact ⟨a, vs, e, ⟨o, x.frz _ _ _ q, z⟩, RepVs.tr x xs vs (by simpa [refsB] using hb) t⟩
  | .dct ks ds, v, hb, h => by
    rw [RepV] at h ⊢
    obtain ⟨a, vs, e, n, q, l, nd, t⟩ := h
    have t' := RepVs.tr x ds vs (by simpa [refsB] using hb) t
    rcases q with q | ⟨o, q⟩
    · rcases (x.froz _ _ n q).2 with k | ⟨_, _, ob, k⟩
      · exact ⟨a, vs, e, (x.froz _ _ n q).1, .inl k, l, nd, t'⟩
      · exact ⟨a, vs, e, (x.froz _ _ n q).1, .inr ⟨ob, k⟩, l, nd, t'⟩
    · exact ⟨a, vs, e, (x.froz _ _ n q).1, .inr ⟨o, (x.froz _ _ n q).2.exact (.inl fun _ z => by cases z)⟩, l, nd, t'⟩
  | .dcT ks ds, v, hb, h => by
    rw [RepV] at h ⊢
    obtain ⟨a, e, n, sm, ko, nd, l, z, ob, es, ep, ps, us, kvs, vs, q, ex, hd, he, hk, tk, rv, t⟩ := h
    have hb' : refsBs b ks = true ∧ refsBs b ds = true := by simpa [refsB] using hb
    refine ⟨a, e, (x.froz _ _ n q).1, sm, ko, nd, l, z, ob, es, ep, ps, us, kvs, vs, (x.froz _ _ n q).2.exact (.inl fun _ z => by cases z), ex, hd, ?_, hk, RepVs.tr x ks kvs hb'.1 tk, rv, RepVs.tr x ds vs hb'.2 t⟩
    rw [x.w]; exact he
  | .obj c fs ds, v, hb, h => by
    rw [RepV] at h ⊢
    obtain ⟨a, dx, vs, e, n, q, l, t⟩ := h
    refine ⟨a, dx, vs, e, (x.froz _ _ n q).1, ?_, l, RepVs.tr x ds vs (by simpa [refsB] using hb) t⟩
    rw [x.K]; exact (x.froz _ _ n q).2.exact (.inl fun _ z => by cases z)
  | .ref n, v, hb, h => by
    rw [RepV] at h ⊢
    obtain ⟨a, e, q⟩ := h
    exact ⟨a, e, x.ref _ _ (by simpa [refsB] using hb) q⟩
theorem RepVs.tr {b : Nat} {C C' : RC} (x : Tr b C C') : ∀ (ds : List MV) (vs : List V), refsBs b ds = true → RepVs C ds vs → RepVs C' ds vs
  | [], vs, _, h => by rw [h.nil_inv]; exact .nil
  | d :: ds, vs, hb, h => by
    obtain ⟨v, vr, rfl, h1, h2⟩ := h.cons_inv
    have hb' : refsB b d = true ∧ refsBs b ds = true := by simpa [refsBs] using hb
    exact .cons (RepV.tr x d v hb'.1 h1) (RepVs.tr x ds vr hb'.2 h2)
end
theorem RepV.ext {b : Nat} {C C' : RC} {S : Sto} (x : Ext b C C') (r : RepS C S) (d : MV) (v : V) (hb : refsB b d = true) (h : RepV C d v) : RepV C' d v := RepV.tr (x.tr r) d v hb h
theorem RepVs.ext {b : Nat} {C C' : RC} {S : Sto} (x : Ext b C C') (r : RepS C S) (d : List MV) (v : List V) (hb : refsBs b d = true) (h : RepVs C d v) : RepVs C' d v := RepVs.tr (x.tr r) d v hb h
mutual
theorem RepV.refs {C : RC} : ∀ (d : MV) (v : V), RepV C d v → refsB C.ι.length d = true
  | .non, v, h => rfl
  | .bl _, v, h => rfl
  | .int _, v, h => rfl
  | .str _, v, h => rfl
  | .tup xs, v, h => by
    rw [RepV] at h; obtain ⟨a, vs, e, q, t⟩ := h
    rw [refsB]; exact RepVs.refs xs vs t
  | .lst xs, v, h => by
    rw [RepV] at h; obtain ⟨a, vs, e, n, q, t⟩ := h
    rw [refsB]; exact RepVs.refs xs vs t
  | .kls xs, v, h => by
    rw [RepV] at h; obtain ⟨a, vs, e, q, t⟩ := h
    rw [refsB]; exact RepVs.refs xs vs t
  | .ptp xs, v, h => by
    rw [RepV] at h; obtain ⟨a, vs, e, q, t⟩ := h
    rw [refsB]; exact RepVs.refs xs vs t
  | .dct ks ds, v, h => by
    rw [RepV] at h; obtain ⟨a, vs, e, n, q, l, nd, t⟩ := h
    rw [refsB]; exact RepVs.refs ds vs t
  | .dcT ks ds, v, h => by
    rw [RepV] at h
    obtain ⟨a, e, n, sm, ko, nd, l, z, ob, es, ep, ps, us, kvs, vs, q, ex, hd, he, hk, tk, rv, t⟩ := h
    rw [refsB, RepVs.refs ks kvs tk, RepVs.refs ds vs t]; rfl
  | .obj c fs ds, v, h => by
    rw [RepV] at h
    obtain ⟨a, dx, vs, e, n, q, l, t⟩ := h
    rw [refsB]; exact RepVs.refs ds vs t
  | .ref n, v, h => by
    rw [RepV] at h
    obtain ⟨a, e, q⟩ := h
    rw [refsB]; exact decide_eq_true (List.getElem?_eq_some_iff.mp q).1
theorem RepVs.refs {C : RC} : ∀ (ds : List MV) (vs : List V), RepVs C ds vs → refsBs C.ι.length ds = true
  | [], vs, _ => rfl
  | d :: ds, vs, h => by
    obtain ⟨v, vr, rfl, h1, h2⟩ := h.cons_inv
    rw [refsBs, RepV.refs d v h1, RepVs.refs ds vr h2]; rfl
end
/-- nothing of the store goes -/
abbrev Grow (C C' : RC) : Prop := Ext C.ι.length C C'
theorem Grow.refl {C : RC} : Grow C C := Ext.refl (Nat.le_refl _)
theorem Ext.grow {b : Nat} {C C' : RC} (x : Grow C C') (h : b ≤ C.ι.length) : Ext b C C' := x.weak h
theorem Grow.trans {C C1 C2 : RC} (x : Grow C C1) (y : Grow C1 C2) : Grow C C2 := Ext.trans x (y.weak x.le')
theorem RepV.grow {C C' : RC} {S : Sto} (x : Grow C C') (r : RepS C S) {d : MV} {v : V} (h : RepV C d v) : RepV C' d v := RepV.ext x r d v (RepV.refs d v h) h
theorem RepVs.grow {C C' : RC} {S : Sto} (x : Grow C C') (r : RepS C S) {ds : List MV} {vs : List V} (h : RepVs C ds vs) : RepVs C' ds vs := RepVs.ext x r ds vs (RepVs.refs ds vs h) h
/-- the slots -/
def EnvR (C : RC) (ρ : Ev) (σ : L2.St) : Prop := ∀ (i : Nat) (d : MV), ρ[i]? = some (some d) → ∃ v, σ[i]? = some (some v) ∧ RepV C d v
theorem EnvR.grow {C C' : RC} {S : Sto} {ρ : Ev} {σ : L2.St} (h : EnvR C ρ σ) (x : Grow C C') (r : RepS C S) : EnvR C' ρ σ := fun i d e => by
  obtain ⟨v, e1, q⟩ := h i d e
  exact ⟨v, e1, q.grow x r⟩
theorem EnvR.set {C : RC} {ρ : Ev} {σ : L2.St} (h : EnvR C ρ σ) {i : Nat} {d : MV} {v : V} (hi : ρ.length = σ.length) (q : RepV C d v) : EnvR C (ρ.set i (some d)) (σ.set i (some v)) := fun j e q' => by
  by_cases hj : j = i
  · subst hj
    by_cases hl : j < ρ.length
    · rw [List.getElem?_set_self hl] at q'
      cases q'
      exact ⟨v, by rw [List.getElem?_set_self (by omega)], q⟩
    · rw [List.getElem?_eq_none (by simpa using hl)] at q'; cases q'
  · rw [List.getElem?_set_ne (Ne.symm hj)] at q' ⊢
    exact h j e q'
end Mi
set_option Elab.async false
set_option linter.all false
set_option maxRecDepth 100000
set_option maxHeartbeats 2000000
namespace Mi
open PySem PySem.Spec PyProof.Rows L2
theorem RepO.grow {C C' : RC} {S : Sto} {a : Addr} {o : MO} (x : Grow C C') (r : RepS C S) (e : C'.H a = C.H a) (h : RepO C a o) : RepO C' a o := by
  cases o with
  | lst xs => obtain ⟨vs, q, t⟩ := h; exact ⟨vs, e.trans q, t.grow x r⟩
  | dct ks ds => obtain ⟨vs, q, l, nd, t⟩ := h; exact ⟨vs, e.trans q, l, nd, t.grow x r⟩
  | dcT ks ds =>
    obtain ⟨sm, ko, nd, l, z, ob, es, ep, ps, us, kvs, vs, q, ex, hd, he, hk, tk, rv, t⟩ := h
    exact ⟨sm, ko, nd, l, z, ob, es, ep, ps, us, kvs, vs, e.trans q, ex, hd, by rw [x.w]; exact he, hk, tk.grow x r, rv, t.grow x r⟩
  | obj c fs ds => obtain ⟨dx, vs, q, l, t⟩ := h; exact ⟨dx, vs, by rw [x.K]; exact e.trans q, l, t.grow x r⟩
/-- a new object, not of the store -/
def RC.put (C : RC) (p : Addr) (o : HO) : RC := { C with H := upd C.H p o }
theorem Grow.put {C : RC} {p : Addr} {o : HO} (h : C.H p = none) : Grow C (C.put p o) := by
  refine ⟨rfl, rfl, fun _ h => .inl h, fun _ h => h, fun a u _ e => ?_, fun a m => .inl m, rfl, Nat.le_refl _, Nat.le_refl _⟩
  refine .inl (show upd C.H p o a = some u from ?_)
  rw [upd_ne (ne_of_none e h)]; exact e
theorem RepS.put {C : RC} {S : Sto} {p : Addr} {o : HO} (r : RepS C S) (h : C.H p = none) : RepS (C.put p o) S := by
  refine ⟨r.len, r.nd, fun a m => ⟨(r.bad a m).1, ?_⟩, fun n mo a e1 e2 => ?_⟩
  · show upd C.H p o a ≠ none
    by_cases q : a = p
    · subst q; exact absurd h (r.bad a m).2
    · rw [upd_ne q]; exact (r.bad a m).2
  · have ro := r.ob n mo a e1 e2
    refine ro.grow (Grow.put h) r ?_
    obtain ⟨u, hu, _⟩ := ro.kind
    show upd C.H p o a = C.H a
    rw [upd_ne (ne_of_none hu h)]
theorem Froz.put {C : RC} {S : Sto} {p : Addr} {o : HO} (r : RepS C S) (h : C.H p = none) : Froz (C.put p o) p := by
  refine ⟨fun m => ?_, fun m => (r.bad p m).2 h⟩
  obtain ⟨u, hu, _⟩ := r.kind (show p ∈ C.ι from m)
  rw [h] at hu; cases hu
theorem put_same {C : RC} {p : Addr} {o : HO} : (C.put p o).H p = some o := upd_same
/-- a new cell of the store -/
def RC.cell (C : RC) (p : Addr) (o : HO) : RC := { C with H := upd C.H p o, ι := C.ι ++ [p] }
theorem Grow.cell {C : RC} {p : Addr} {o : HO} (h : C.H p = none) : Grow C (C.cell p o) := by
  refine ⟨rfl, rfl, fun _ h => .inl h, fun _ h => h, fun a u _ e => ?_, fun a m => ?_, by simp [RC.cell], Nat.le_refl _, by simp [RC.cell]⟩
  · refine .inl (show upd C.H p o a = some u from ?_)
    rw [upd_ne (ne_of_none e h)]; exact e
  · rcases List.mem_append.mp (show a ∈ C.ι ++ [p] from m) with m | m
    · exact .inl m
    · have e : a = p := by simpa using m
      subst e; exact .inr h
theorem RepS.notin {C : RC} {S : Sto} {p : Addr} (r : RepS C S) (h : C.H p = none) : p ∉ C.ι := fun m => by
  obtain ⟨u, hu, _⟩ := r.kind m
  rw [h] at hu; cases hu
theorem RepS.cell {C : RC} {S : Sto} {p : Addr} {o : HO} {mo : MO} (r : RepS C S) (h : C.H p = none) (q : RepO (C.cell p o) p mo) : RepS (C.cell p o) (S ++ [mo]) := by
  refine ⟨by simp [RC.cell, r.len], ?_, fun a m => ⟨fun m2 => ?_, ?_⟩, fun n mo' a e1 e2 => ?_⟩
  · show (C.ι ++ [p]).Nodup
    rw [List.nodup_append]
    refine ⟨r.nd, by simp, fun a ha b hb => ?_⟩
    have e : b = p := by simpa using hb
    subst e
    intro e; subst e
    exact r.notin h ha
  · rcases List.mem_append.mp (show a ∈ C.ι ++ [p] from m2) with m2 | m2
    · exact (r.bad a m).1 m2
    · have e : a = p := by simpa using m2
      subst e; exact (r.bad a m).2 h
  · show upd C.H p o a ≠ none
    by_cases z : a = p
    · subst z; exact absurd h (r.bad a m).2
    · rw [upd_ne z]; exact (r.bad a m).2
  · have e2 : (C.ι ++ [p])[n]? = some a := e2
    by_cases hn : n < S.length
    · rw [List.getElem?_append_left hn] at e1
      rw [List.getElem?_append_left (by rw [r.len]; exact hn)] at e2
      have ro := r.ob n mo' a e1 e2
      refine ro.grow (Grow.cell h) r ?_
      obtain ⟨u, hu, _⟩ := ro.kind
      show upd C.H p o a = C.H a
      rw [upd_ne (ne_of_none hu h)]
    · rw [List.getElem?_append_right (by omega)] at e1
      rw [List.getElem?_append_right (by rw [r.len]; omega), r.len] at e2
      cases hz : n - S.length with
      | zero =>
        rw [hz] at e1 e2
        simp at e1 e2
        subst e1; subst e2
        exact q
      | succ k => rw [hz] at e1; simp at e1
theorem cell_same {C : RC} {p : Addr} {o : HO} : (C.cell p o).H p = some o := upd_same
theorem cell_ref {C : RC} {S : Sto} {p : Addr} {o : HO} (r : RepS C S) : RepV (C.cell p o) (.ref S.length) (.ref p) := by
  rw [RepV]
  exact ⟨p, rfl, by simp [RC.cell, ← r.len]⟩
/-- a cell of the store is written -/
theorem Grow.write {C : RC} {a : Addr} {o : HO} (h : a ∈ C.ι) : Grow C (C.put a o) := by
  refine ⟨rfl, rfl, fun _ h => .inl h, fun _ h => h, fun b u n e => ?_, fun b m => .inl m, rfl, Nat.le_refl _, Nat.le_refl _⟩
  refine .inl (show upd C.H a o b = some u from ?_)
  rw [upd_ne (fun z => n (by rw [z]; exact h))]; exact e
theorem RepS.write {C : RC} {S : Sto} {n : Nat} {a : Addr} {o : HO} {mo : MO} (r : RepS C S) (h : C.ι[n]? = some a) (q : RepO (C.put a o) a mo) : RepS (C.put a o) (S.set n mo) := by
  have ha : a ∈ C.ι := List.mem_of_getElem? h
  refine ⟨by simp [RC.put, r.len], r.nd, fun b m => ⟨(r.bad b m).1, ?_⟩, fun k mo' b e1 e2 => ?_⟩
  · show upd C.H a o b ≠ none
    by_cases z : b = a
    · subst z; exact absurd ha (r.bad b m).1
    · rw [upd_ne z]; exact (r.bad b m).2
  · by_cases hk : k = n
    · subst hk
      have e2 : C.ι[k]? = some b := e2
      rw [h] at e2; cases e2
      have hl : k < S.length := by rw [← r.len]; exact (List.getElem?_eq_some_iff.mp h).1
      rw [List.getElem?_set_self hl] at e1
      cases e1
      exact q
    · rw [List.getElem?_set_ne (Ne.symm hk)] at e1
      have ro := r.ob k mo' b e1 e2
      refine ro.grow (Grow.write ha) r ?_
      show upd C.H a o b = C.H b
      refine upd_ne fun z => hk ?_
      subst z
      exact (List.getElem_inj r.nd).mp ((List.getElem?_eq_some_iff.mp e2).2.trans (List.getElem?_eq_some_iff.mp h).2.symm) |> fun e => by exact e
inductive R (α : Type) where
  | ok (a : α) (S : Sto)
  | exc (c : Str) (d : MV) (S : Sto)
  | stk
def R.bind {α β : Type} (r : R α) (f : α → Sto → R β) : R β := match r with
  | .ok a S => f a S
  | .exc c d S => .exc c d S
  | .stk => .stk
@[simp] theorem R.bind_ok {α β : Type} (a : α) (S : Sto) (f : α → Sto → R β) : (R.ok a S).bind f = f a S := rfl
@[simp] theorem R.bind_exc {α β : Type} (c : Str) (d : MV) (S : Sto) (f : α → Sto → R β) : (R.exc c d S : R α).bind f = .exc c d S := rfl
@[simp] theorem R.bind_stk {α β : Type} (f : α → Sto → R β) : (R.stk : R α).bind f = .stk := rfl
/-- an own exception: its class, and its one field's value (or none) -/
def ExcR (C : RC) (c : Str) (d : MV) (cls : Value) (dx : Option Addr) : Prop :=
  cls = .ref (He.ga C.K c) ∧ ((d = .non ∧ dx = none) ∨ ∃ a f d' v, d = .obj c [f] [d'] ∧ dx = some a ∧ C.H a = some (.xd [(f, v)]) ∧ RepV C d' v)
theorem ExcR.ext {b : Nat} {C C' : RC} {S : Sto} {c : Str} {d : MV} {cls : Value} {dx : Option Addr} (h : ExcR C c d cls dx) (x : Ext b C C') (r : RepS C S) (hb : refsB b d = true) : ExcR C' c d cls dx := by
  refine ⟨by rw [x.K]; exact h.1, ?_⟩
  rcases h.2 with h | ⟨a, f, d', v, ed, e, q, t⟩
  · exact .inl h
  · refine .inr ⟨a, f, d', v, ed, e, (x.kp _ _ (fun m => ?_) q).exact (.inl fun _ z => by cases z), RepV.ext x r d' v (by subst ed; simpa [refsB, refsBs] using hb) t⟩
    obtain ⟨u, hu, _, _, _, k⟩ := r.kind m
    rw [q] at hu; cases hu
    exact k _ rfl
/-- what is wanted of a result -/
def Wants {α : Type} (W : WX) (σ : L2.St) (C : RC) (r : R α) (Q : α → Sto → RC → Prop) : Prop := match r with
  | .ok a S => ∀ C', Grow C C' → RepS C' S → Q a S C'
  | .exc c d S => ∀ C' cls dx, Grow C C' → RepS C' S → ExcR C' c d cls dx → W cls dx σ C'.H
  | .stk => False
theorem Wants.bind {α β : Type} {W : WX} {σ : L2.St} {C : RC} {r : R α} {f : α → Sto → R β} {Q : β → Sto → RC → Prop} (h : Wants W σ C (r.bind f) Q) :
    Wants W σ C r (fun a S1 C1 => Wants W σ C1 (f a S1) Q ∧ Grow C C1) := by
  cases r with
  | ok a S =>
    intro C1 g r1
    refine ⟨?_, g⟩
    have h : Wants W σ C (f a S) Q := h
    revert h
    cases f a S with
    | ok b S2 => exact fun h C2 g2 r2 => h C2 (g.trans g2) r2
    | exc c d S2 => exact fun h C2 cls dx g2 r2 e => h C2 cls dx (g.trans g2) r2 e
    | stk => exact fun h => h
  | exc c d S => exact h
  | stk => exact h
theorem Wants.mono {α : Type} {W : WX} {σ : L2.St} {C : RC} {r : R α} {Q Q' : α → Sto → RC → Prop} (h : Wants W σ C r Q) (k : ∀ a S C', Grow C C' → RepS C' S → r = .ok a S → Q a S C' → Q' a S C') : Wants W σ C r Q' := by
  cases r with
  | ok a S => exact fun C' g r => k a S C' g r rfl (h C' g r)
  | exc c d S => exact h
  | stk => exact h
/-- the state of a walk: data for the slots, the store -/
structure Sv (X : Cx) (ρ : Ev) (σ : L2.St) (S : Sto) (C : RC) : Prop where
  w : C.w = X.w
  K : C.K = X.K
  rs : RepS C S
  ev : EnvR C ρ σ
  ln : ρ.length = σ.length
theorem Sv.grow {X : Cx} {ρ : Ev} {σ : L2.St} {S S' : Sto} {C C' : RC} (s : Sv X ρ σ S C) (g : Grow C C') (r : RepS C' S') : Sv X ρ σ S' C' :=
  ⟨g.w.trans s.w, g.K.trans s.K, r, s.ev.grow g s.rs, s.ln⟩
/-- readings: of an expression's value, a test, an argument list -/
def tE (X : Cx) (W : WX) (m : Ev → Sto → R MV) : TE := fun σ H Q => ∃ C ρ S, C.H = H ∧ Sv X ρ σ S C ∧ Wants W σ C (m ρ S) (fun d _ C' => ∀ v, RepV C' d v → Q v C'.H)
def tT (X : Cx) (W : WX) (m : Ev → Sto → R Bool) : TT := fun σ H Q => ∃ C ρ S, C.H = H ∧ Sv X ρ σ S C ∧ Wants W σ C (m ρ S) (fun b _ C' => Q b C'.H)
def tA (X : Cx) (W : WX) (m : Ev → Sto → R (List MV)) : TA := fun σ H Q => ∃ C ρ S, C.H = H ∧ Sv X ρ σ S C ∧ Wants W σ C (m ρ S) (fun ds _ C' => ∀ vs, RepVs C' ds vs → Q vs C'.H)
theorem _root_.L2.PE.imp {X : Cx} {e : Expr} {t t' : TE} (h : PE X e t) (k : ∀ σ H Q, t' σ H Q → t σ H Q) : PE X e t' := ⟨fun pins s σ H Q I q => h.run pins s σ H Q I (k σ H Q q)⟩
theorem _root_.L2.PT.imp {X : Cx} {e : Expr} {t t' : TT} (h : PT X e t) (k : ∀ σ H Q, t' σ H Q → t σ H Q) : PT X e t' := ⟨fun pins s σ H Q I q => h.run pins s σ H Q I (k σ H Q q)⟩
theorem _root_.L2.PW.imp {X : Cx} {e : Expr} {t t' : TT} (h : PW X e t) (k : ∀ σ H Q, t' σ H Q → t σ H Q) : PW X e t' := ⟨fun wh pins s σ H Q I q => h.run wh pins s σ H Q I (k σ H Q q)⟩
theorem _root_.L2.PA.imp {X : Cx} {es : List Expr} {t t' : TA} (h : PA X es t) (k : ∀ σ H Q, t' σ H Q → t σ H Q) : PA X es t' := ⟨fun pos pins s σ H Q I q => h.run pos pins s σ H Q I (k σ H Q q)⟩
theorem _root_.L2.PS.imp {X : Cx} {st : Stmt} {t t' : TS} (h : PS X st t) (k : ∀ D σ H, t' D σ H → t D σ H) : PS X st t' := ⟨fun pins s σ H D I q => h.run pins s σ H D I (k D σ H q)⟩
theorem _root_.L2.PSs.imp {X : Cx} {st : List Stmt} {t t' : TS} (h : PSs X st t) (k : ∀ D σ H, t' D σ H → t D σ H) : PSs X st t' := ⟨fun pins s σ H D I q => h.run pins s σ H D I (k D σ H q)⟩
/-- the step of a bind: behind the first part -/
theorem tE.bind {X : Cx} {W : WX} {m : Ev → Sto → R MV} {β : Type} {f : MV → Sto → R β} {σ : L2.St} {C : RC} {ρ : Ev} {S : Sto} {Q : β → Sto → RC → Prop} {Q1 : VK} (s : Sv X ρ σ S C) (h : Wants W σ C ((m ρ S).bind f) Q)
    (k : ∀ d S1 C1 v, Sv X ρ σ S1 C1 → Grow C C1 → RepV C1 d v → Wants W σ C1 (f d S1) Q → Q1 v C1.H) : tE X W m σ C.H Q1 :=
  ⟨C, ρ, S, rfl, s, h.bind.mono fun d S1 C1 g r _ q v hv => k d S1 C1 v (s.grow g r) g hv q.1⟩
theorem tT.bind {X : Cx} {W : WX} {m : Ev → Sto → R Bool} {β : Type} {f : Bool → Sto → R β} {σ : L2.St} {C : RC} {ρ : Ev} {S : Sto} {Q : β → Sto → RC → Prop} {Q1 : Bool → Hp → Prop} (s : Sv X ρ σ S C) (h : Wants W σ C ((m ρ S).bind f) Q)
    (k : ∀ b S1 C1, Sv X ρ σ S1 C1 → Grow C C1 → Wants W σ C1 (f b S1) Q → Q1 b C1.H) : tT X W m σ C.H Q1 :=
  ⟨C, ρ, S, rfl, s, h.bind.mono fun d S1 C1 g r _ q => k d S1 C1 (s.grow g r) g q.1⟩
theorem tA.bind {X : Cx} {W : WX} {m : Ev → Sto → R (List MV)} {β : Type} {f : List MV → Sto → R β} {σ : L2.St} {C : RC} {ρ : Ev} {S : Sto} {Q : β → Sto → RC → Prop} {Q1 : List V → Hp → Prop} (s : Sv X ρ σ S C) (h : Wants W σ C ((m ρ S).bind f) Q)
    (k : ∀ ds S1 C1 vs, Sv X ρ σ S1 C1 → Grow C C1 → RepVs C1 ds vs → Wants W σ C1 (f ds S1) Q → Q1 vs C1.H) : tA X W m σ C.H Q1 :=
  ⟨C, ρ, S, rfl, s, h.bind.mono fun d S1 C1 g r _ q vs hv => k d S1 C1 vs (s.grow g r) g hv q.1⟩
/-- a value told at once -/
theorem Wants.here {α : Type} {W : WX} {σ : L2.St} {C C' : RC} {a : α} {S' : Sto} {Q : α → Sto → RC → Prop} (h : Wants W σ C (.ok a S') Q) (g : Grow C C') (r : RepS C' S') : Q a S' C' := h C' g r
theorem Wants.now {α : Type} {W : WX} {σ : L2.St} {C : RC} {a : α} {S : Sto} {Q : α → Sto → RC → Prop} (h : Wants W σ C (.ok a S) Q) (r : RepS C S) : Q a S C := h C Grow.refl r
end Mi
set_option Elab.async false
set_option linter.all false
set_option maxRecDepth 100000
set_option maxHeartbeats 2000000
namespace Mi
open PySem PySem.Spec PyProof.Rows L2
def lstOf (S : Sto) : MV → Option (List MV)
  | .lst xs => some xs
  | .ref n => match S[n]? with
    | some (.lst xs) => some xs
    | _ => none
  | _ => none
def seqOf (S : Sto) : MV → Option (List MV)
  | .tup xs => some xs
  | .kls xs => some xs
  | .ptp xs => some xs
  | d => lstOf S d
theorem lstOf_rep {C : RC} {S : Sto} {d : MV} {v : V} {xs : List MV} (r : RepS C S) (h : RepV C d v) (e : lstOf S d = some xs) : ∃ a vs, v = .ref a ∧ C.H a = some (.lst vs) ∧ RepVs C xs vs := by
  cases d with
  | lst ys =>
    rw [lstOf] at e; cases e
    rw [RepV] at h
    obtain ⟨a, vs, e, _, q, t⟩ := h
    exact ⟨a, vs, e, q, t⟩
  | ref n =>
    rw [RepV] at h
    obtain ⟨a, e1, e2⟩ := h
    rw [lstOf] at e
    cases q : S[n]? with
    | none => simp [q] at e
    | some o =>
      rw [q] at e
      cases o with
      | lst ys =>
        cases e
        obtain ⟨vs, h1, h2⟩ := r.ob n _ a q e2
        exact ⟨a, vs, e1, h1, h2⟩
      | _ => cases e
  | _ => cases e
theorem seqOf_rep {C : RC} {S : Sto} {d : MV} {v : V} {xs : List MV} (r : RepS C S) (h : RepV C d v) (e : seqOf S d = some xs) : ∃ a vs, v = .ref a ∧ (SqL C.K C.H a vs ∨ SqT C.K C.H a vs) ∧ RepVs C xs vs := by
  cases d with
  | tup ys =>
    rw [seqOf] at e; cases e
    rw [RepV] at h
    obtain ⟨a, vs, e, q, t⟩ := h
    exact ⟨a, vs, e, .inr q, t⟩
  | kls ys =>
    rw [seqOf] at e; cases e
    rw [RepV] at h
    obtain ⟨a, vs, e, q, t⟩ := h
    refine ⟨a, vs, e, .inl ?_, t⟩
    rcases q with ⟨o, q⟩ | q
    · exact .inl (.inr ⟨o, q⟩)
    · exact q.sq _
  | ptp ys =>
    rw [seqOf] at e; cases e
    rw [RepV] at h
    obtain ⟨a, vs, e, ⟨o, q, _⟩, t⟩ := h
    exact ⟨a, vs, e, .inr (.inl (.inr ⟨o, q⟩)), t⟩
  | lst ys => obtain ⟨a, vs, e, q, t⟩ := lstOf_rep r h e; exact ⟨a, vs, e, .inl (.of q), t⟩
  | ref n => obtain ⟨a, vs, e, q, t⟩ := lstOf_rep r h e; exact ⟨a, vs, e, .inl (.of q), t⟩
  | _ => cases e
/-- a value op's reading -/
def rOf (X : Cx) (f : MV → MV → Sto → R MV) : R2 := fun x y H Q => ∃ C S d1 d2, C.H = H ∧ C.w = X.w ∧ C.K = X.K ∧ RepS C S ∧ RepV C d1 x ∧ RepV C d2 y ∧
  ∃ a S', f d1 d2 S = .ok a S' ∧ ∀ C', Grow C C' → RepS C' S' → ∀ v, RepV C' a v → Q v C'.H
theorem vInt {C : RC} {i : Int} {v : V} (h : RepV C (.int i) v) : v = .int i := by rw [RepV] at h; exact h
theorem vBl {C : RC} {i : Bool} {v : V} (h : RepV C (.bl i) v) : v = .bl i := by rw [RepV] at h; exact h
theorem vStr {C : RC} {i : Str} {v : V} (h : RepV C (.str i) v) : v = .str i := by rw [RepV] at h; exact h
theorem vNon {C : RC} {v : V} (h : RepV C .non v) : v = .non := by rw [RepV] at h; exact h
theorem repI {C : RC} (i : Int) : RepV C (.int i) (.int i) := by rw [RepV]
theorem repB {C : RC} (i : Bool) : RepV C (.bl i) (.bl i) := by rw [RepV]
theorem repS {C : RC} (i : Str) : RepV C (.str i) (.str i) := by rw [RepV]
theorem repN {C : RC} : RepV C .non .non := by rw [RepV]
theorem repTup {C : RC} {p : Addr} {ds : List MV} {vs : List V} (h : C.H p = some (.tup vs)) (t : RepVs C ds vs) : RepV C (.tup ds) (.ref p) := by
  rw [RepV]; exact ⟨p, vs, rfl, .of h, t⟩
theorem repLst {C : RC} {p : Addr} {ds : List MV} {vs : List V} (n : Froz C p) (h : C.H p = some (.lst vs)) (t : RepVs C ds vs) : RepV C (.lst ds) (.ref p) := by
  rw [RepV]; exact ⟨p, vs, rfl, n, h, t⟩
/-- a new tuple, a new frozen list -/
theorem newTup {C : RC} {S : Sto} {Q : VK} {ds : List MV} {vs : List V} (r : RepS C S) (t : RepVs C ds vs) (q : ∀ C', Grow C C' → RepS C' S → ∀ v, RepV C' (.tup ds) v → Q v C'.H) : ∀ p, C.H p = none → Q (.ref p) (upd C.H p (.tup vs)) := fun p hp =>
  q (C.put p (.tup vs)) (Grow.put hp) (r.put hp) (.ref p) (repTup put_same (t.grow (Grow.put hp) r))
theorem newLst {C : RC} {S : Sto} {Q : VK} {ds : List MV} {vs : List V} (r : RepS C S) (t : RepVs C ds vs) (q : ∀ C', Grow C C' → RepS C' S → ∀ v, RepV C' (.lst ds) v → Q v C'.H) : ∀ p, C.H p = none → Q (.ref p) (upd C.H p (.lst vs)) := fun p hp =>
  q (C.put p (.lst vs)) (Grow.put hp) (r.put hp) (.ref p) (repLst (.put r hp) put_same (t.grow (Grow.put hp) r))
/-- a new list cell -/
theorem newCell {C : RC} {S : Sto} {Q : VK} {ds : List MV} {vs : List V} (r : RepS C S) (t : RepVs C ds vs) (q : ∀ C', Grow C C' → RepS C' (S ++ [.lst ds]) → ∀ v, RepV C' (.ref S.length) v → Q v C'.H) : ∀ p, C.H p = none → Q (.ref p) (upd C.H p (.lst vs)) := fun p hp =>
  q (C.cell p (.lst vs)) (Grow.cell hp) (r.cell hp ⟨vs, cell_same, t.grow (Grow.cell hp) r⟩) (.ref p) (cell_ref r)
def addL (a b : MV) (S : Sto) : R MV := match lstOf S a, lstOf S b with
  | some xs, some ys => if xs.length + ys.length ≤ sizeLine then .ok (.lst (xs ++ ys)) S else .stk
  | _, _ => .stk
def addM : MV → MV → Sto → R MV
  | .int i, .int j, S => .ok (.int (i + j)) S
  | .str x, .str y, S => if x.length + y.length ≤ sizeLine then .ok (.str (x ++ y)) S else .stk
  | .tup xs, .tup ys, S => if xs.length + ys.length ≤ sizeLine then .ok (.tup (xs ++ ys)) S else .stk
  | a, b, S => addL a b S
theorem addL_of {a b : MV} {S S' : Sto} {d : MV} (h : addL a b S = .ok d S') : ∃ xs ys, lstOf S a = some xs ∧ lstOf S b = some ys ∧ xs.length + ys.length ≤ sizeLine ∧ d = .lst (xs ++ ys) ∧ S' = S := by
  unfold addL at h
  cases ha : lstOf S a with
  | none => rw [ha] at h; cases h
  | some xs =>
    cases hb : lstOf S b with
    | none => rw [ha, hb] at h; cases h
    | some ys =>
      rw [ha, hb] at h
      dsimp only at h
      by_cases hl : xs.length + ys.length ≤ sizeLine
      · rw [if_pos hl] at h; cases h; exact ⟨xs, ys, rfl, rfl, hl, rfl, rfl⟩
      · rw [if_neg hl] at h; cases h
theorem addM_cases {a b : MV} {S S' : Sto} {d : MV} (h : addM a b S = .ok d S') : (∃ i j, a = .int i ∧ b = .int j) ∨ (∃ x y, a = .str x ∧ b = .str y) ∨ (∃ x y, a = .tup x ∧ b = .tup y) ∨ addL a b S = .ok d S' := by
  unfold addM at h
  split at h
  · exact .inl ⟨_, _, rfl, rfl⟩
  · exact .inr (.inl ⟨_, _, rfl, rfl⟩)
  · exact .inr (.inr (.inl ⟨_, _, rfl, rfl⟩))
  · exact .inr (.inr (.inr h))
section
variable {X : Cx}
theorem opM_add : OpR X (binaryOp .Add) (rOf X addM) := by
  intro pins s σ H x y v u Q I rx ry rof
  obtain ⟨C, S, d1, d2, rfl, hw, hK, r, h1, h2, a, S', e, q⟩ := rof
  rcases addM_cases e with ⟨i, j, rfl, rfl⟩ | ⟨i, j, rfl, rfl⟩ | ⟨xs, ys, rfl, rfl⟩ | e
  · cases vInt h1; cases vInt h2
    cases e
    exact op_add pins s σ C.H _ _ v u Q I rx ry ⟨i, j, rfl, rfl, q C Grow.refl r _ (repI _)⟩
  · cases vStr h1; cases vStr h2
    simp only [addM] at e
    split at e
    · cases e
      exact op_add_str pins s σ C.H _ _ v u Q I rx ry ⟨i, j, rfl, rfl, by assumption, q C Grow.refl r _ (repS _)⟩
    · cases e
  · rw [RepV] at h1 h2
    obtain ⟨p1, vs1, rfl, q1, t1⟩ := h1
    obtain ⟨p2, vs2, rfl, q2, t2⟩ := h2
    simp only [addM] at e
    split at e
    · rename_i hl
      cases e
      rw [hK] at q1 q2
      have l1 := t1.length
      have l2 := t2.length
      refine op_catA pins s σ C.H _ _ v u Q I rx ry ⟨p1, p2, vs1, vs2, rfl, rfl, q1, q2, by omega, fun z => ?_, fun z1 z2 => ?_, fun z1 z2 => ?_⟩
      · subst z
        have : xs = [] := List.eq_nil_of_length_eq_zero (by simpa using l1)
        subst this
        exact q C Grow.refl r _ (by rw [RepV]; exact ⟨p2, vs2, rfl, by rw [hK]; exact q2, t2⟩)
      · subst z2
        have : ys = [] := List.eq_nil_of_length_eq_zero (by simpa using l2)
        subst this
        exact q C Grow.refl r _ (by rw [RepV]; exact ⟨p1, vs1, rfl, by rw [hK]; exact q1, by simpa using t1⟩)
      · exact newTup r (t1.append t2) q
    · cases e
  · obtain ⟨xs, ys, ha, hb, hl, rfl, rfl⟩ := addL_of e
    obtain ⟨p1, vs1, rfl, q1, t1⟩ := lstOf_rep r h1 ha
    obtain ⟨p2, vs2, rfl, q2, t2⟩ := lstOf_rep r h2 hb
    have l1 := t1.length
    have l2 := t2.length
    exact op_cat pins s σ C.H _ _ v u Q I rx ry ⟨p1, p2, vs1, vs2, rfl, rfl, q1, q2, by omega, newLst r (t1.append t2) q⟩
def subM : MV → MV → Sto → R MV
  | .int i, .int j, S => .ok (.int (i - j)) S
  | _, _, _ => .stk
theorem opM_sub : OpR X (binaryOp .Sub) (rOf X subM) := by
  intro pins s σ H x y v u Q I rx ry rof
  obtain ⟨C, S, d1, d2, rfl, hw, hK, r, h1, h2, a, S', e, q⟩ := rof
  unfold subM at e
  split at e
  · cases vInt h1; cases vInt h2; cases e
    exact op_sub pins s σ C.H _ _ v u Q I rx ry ⟨_, _, rfl, rfl, q C Grow.refl r _ (repI _)⟩
  · cases e
def modM : MV → MV → Sto → R MV
  | .int i, .int j, S => if 0 < j then .ok (.int (i % j)) S else .stk
  | _, _, _ => .stk
theorem opM_mod : OpR X (binaryOp .Mod) (rOf X modM) := by
  intro pins s σ H x y v u Q I rx ry rof
  obtain ⟨C, S, d1, d2, rfl, hw, hK, r, h1, h2, a, S', e, q⟩ := rof
  unfold modM at e
  split at e
  · split at e
    · cases vInt h1; cases vInt h2; cases e
      exact op_mod pins s σ C.H _ _ v u Q I rx ry ⟨_, _, rfl, rfl, by assumption, q C Grow.refl r _ (repI _)⟩
    · cases e
  · cases e
def fdivM : MV → MV → Sto → R MV
  | .int i, .int j, S => if 0 < j ∧ j < 1073741824 then .ok (.int (i / j)) S else .stk
  | _, _, _ => .stk
theorem opM_fdiv : OpR X (binaryOp .FloorDiv) (rOf X fdivM) := by
  intro pins s σ H x y v u Q I rx ry rof
  obtain ⟨C, S, d1, d2, rfl, hw, hK, r, h1, h2, a, S', e, q⟩ := rof
  unfold fdivM at e
  split at e
  · split at e
    · cases vInt h1; cases vInt h2; cases e
      exact op_fdiv pins s σ C.H _ _ v u Q I rx ry ⟨_, _, rfl, rfl, by assumption, q C Grow.refl r _ (repI _)⟩
    · cases e
  · cases e
def powM : MV → MV → Sto → R MV
  | .int i, .int j, S => if 0 ≤ j ∧ j ≤ 1000 ∧ i.natAbs < 1000 then .ok (.int (i ^ j.toNat)) S else .stk
  | _, _, _ => .stk
theorem opM_pow : OpR X (binaryOp .Pow) (rOf X powM) := by
  intro pins s σ H x y v u Q I rx ry rof
  obtain ⟨C, S, d1, d2, rfl, hw, hK, r, h1, h2, a, S', e, q⟩ := rof
  unfold powM at e
  split at e
  · split at e
    · cases vInt h1; cases vInt h2; cases e
      refine op_pow pins s σ C.H _ _ v u Q I rx ry ⟨_, _, rfl, rfl, ⟨by omega, by omega, ?_⟩, q C Grow.refl r _ (repI _)⟩
      exact Nat.lt_trans (by omega : _ < 1000) (by decide)
    · cases e
  · cases e
/-- t * 1 is t -/
theorem tuple_mul1 (l : Addr) (items : Array Value) (n : Nat) (dd : Option Addr) (sl : Array (Option Value)) (u : Tok) :
    Meets (Builtin.«tuple.__mul__» ⟨[.ref l, .int 1 u], []⟩) (fun _ R s => s.heap.get? l = some { cls := .type "tuple", dict := dd, data := .seq items n, slots := sl } ∧
      R (.ok (.ret (Value.ref l))) s) :=
  .of_wp fun prog w A R st hyp => by
    obtain ⟨hp, gs, dr, tk, os⟩ := st
    obtain ⟨hl, h⟩ := hyp
    have f1 := AutoSeq1.idx_int
    wp_walk using AutoSeq1.wpAny_loadPart' hl
    repeat (first
      | (refine wpAny_ite_true (by simp) ?_; wp_walk using AutoSeq1.wpAny_loadPart' hl)
      | (refine wpAny_ite_false (by simp) ?_; wp_walk using AutoSeq1.wpAny_loadPart' hl))
    exact ⟨_, rfl, h⟩
end
end Mi
set_option Elab.async false
set_option linter.all false
set_option maxRecDepth 100000
set_option maxHeartbeats 2000000
namespace Mi
open PySem PySem.Spec PyProof.Rows L2
def repM (xs : List MV) (k : Int) : List MV := (List.replicate k.toNat xs).flatten
def mulM : MV → MV → Sto → R MV
  | .int i, .int j, S => if -(2 ^ 64) < j ∧ j < 2 ^ 64 then .ok (.int (i * j)) S else .stk
  | .tup xs, .int k, S => if xs.isEmpty = false ∧ 1 ≤ k ∧ k ≤ 1000 ∧ xs.length ≤ 1000 then .ok (.tup (repM xs k)) S else .stk
  | d, .int k, S => match lstOf S d with
    | some xs => if 0 ≤ k ∧ k ≤ 1000 ∧ xs.length ≤ 1000 then .ok (.lst (repM xs k)) S else .stk
    | none => .stk
  | _, _, _ => .stk
section
variable {X : Cx}
theorem op_rep1 {pins : List (Addr × Obj)} {s : Shared} {σ : L2.St} {H : Hp} {v u : Value} {Q : VK} {l : Addr} {xs : List V} (I : Inv X pins σ H s) (rx : RelV (.ref l) v) (ry : RelV (.int 1) u) (hT : SqT X.K H l xs) (q : Q (.ref l) H) :
    wpAny (model X.prog X.w) X.A (binaryOp .Mult v u) (EP X pins σ Q) X.xe s := by
  cases rx
  obtain ⟨t, rfl⟩ := ry
  obtain ⟨its, r, ⟨ot, ho, hc, n, hd⟩, hs⟩ := I.tuple hT
  obtain ⟨cls, dd, data, sl⟩ := ot
  simp only at hc hd
  subst hc hd
  exact wpAny_binaryOp_repeat_ref (T := "tuple") (U := "int") (by decide) ⟨_, ho, rfl⟩ (fun s' => typeIs_int s' 1 t) noFill_tuple_mul F.fills_int_mul F.slot_int_rmul repeat_tuple F.slot_int_index.lookup
    (call_meets F.slot_int_rmul (typeIs_int s 1 t) F.entry_int_rmul (F.args_int_rmul_2 _ _) (int_rmul_tuple 1 t l its.toArray n dd sl)
      ⟨ho, rfl, ⟨_, ho, rfl⟩, call_meets F.slot_tuple_mul ⟨_, ho, rfl⟩ F.entry_tuple_mul (F.args_tuple_mul_2 _ _) (tuple_mul1 l its.toArray n dd sl t) ⟨ho, ⟨.ref l, H, I, rfl, q⟩⟩⟩)
theorem repM_one (xs : List MV) : repM xs 1 = xs := by simp [repM]
theorem opM_mul : OpR X (binaryOp .Mult) (rOf X mulM) := by
  intro pins s σ H x y v u Q I rx ry rof
  obtain ⟨C, S, d1, d2, rfl, hw, hK, r, h1, h2, a, S', e, q⟩ := rof
  unfold mulM at e
  split at e
  · split at e
    · cases vInt h1; cases vInt h2; cases e
      exact op_mul pins s σ C.H _ _ v u Q I rx ry ⟨_, _, rfl, rfl, .inr (by assumption), q C Grow.refl r _ (repI _)⟩
    · cases e
  · rename_i xs k
    split at e
    · rename_i hc
      cases e
      cases vInt h2
      obtain ⟨hne, hk1, hk2, hl⟩ := hc
      have h0 := h1
      rw [RepV] at h1
      obtain ⟨p1, vs1, rfl, q1, t1⟩ := h1
      rw [hK] at q1
      have l1 := t1.length
      by_cases hk : k = 1
      · subst hk
        rw [repM_one] at q
        exact op_rep1 I rx ry q1 (q C Grow.refl r _ h0)
      · refine op_repT pins s σ C.H _ _ v u Q I rx ry ⟨p1, k, vs1, rfl, rfl, q1, ?_, by omega, hk2, by omega, newTup r (t1.flatRep k.toNat) q⟩
        intro z; subst z
        have : xs = [] := List.eq_nil_of_length_eq_zero (by simpa using l1)
        subst this; simp at hne
    · cases e
  · rename_i k _ _
    cases ha : lstOf S d1 with
    | none => rw [ha] at e; cases e
    | some xs =>
      rw [ha] at e
      dsimp only at e
      split at e
      · rename_i hc
        obtain ⟨hk1, hk2, hl⟩ := hc
        cases e
        cases vInt h2
        obtain ⟨p1, vs1, rfl, q1, t1⟩ := lstOf_rep r h1 ha
        have l1 := t1.length
        refine op_rep pins s σ C.H _ _ v u Q I rx ry ⟨p1, k, vs1, rfl, rfl, q1, by omega, by omega, ?_, newLst r (t1.flatRep k.toNat) q⟩
        rw [sizeLine_eq]
        have := Nat.mul_le_mul (show vs1.length ≤ 1000 by omega) (show k.toNat ≤ 1000 by omega)
        omega
      · cases e
  · cases e
end
def pdF : Nat → Sto → MV → PyData
  | 0, _, _ => .dict []
  | _ + 1, _, .non => .none
  | _ + 1, _, .bl b => .bool b
  | _ + 1, _, .int i => .int i
  | _ + 1, _, .str x => .str x
  | n + 1, S, .tup xs => .tuple (xs.map (pdF n S))
  | n + 1, S, .lst xs => .list (xs.map (pdF n S))
  | n + 1, S, .ref k => match S[k]? with
    | some (.lst xs) => .list (xs.map (pdF n S))
    | _ => .dict []
  | _ + 1, _, _ => .dict []
theorem pdF_dp {C : RC} {S : Sto} (r : RepS C S) : ∀ (n : Nat) (d : MV) (v : V), RepV C d v → (pdF n S d).canLay0 = true → Dp C.K C.H v (pdF n S d) := by
  intro n
  induction n with
  | zero => intro d v _ h; simp [pdF, PyData.canLay0] at h
  | succ n ih =>
    have all : ∀ (xs : List MV) (vs : List V), RepVs C xs vs → PyData.canLayAll0 (xs.map (pdF n S)) = true → DpAll C.K C.H vs (xs.map (pdF n S)) := by
      intro xs
      induction xs with
      | nil => intro vs h _; rw [h.nil_inv]; exact .nil
      | cons x xs ihx =>
        intro vs h c
        obtain ⟨v, vr, rfl, h1, h2⟩ := h.cons_inv
        rw [List.map_cons] at c ⊢
        have c' : (pdF n S x).canLay0 = true ∧ PyData.canLayAll0 (xs.map (pdF n S)) = true := by simpa [PyData.canLayAll0] using c
        exact .cons (ih x v h1 c'.1) (ihx vr h2 c'.2)
    intro d v h c
    cases d with
    | non => rw [vNon h]; exact .non
    | bl b => rw [vBl h]; exact .bl b
    | int i => rw [vInt h]; exact .int i
    | str x => rw [vStr h]; exact .str x
    | tup xs =>
      rw [RepV] at h
      obtain ⟨a, vs, rfl, q, t⟩ := h
      exact .tup q (all xs vs t (by simpa [pdF, PyData.canLay0] using c))
    | lst xs =>
      rw [RepV] at h
      obtain ⟨a, vs, rfl, _, q, t⟩ := h
      exact .lst (.of q) (all xs vs t (by simpa [pdF, PyData.canLay0] using c))
    | ref k =>
      rw [RepV] at h
      obtain ⟨a, rfl, q⟩ := h
      rw [pdF] at c ⊢
      cases e : S[k]? with
      | none => rw [e] at c; simp [PyData.canLay0] at c
      | some o =>
        rw [e] at c
        cases o with
        | lst xs =>
          obtain ⟨vs, h1, h2⟩ := r.ob k _ a e q
          exact .lst (.of h1) (all xs vs h2 (by simpa [PyData.canLay0] using c))
        | _ => simp [PyData.canLay0] at c
    | _ => simp [pdF, PyData.canLay0] at c
/-- the scalars that == tells apart at once -/
def skind : MV → Nat
  | .non => 0 | .bl _ => 1 | .int _ => 2 | .str _ => 4
  | _ => 100
@[simp] theorem sk_non : skind .non = 0 := rfl
@[simp] theorem sk_bl {b : Bool} : skind (.bl b) = 1 := rfl
@[simp] theorem sk_int {i : Int} : skind (.int i) = 2 := rfl
@[simp] theorem sk_str {x : Str} : skind (.str x) = 4 := rfl
@[simp] theorem sk_tup {x : List MV} : skind (.tup x) = 100 := rfl
@[simp] theorem sk_lst {x : List MV} : skind (.lst x) = 100 := rfl
@[simp] theorem sk_ptp {x : List MV} : skind (.ptp x) = 100 := rfl
@[simp] theorem sk_kls {x : List MV} : skind (.kls x) = 100 := rfl
@[simp] theorem sk_ref {n : Nat} : skind (.ref n) = 100 := rfl
@[simp] theorem sk_obj {c : Str} {f : List Str} {x : List MV} : skind (.obj c f x) = 100 := rfl
@[simp] theorem sk_dct {k : List Key} {x : List MV} : skind (.dct k x) = 100 := rfl
@[simp] theorem sk_dcT {k x : List MV} : skind (.dcT k x) = 100 := rfl
/-- all pairs of scalars but a bool beside an int -/
def scalM (a b : MV) : Bool := let n := skind a + skind b; Nat.blt n 10 && !(n == 3)
def seqM : MV → MV → Bool
  | .non, .non => true
  | .int i, .int j => decide (i = j)
  | .bl i, .bl j => decide (i = j)
  | .str i, .str j => decide (i = j)
  | _, _ => false
def eqB (S : Sto) (a b : MV) : Option Bool :=
  if scalM a b then some (seqM a b)
  else if SeqAt.shaped (pdF 8 S a) && SeqAt.shaped (pdF 8 S b) then some (PyData.eqv (pdF 8 S a) (pdF 8 S b)) else none
def eqM (a b : MV) (S : Sto) : R MV := match eqB S a b with
  | some k => .ok (.bl k) S
  | none => .stk
def neM (a b : MV) (S : Sto) : R MV := match eqB S a b with
  | some k => .ok (.bl (!k)) S
  | none => .stk
theorem scal_rep {C : RC} {a b : MV} {x y : V} (h : scalM a b = true) (ha : RepV C a x) (hb : RepV C b y) : scal x y = true ∧ seqM a b = decide (x = y) := by
  cases a <;> cases b <;> first
    | (simp [scalM, skind, Nat.blt] at h; done)
    | (first
        | rw [vNon ha] | rw [vBl ha] | rw [vInt ha] | rw [vStr ha]
       first
        | rw [vNon hb] | rw [vBl hb] | rw [vInt hb] | rw [vStr hb]
       refine ⟨rfl, ?_⟩
       simp [seqM])
section
variable {X : Cx}
theorem opM_eq (hu : X.A.units + 64 < cLine) : OpR X (compareOp .Eq) (rOf X eqM) := by
  intro pins s σ H x y v u Q I rx ry rof
  obtain ⟨C, S, d1, d2, rfl, hw, hK, r, h1, h2, a, S', e, q⟩ := rof
  unfold eqM at e
  cases eb : eqB S d1 d2 with
  | none => rw [eb] at e; cases e
  | some k =>
    rw [eb] at e; cases e
    unfold eqB at eb
    by_cases hs : scalM d1 d2 = true
    · rw [if_pos hs] at eb; cases eb
      obtain ⟨g1, g2⟩ := scal_rep hs h1 h2
      rw [g2] at q
      exact op_eq pins s σ C.H _ _ v u Q I rx ry ⟨g1, q C Grow.refl r _ (repB _)⟩
    · rw [if_neg hs] at eb
      split at eb
      · rename_i hh
        obtain ⟨z1, z2⟩ := Bool.and_eq_true_iff.mp hh
        cases eb
        refine op_eqD hu pins s σ C.H _ _ v u Q I rx ry ⟨_, _, by rw [← hK]; exact pdF_dp r 8 d1 x h1 (SeqAt.canLay_of_shaped z1), by rw [← hK]; exact pdF_dp r 8 d2 y h2 (SeqAt.canLay_of_shaped z2), z1, z2, q C Grow.refl r _ (repB _)⟩
      · cases eb
theorem opM_ne (hu : X.A.units + 64 < cLine) : OpR X (compareOp .NotEq) (rOf X neM) := by
  intro pins s σ H x y v u Q I rx ry rof
  obtain ⟨C, S, d1, d2, rfl, hw, hK, r, h1, h2, a, S', e, q⟩ := rof
  unfold neM at e
  cases eb : eqB S d1 d2 with
  | none => rw [eb] at e; cases e
  | some k =>
    rw [eb] at e; cases e
    unfold eqB at eb
    by_cases hs : scalM d1 d2 = true
    · rw [if_pos hs] at eb; cases eb
      obtain ⟨g1, g2⟩ := scal_rep hs h1 h2
      rw [g2] at q
      exact op_ne pins s σ C.H _ _ v u Q I rx ry ⟨g1, q C Grow.refl r _ (repB _)⟩
    · rw [if_neg hs] at eb
      split at eb
      · rename_i hh
        obtain ⟨z1, z2⟩ := Bool.and_eq_true_iff.mp hh
        cases eb
        refine op_neD hu pins s σ C.H _ _ v u Q I rx ry ⟨_, _, by rw [← hK]; exact pdF_dp r 8 d1 x h1 (SeqAt.canLay_of_shaped z1), by rw [← hK]; exact pdF_dp r 8 d2 y h2 (SeqAt.canLay_of_shaped z2), z1, z2, q C Grow.refl r _ (repB _)⟩
      · cases eb
/-- is None, is True .. -/
def isB : MV → MV → Option Bool
  | .bl a, .bl b => some (decide (a = b))
  | .non, .non => some true
  | .bl _, .non | .int _, .non | .str _, .non | .tup _, .non | .lst _, .non | .dct _ _, .non | .dcT _ _, .non | .obj _ _ _, .non | .ref _, .non => some false
  | .non, .bl _ => some false
  | _, _ => none
def isM (a b : MV) (S : Sto) : R MV := match isB a b with
  | some k => .ok (.bl k) S
  | none => .stk
def isnM (a b : MV) (S : Sto) : R MV := match isB a b with
  | some k => .ok (.bl (!k)) S
  | none => .stk
theorem isB_rep {C : RC} {a b : MV} {x y : V} {k : Bool} (h : isB a b = some k) (ha : RepV C a x) (hb : RepV C b y) : (y = .non ∧ k = decide (x = .non)) ∨ (∃ i j, x = .bl i ∧ y = .bl j ∧ k = decide (i = j)) ∨ ∃ j, x = .non ∧ y = .bl j ∧ k = false := by
  cases a <;> cases b <;> first
    | (simp [isB] at h; done)
    | (rw [vNon ha, vBl hb]; simp [isB] at h; exact .inr (.inr ⟨_, rfl, rfl, h⟩))
    | (rw [vBl ha, vBl hb]; simp [isB] at h; exact .inr (.inl ⟨_, _, rfl, rfl, h.symm⟩))
    | (refine .inl ⟨vNon hb, ?_⟩
       have h : some _ = some k := h
       cases h
       first
        | (rw [vNon ha]; simp; done)
        | (rw [vBl ha]; simp; done)
        | (rw [vInt ha]; simp; done)
        | (rw [vStr ha]; simp; done)
        | (rw [RepV] at ha
           obtain ⟨a, ha⟩ := ha
           first
            | (obtain ⟨vs, rfl, _⟩ := ha; simp; done)
            | (obtain ⟨rfl, _⟩ := ha; simp; done)
            | (obtain ⟨_, _, rfl, _⟩ := ha; simp; done)))
theorem opM_is : OpR X (compareOp .Is) (rOf X isM) := by
  intro pins s σ H x y v u Q I rx ry rof
  obtain ⟨C, S, d1, d2, rfl, hw, hK, r, h1, h2, a, S', e, q⟩ := rof
  unfold isM at e
  cases eb : isB d1 d2 with
  | none => rw [eb] at e; cases e
  | some k =>
    rw [eb] at e; cases e
    rcases isB_rep eb h1 h2 with ⟨rfl, rfl⟩ | ⟨i, j, rfl, rfl, rfl⟩ | ⟨j, rfl, rfl, rfl⟩
    · exact op_isN pins s σ C.H _ _ v u Q I rx ry ⟨rfl, q C Grow.refl r _ (repB _)⟩
    · exact op_isBl pins s σ C.H _ _ v u Q I rx ry ⟨i, j, rfl, rfl, q C Grow.refl r _ (repB _)⟩
    · cases rx; cases ry
      exact wpAny_is_other rfl (by intro z; cases z) ⟨.bl false, C.H, I, rfl, q C Grow.refl r _ (repB _)⟩
theorem opM_isn : OpR X (compareOp .IsNot) (rOf X isnM) := by
  intro pins s σ H x y v u Q I rx ry rof
  obtain ⟨C, S, d1, d2, rfl, hw, hK, r, h1, h2, a, S', e, q⟩ := rof
  unfold isnM at e
  cases eb : isB d1 d2 with
  | none => rw [eb] at e; cases e
  | some k =>
    rw [eb] at e; cases e
    rcases isB_rep eb h1 h2 with ⟨rfl, rfl⟩ | ⟨i, j, rfl, rfl, rfl⟩ | ⟨j, rfl, rfl, rfl⟩
    · exact op_notN pins s σ C.H _ _ v u Q I rx ry ⟨rfl, q C Grow.refl r _ (repB _)⟩
    · exact op_notBl pins s σ C.H _ _ v u Q I rx ry ⟨i, j, rfl, rfl, q C Grow.refl r _ (repB _)⟩
    · cases rx; cases ry
      exact wpAny_isNot_other rfl (by intro z; cases z) ⟨.bl true, C.H, I, rfl, q C Grow.refl r _ (repB _)⟩
/-- orders of ints -/
def cmpI (f : Int → Int → Bool) : MV → MV → Sto → R MV
  | .int i, .int j, S => .ok (.bl (f i j)) S
  | _, _, _ => .stk
theorem opM_int {op : CmpOp} {f : Int → Int → Bool} (ho : OpR X (compareOp op) (rI0 fun i j => .bl (f i j))) : OpR X (compareOp op) (rOf X (cmpI f)) := by
  intro pins s σ H x y v u Q I rx ry rof
  obtain ⟨C, S, d1, d2, rfl, hw, hK, r, h1, h2, a, S', e, q⟩ := rof
  unfold cmpI at e
  split at e
  · cases vInt h1; cases vInt h2; cases e
    exact ho pins s σ C.H _ _ v u Q I rx ry ⟨_, _, rfl, rfl, q C Grow.refl r _ (repB _)⟩
  · cases e
abbrev ltM := cmpI fun i j => decide (i < j)
abbrev leM := cmpI fun i j => decide (i ≤ j)
abbrev gtM := cmpI fun i j => decide (j < i)
abbrev geM := cmpI fun i j => decide (j ≤ i)
end
end Mi
set_option Elab.async false
set_option linter.all false
set_option maxRecDepth 100000
set_option maxHeartbeats 2000000
namespace Mi
open PySem PySem.Spec PyProof.Rows L2
def keyV : MV → Option Key
  | .int i => some (.inl i)
  | .str x => some (.inr x)
  | _ => none
theorem keyV_rep {C : RC} {d : MV} {v : V} {k : Key} (h : RepV C d v) (e : keyV d = some k) : v = kV k := by
  cases d with
  | int i => cases e; exact vInt h
  | str x => cases e; exact vStr h
  | _ => cases e
def dctOf (S : Sto) : MV → Option (List Key × List MV)
  | .dct ks vs => some (ks, vs)
  | .ref n => match S[n]? with
    | some (.dct ks vs) => some (ks, vs)
    | _ => none
  | _ => none
theorem dctOf_rep {C : RC} {S : Sto} {d : MV} {v : V} {ks : List Key} {ds : List MV} (r : RepS C S) (h : RepV C d v) (e : dctOf S d = some (ks, ds)) :
    ∃ a vs, v = .ref a ∧ Rd C.H a (.dK (ks.zip vs)) ∧ ks.length = vs.length ∧ ks.Nodup ∧ RepVs C ds vs := by
  cases d with
  | dct ks' ds' =>
    cases e
    rw [RepV] at h
    obtain ⟨a, vs, e, _, q, l, nd, t⟩ := h
    exact ⟨a, vs, e, q, l, nd, t⟩
  | ref n =>
    rw [RepV] at h
    obtain ⟨a, e1, e2⟩ := h
    rw [dctOf] at e
    cases q : S[n]? with
    | none => simp [q] at e
    | some o =>
      rw [q] at e
      cases o with
      | dct ks' ds' =>
        cases e
        obtain ⟨vs, h1, l, nd, h2⟩ := r.ob n _ a q e2
        exact ⟨a, vs, e1, .inl h1, l, nd, h2⟩
      | _ => cases e
  | _ => cases e
/-- what a dict holds -/
def dlook {κ : Type} [DecidableEq κ] : List κ → List MV → κ → Option MV
  | k' :: ks, v :: vs, k => if k' = k then some v else dlook ks vs k
  | _, _, _ => none
theorem dlook_rep {C : RC} {k : Key} : ∀ {ks : List Key} {ds : List MV} {vs : List V}, RepVs C ds vs →
    (∀ d, dlook ks ds k = some d → ∃ v, valV (ks.zip vs) k = some v ∧ RepV C d v) ∧ (dlook ks ds k = none → valV (ks.zip vs) k = none)
  | [], ds, vs, _ => ⟨fun d e => by simp [dlook] at e, fun _ => by simp [valV]⟩
  | k' :: ks, [], vs, t => by rw [t.nil_inv]; exact ⟨fun d e => by simp [dlook] at e, fun _ => by simp [valV]⟩
  | k' :: ks, d' :: ds, vs, t => by
    obtain ⟨v, vr, rfl, h1, h2⟩ := t.cons_inv
    rw [List.zip_cons_cons]
    by_cases e : k' = k
    · rw [valV_pos (p := (k', v)) e]
      simp only [dlook, if_pos e]
      exact ⟨fun d q => by cases q; exact ⟨v, rfl, h1⟩, fun q => by cases q⟩
    · rw [valV_neg (p := (k', v)) e]
      simp only [dlook, if_neg e]
      exact dlook_rep h2
def dsetV {κ : Type} [DecidableEq κ] : List κ → List MV → κ → MV → List MV
  | k' :: ks, v :: vs, k, d => (if k' = k then d else v) :: dsetV ks vs k d
  | _, vs, _, _ => vs
def dput {κ : Type} [DecidableEq κ] (ks : List κ) (vs : List MV) (k : κ) (d : MV) : List κ × List MV :=
  if k ∈ ks then (ks, dsetV ks vs k d) else (ks ++ [k], vs ++ [d])
def vsetV {κ : Type} [DecidableEq κ] : List κ → List V → κ → V → List V
  | k' :: ks, v :: vs, k, d => (if k' = k then d else v) :: vsetV ks vs k d
  | _, vs, _, _ => vs
theorem vsetV_len {κ : Type} [DecidableEq κ] (k : κ) (d : V) : ∀ (ks : List κ) (vs : List V), (vsetV ks vs k d).length = vs.length
  | [], vs => rfl
  | _ :: _, [] => rfl
  | k' :: ks, v :: vs => by simp [vsetV, vsetV_len k d ks vs]
theorem dsetV_rep {κ : Type} [DecidableEq κ] {C : RC} {k : κ} {d : MV} {v : V} (q : RepV C d v) : ∀ {ks : List κ} {ds : List MV} {vs : List V}, RepVs C ds vs → RepVs C (dsetV ks ds k d) (vsetV ks vs k v)
  | [], ds, vs, t => t
  | k' :: ks, [], vs, t => by rw [t.nil_inv]; exact .nil
  | k' :: ks, d' :: ds, vs, t => by
    obtain ⟨u, vr, rfl, h1, h2⟩ := t.cons_inv
    simp only [dsetV, vsetV]
    by_cases e : k' = k
    · rw [if_pos e, if_pos e]; exact .cons q (dsetV_rep q h2)
    · rw [if_neg e, if_neg e]; exact .cons h1 (dsetV_rep q h2)
theorem zip_map_set {κ : Type} [DecidableEq κ] (k : κ) (y : V) : ∀ (ks : List κ) (vs : List V), (ks.zip vs).map (fun kv => if kv.1 = k then (kv.1, y) else kv) = ks.zip (vsetV ks vs k y)
  | [], vs => by simp
  | k' :: ks, [] => by simp [vsetV]
  | k' :: ks, v :: vs => by
    rw [List.zip_cons_cons, List.map_cons, zip_map_set k y ks vs, vsetV, List.zip_cons_cons]
    by_cases e : k' = k
    · simp [e]
    · simp [e]
theorem any_zip {κ : Type} [DecidableEq κ] (k : κ) : ∀ (ks : List κ) (vs : List V), ks.length = vs.length → ((ks.zip vs).any fun kv => decide (kv.1 = k)) = decide (k ∈ ks)
  | [], vs, _ => by simp
  | k' :: ks, [], l => by simp at l
  | k' :: ks, v :: vs, l => by
    rw [List.zip_cons_cons, List.any_cons, any_zip k ks vs (by simpa using l)]
    by_cases e : k' = k
    · simp [e]
    · have e' : ¬ k = k' := fun z => e z.symm
      simp [e, e']
/-- the dict behind a store -/
theorem dput_rep {C : RC} {ks ks' : List Key} {ds ds' : List MV} {k : Key} {d : MV} {v : V} {vs : List V} (t : RepVs C ds vs) (l : ks.length = vs.length) (nd : ks.Nodup) (q : RepV C d v) (e : dput ks ds k d = (ks', ds')) :
    ∃ vs', putK (ks.zip vs) k v = ks'.zip vs' ∧ ks'.length = vs'.length ∧ ks'.Nodup ∧ RepVs C ds' vs' := by
  unfold dput at e
  unfold putK
  rw [any_zip k ks vs l]
  by_cases hm : k ∈ ks
  · rw [if_pos hm] at e; cases e
    rw [if_pos (by simp [hm])]
    exact ⟨vsetV ks vs k v, zip_map_set k v ks vs, by rw [vsetV_len]; exact l, nd, dsetV_rep q t⟩
  · rw [if_neg hm] at e; cases e
    rw [if_neg (by simp [hm])]
    refine ⟨vs ++ [v], ?_, by simp [l], ?_, t.append (.cons q .nil)⟩
    · rw [List.zip_append l]; simp
    · rw [List.nodup_append]
      refine ⟨nd, by simp, fun x hx y hy => ?_⟩
      have : y = k := by simpa using hy
      subst this
      intro z; subst z; exact hm hx
theorem dput_len {C : RC} {ks ks' : List Key} {ds ds' : List MV} {k : Key} {d : MV} (e : dput ks ds k d = (ks', ds')) : ks'.length ≤ ks.length + 1 := by
  unfold dput at e
  split at e
  · cases e; omega
  · cases e; simp
def idxD (d i : MV) (S : Sto) : R MV := match dctOf S d, keyV i with
  | some (ks, ds), some k => match dlook ks ds k with
    | some x => .ok x S
    | none => .stk
  | _, _ => .stk
def idxM (d i : MV) (S : Sto) : R MV := match seqOf S d with
  | some xs => match i with
    | .int k => match atI xs k with
      | some x => .ok x S
      | none => .stk
    | _ => .stk
  | none => idxD d i S
theorem atI_rep {C : RC} {ds : List MV} {vs : List V} {k : Int} {d : MV} (t : RepVs C ds vs) (e : atI ds k = some d) : ∃ v, atI vs k = some v ∧ RepV C d v := by
  unfold atI at e ⊢
  rw [← t.length]
  cases q : ixN ds.length k with
  | none => simp [q] at e
  | some j =>
    rw [q] at e
    obtain ⟨v, h1, h2⟩ := t.get (i := j) e
    exact ⟨v, h1, h2⟩
theorem idxM_cases {d i : MV} {S S' : Sto} {x : MV} (h : idxM d i S = .ok x S') : S' = S ∧ ((∃ xs k, seqOf S d = some xs ∧ i = .int k ∧ atI xs k = some x) ∨ ∃ ks ds k, dctOf S d = some (ks, ds) ∧ keyV i = some k ∧ dlook ks ds k = some x) := by
  unfold idxM at h
  cases hs : seqOf S d with
  | some xs =>
    rw [hs] at h
    cases i with
    | int k =>
      dsimp only at h
      cases q : atI xs k with
      | none => rw [q] at h; cases h
      | some y => rw [q] at h; cases h; exact ⟨rfl, .inl ⟨xs, k, rfl, rfl, q⟩⟩
    | _ => cases h
  | none =>
    rw [hs] at h
    dsimp only at h
    unfold idxD at h
    cases e1 : dctOf S d with
    | none => rw [e1] at h; cases h
    | some p =>
      obtain ⟨ks, ds⟩ := p
      cases e2 : keyV i with
      | none => rw [e1, e2] at h; cases h
      | some k =>
        rw [e1, e2] at h
        dsimp only at h
        cases q : dlook ks ds k with
        | none => rw [q] at h; cases h
        | some y => rw [q] at h; cases h; exact ⟨rfl, .inr ⟨ks, ds, k, rfl, rfl, q⟩⟩
section
variable {X : Cx}
theorem ixM (hu : X.A.units + 1 < cLine) : IxR X (rOf X idxM) := by
  intro value slice pins s σ H x y v u Q I rx ry rof hs
  obtain ⟨C, S, d1, d2, rfl, hw, hK, r, h1, h2, a, S', e, q⟩ := rof
  obtain ⟨rfl, ⟨xs, k, e1, rfl, e3⟩ | ⟨ks, ds, k, e1, e2, e3⟩⟩ := idxM_cases e
  · cases vInt h2
    obtain ⟨p, vs, rfl, sq, t⟩ := seqOf_rep r h1 e1
    obtain ⟨z, hz, rz⟩ := atI_rep t e3
    rw [hK] at sq
    rcases sq with sq | sq
    · exact ix_list value slice pins s σ C.H _ _ v u Q I rx ry ⟨p, vs, k, z, rfl, rfl, sq, hz, q C Grow.refl r z rz⟩ hs
    · exact ix_tup value slice pins s σ C.H _ _ v u Q I rx ry ⟨p, vs, k, z, rfl, rfl, sq, hz, q C Grow.refl r z rz⟩ hs
  · have ek := keyV_rep h2 e2
    subst ek
    obtain ⟨p, vs, rfl, rd, l, nd, t⟩ := dctOf_rep r h1 e1
    obtain ⟨z, hz, rz⟩ := (dlook_rep (ks := ks) t).1 a e3
    cases rx
    have g : DGet C.H p (kV k) (some z) := .inl ⟨_, k, rd, rfl, hz.symm⟩
    exact tail_any (dict_typeIs I g) PySem.F.slot_dict_getitem.lookup (d_getItem hu I g ry fun w' s' I' rw' => ⟨z, C.H, I', rw', q C Grow.refl r z rz⟩) hs
end
def cutM (xs : List MV) (lo hi : Option Int) : List MV := (xs.drop (HT.sIx xs.length 0 lo)).take (HT.sIx xs.length xs.length hi - HT.sIx xs.length 0 lo)
def slcM (d : MV) (lo hi : Option Int) (S : Sto) : R MV := match d with
  | .tup xs => .ok (.tup (cutM xs lo hi)) S
  | .str z => if z.length ≤ sizeLine then .ok (.str (cutS z lo hi)) S else .stk
  | d => match lstOf S d with
    | some xs => .ok (.lst (cutM xs lo hi)) S
    | none => .stk
def rSlM (X : Cx) : V → Option Int → Option Int → Hp → VK → Prop := fun x lo hi H Q => ∃ C S d, C.H = H ∧ C.w = X.w ∧ C.K = X.K ∧ RepS C S ∧ RepV C d x ∧ ∃ a S', slcM d lo hi S = .ok a S' ∧ ∀ C', Grow C C' → RepS C' S' → ∀ v, RepV C' a v → Q v C'.H
theorem cut_rep {C : RC} {ds : List MV} {vs : List V} (t : RepVs C ds vs) (lo hi : Option Int) : RepVs C (cutM ds lo hi) (cutV vs lo hi) := by
  unfold cutM cutV
  rw [← t.length]
  exact (t.drop _).take _
theorem cutM_all {xs : List MV} {lo hi : Option Int} (h : HT.sIx xs.length 0 lo = 0 ∧ HT.sIx xs.length xs.length hi = xs.length) : cutM xs lo hi = xs := by
  unfold cutM
  rw [h.1, h.2]; simp
theorem slM {X : Cx} : SlR X (rSlM X) := by
  intro pins s σ H x v vl vu lo hi sl Q I rx hs pl pu rof
  obtain ⟨C, S, d, rfl, hw, hK, r, h1, a, S', e, q⟩ := rof
  unfold slcM at e
  split at e
  · cases e
    have h0 := h1
    rw [RepV] at h1
    obtain ⟨p, vs, rfl, sq, t⟩ := h1
    rw [hK] at sq
    refine sl_tupA pins s σ C.H _ v vl vu lo hi sl Q I rx hs pl pu ⟨p, vs, rfl, sq, fun z => ?_, fun z => newTup r (cut_rep t lo hi) q⟩
    rw [← t.length] at z
    rw [cutM_all z] at q
    exact q C Grow.refl r _ h0
  · split at e
    · cases e
      cases vStr h1
      exact sl_str pins s σ C.H _ v vl vu lo hi sl Q I rx hs pl pu ⟨_, rfl, by assumption, q C Grow.refl r _ (repS _)⟩
    · cases e
  · cases el : lstOf S d with
    | none => rw [el] at e; cases e
    | some xs =>
      rw [el] at e; cases e
      obtain ⟨p, vs, rfl, sq, t⟩ := lstOf_rep r h1 el
      exact sl_list pins s σ C.H _ v vl vu lo hi sl Q I rx hs pl pu ⟨p, vs, rfl, .of sq, newLst r (cut_rep t lo hi) q⟩
def inB (S : Sto) (x c : MV) : Option Bool := match dctOf S c with
  | some (ks, ds) => match keyV x with
    | some k => some (dlook ks ds k).isSome
    | none => none
  | none => match pdF 8 S c with
    | .list ds => if SeqAt.shaped (pdF 8 S x) && SeqAt.shaped (.list ds) then some (ds.any fun z => PyData.eqv z (pdF 8 S x)) else none
    | .tuple ds => if SeqAt.shaped (pdF 8 S x) && SeqAt.shaped (.tuple ds) then some (ds.any fun z => PyData.eqv z (pdF 8 S x)) else none
    | _ => none
def inM (a b : MV) (S : Sto) : R MV := match inB S a b with
  | some k => .ok (.bl k) S
  | none => .stk
def ninM (a b : MV) (S : Sto) : R MV := match inB S a b with
  | some k => .ok (.bl (!k)) S
  | none => .stk
theorem room_in_shT {A : Around} {d : PyData} {ds : List PyData} (h : SeqAt.shaped d = true) (hu : A.units + 65 < cLine) : A.units + 1 + min (PyData.depthAll ds) d.depth < cLine := by
  have h1 := SeqAt.depth_of_shaped h
  have h2 : min (PyData.depthAll ds) d.depth ≤ d.depth := Nat.min_le_right _ _
  omega
section
variable {X : Cx}
theorem inB_rep {pins : List (Addr × Obj)} {s : Shared} {σ : L2.St} {C : RC} {S : Sto} {x y : V} {v u : Value} {d1 d2 : MV} {k : Bool} {Q1 Q2 : Value → Shared → Prop} (hu : X.A.units + 65 < cLine) (I : Inv X pins σ C.H s) (rx : RelV x v) (ry : RelV y u)
    (hK : C.K = X.K) (r : RepS C S) (h1 : RepV C d1 x) (h2 : RepV C d2 y) (e : inB S d1 d2 = some k) (q1 : ∀ s', Inv X pins σ C.H s' → Q1 (.bool k) s') (q2 : ∀ s', Inv X pins σ C.H s' → Q2 (.bool (!k)) s') :
    wpAny (model X.prog X.w) X.A (compareOp .In v u) Q1 X.xe s ∧ wpAny (model X.prog X.w) X.A (compareOp .NotIn v u) Q2 X.xe s := by
  unfold inB at e
  cases ed : dctOf S d2 with
  | some p =>
    obtain ⟨ks, ds⟩ := p
    rw [ed] at e
    dsimp only at e
    cases ek : keyV d1 with
    | none => rw [ek] at e; cases e
    | some key =>
      rw [ek] at e
      dsimp only at e
      have e' : (dlook ks ds key).isSome = k := Option.some.inj e
      have hv := keyV_rep h1 ek
      subst hv
      obtain ⟨p, vs, rfl, rd, l, nd, t⟩ := dctOf_rep r h2 ed
      cases ry
      have hk : (valV (ks.zip vs) key).isSome = k := by
        rw [← e']
        cases q : dlook ks ds key with
        | none => rw [(dlook_rep (ks := ks) t).2 q]; rfl
        | some d => obtain ⟨z, hz, _⟩ := (dlook_rep (ks := ks) t).1 d q; rw [hz]; rfl
      have g : DGet C.H p (kV key) (valV (ks.zip vs) key) := .inl ⟨_, key, rd, rfl, rfl⟩
      refine ⟨d_in (by omega) I g rx fun s' I' => ?_, d_notIn (by omega) I g rx fun s' I' => ?_⟩
      · rw [hk]; exact q1 s' I'
      · rw [hk]; exact q2 s' I'
  | none =>
    rw [ed] at e
    dsimp only at e
    cases ep : pdF 8 S d2 with
    | list ds =>
      rw [ep] at e
      dsimp only at e
      split at e
      · rename_i hh
        obtain ⟨z1, z2⟩ := Bool.and_eq_true_iff.mp hh
        have e' : (ds.any fun z => PyData.eqv z (pdF 8 S d1)) = k := Option.some.inj e
        have D1 := pdF_dp r 8 d1 x h1 (SeqAt.canLay_of_shaped z1)
        have D2 := pdF_dp r 8 d2 y h2 (by rw [ep]; exact SeqAt.canLay_of_shaped z2)
        rw [hK] at D1 D2
        rw [ep] at D2
        obtain ⟨as, r1⟩ := Dp.reads I _ x v D1 rx
        obtain ⟨bs, r2⟩ := Dp.reads I _ y u D2 ry
        have lay := SeqAt.canLay_of_shaped z2
        refine ⟨SeqAt.in_list_reads r2 r1 (by simpa [PyData.canLay0] using lay) (SeqAt.canLay_of_shaped z1) (room_in_shT z1 hu) (by rw [e']; exact q1 s I),
          SeqAt.notIn_list_reads r2 r1 (by simpa [PyData.canLay0] using lay) (SeqAt.canLay_of_shaped z1) (room_in_shT z1 hu) (by rw [e']; exact q2 s I)⟩
      · cases e
    | tuple ds =>
      rw [ep] at e
      dsimp only at e
      split at e
      · rename_i hh
        obtain ⟨z1, z2⟩ := Bool.and_eq_true_iff.mp hh
        have e' : (ds.any fun z => PyData.eqv z (pdF 8 S d1)) = k := Option.some.inj e
        have D1 := pdF_dp r 8 d1 x h1 (SeqAt.canLay_of_shaped z1)
        have D2 := pdF_dp r 8 d2 y h2 (by rw [ep]; exact SeqAt.canLay_of_shaped z2)
        rw [hK] at D1 D2
        rw [ep] at D2
        obtain ⟨as, r1⟩ := Dp.reads I _ x v D1 rx
        obtain ⟨bs, r2⟩ := Dp.reads I _ y u D2 ry
        have lay := SeqAt.canLay_of_shaped z2
        refine ⟨SeqAt.in_tuple_reads r2 r1 (by simpa [PyData.canLay0] using lay) (SeqAt.canLay_of_shaped z1) (room_in_shT z1 hu) (by rw [e']; exact q1 s I),
          SeqAt.notIn_tuple_reads r2 r1 (by simpa [PyData.canLay0] using lay) (SeqAt.canLay_of_shaped z1) (room_in_shT z1 hu) (by rw [e']; exact q2 s I)⟩
      · cases e
    | _ => rw [ep] at e; cases e
theorem opM_in (hu : X.A.units + 65 < cLine) : OpR X (compareOp .In) (rOf X inM) := by
  intro pins s σ H x y v u Q I rx ry rof
  obtain ⟨C, S, d1, d2, rfl, hw, hK, r, h1, h2, a, S', e, q⟩ := rof
  unfold inM at e
  cases eb : inB S d1 d2 with
  | none => rw [eb] at e; cases e
  | some k =>
    rw [eb] at e; cases e
    exact (inB_rep hu I rx ry hK r h1 h2 eb (fun s' I' => ⟨.bl _, C.H, I', rfl, q C Grow.refl r _ (repB _)⟩) (Q2 := fun _ _ => True) (fun s' I' => True.intro)).1
theorem opM_nin (hu : X.A.units + 65 < cLine) : OpR X (compareOp .NotIn) (rOf X ninM) := by
  intro pins s σ H x y v u Q I rx ry rof
  obtain ⟨C, S, d1, d2, rfl, hw, hK, r, h1, h2, a, S', e, q⟩ := rof
  unfold ninM at e
  cases eb : inB S d1 d2 with
  | none => rw [eb] at e; cases e
  | some k =>
    rw [eb] at e; cases e
    exact (inB_rep hu I rx ry hK r h1 h2 eb (Q1 := fun _ _ => True) (fun s' I' => True.intro) (fun s' I' => ⟨.bl _, C.H, I', rfl, q C Grow.refl r _ (repB _)⟩)).2
end
end Mi
set_option Elab.async false
set_option linter.all false
set_option maxRecDepth 100000
set_option maxHeartbeats 2000000
namespace Mi
open PySem PySem.Spec PyProof.Rows L2
/-- a call's reading -/
def rCf (X : Cx) (f : List MV → Sto → R MV) : List V → Hp → VK → Prop := fun vs H Q => ∃ C S ds, C.H = H ∧ C.w = X.w ∧ C.K = X.K ∧ RepS C S ∧ RepVs C ds vs ∧
  ∃ a S', f ds S = .ok a S' ∧ ∀ C', Grow C C' → RepS C' S' → ∀ v, RepV C' a v → Q v C'.H
theorem one_of {C : RC} {d : MV} {vs : List V} (t : RepVs C [d] vs) : ∃ v, vs = [v] ∧ RepV C d v := by
  obtain ⟨v, vr, rfl, h1, h2⟩ := t.cons_inv
  rw [h2.nil_inv]
  exact ⟨v, rfl, h1⟩
theorem two_of {C : RC} {d e : MV} {vs : List V} (t : RepVs C [d, e] vs) : ∃ v u, vs = [v, u] ∧ RepV C d v ∧ RepV C e u := by
  obtain ⟨v, vr, rfl, h1, h2⟩ := t.cons_inv
  obtain ⟨u, rfl, h3⟩ := one_of h2
  exact ⟨v, u, rfl, h1, h3⟩
def lenD (d : MV) (S : Sto) : R MV := match dctOf S d with
  | some (ks, _) => .ok (.int ks.length) S
  | none => match d with
    | .str x => if x.length ≤ sizeLine then .ok (.int x.length) S else .stk
    | _ => .stk
def lenM : List MV → Sto → R MV
  | [d], S => match seqOf S d with
    | some xs => .ok (.int xs.length) S
    | none => lenD d S
  | _, _ => .stk
section
variable {X : Cx}
theorem crM_len : CallR X (.builtin "len") (rCf X lenM) := by
  intro pins s σ H vs us Q I rv h
  obtain ⟨C, S, ds, rfl, hw, hK, r, t, a, S', e, q⟩ := h
  unfold lenM at e
  split at e
  · rename_i d
    obtain ⟨v, rfl, h1⟩ := one_of t
    cases hs : seqOf S d with
    | some xs =>
      rw [hs] at e; cases e
      obtain ⟨p, ws, rfl, sq, tt⟩ := seqOf_rep r h1 hs
      rw [hK] at sq
      have l := tt.length
      refine call_len pins s σ C.H _ us Q I rv ⟨.ref p, ws.length, rfl, ?_, ?_⟩
      · rcases sq with sq | sq
        · exact .inl ⟨ws, sq, rfl⟩
        · exact .inr ⟨ws, sq, rfl⟩
      · rw [← l]; exact q C Grow.refl r _ (repI _)
    | none =>
      rw [hs] at e
      dsimp only at e
      unfold lenD at e
      cases hd : dctOf S d with
      | some p =>
        obtain ⟨ks, es⟩ := p
        rw [hd] at e; cases e
        obtain ⟨p, ws, rfl, rd, l, nd, tt⟩ := dctOf_rep r h1 hd
        obtain ⟨u, rfl, ru⟩ := vals1 rv
        cases ru
        refine d_len I rd fun tk s' I' => ⟨.int ks.length, C.H, I', ⟨tk, ?_⟩, q C Grow.refl r _ (repI _)⟩
        simp [List.length_zip, l]
      | none =>
        rw [hd] at e
        dsimp only at e
        split at e
        · split at e
          · cases e
            cases vStr h1
            exact call_len pins s σ C.H _ us Q I rv ⟨_, _, rfl, ⟨by assumption, rfl⟩, q C Grow.refl r _ (repI _)⟩
          · cases e
        · cases e
  · cases e
def intM : List MV → Sto → R MV
  | [.int i], S => .ok (.int i) S
  | [.bl b], S => .ok (.int (if b then 1 else 0)) S
  | _, _ => .stk
theorem crM_int : CallR X (.type "int") (rCf X intM) := by
  intro pins s σ H vs us Q I rv h
  obtain ⟨C, S, ds, rfl, hw, hK, r, t, a, S', e, q⟩ := h
  unfold intM at e
  split at e
  · cases e
    obtain ⟨v, rfl, h1⟩ := one_of t
    cases vInt h1
    exact call_int1 pins s σ C.H _ us Q I rv (.inl ⟨_, rfl, q C Grow.refl r _ (repI _)⟩)
  · cases e
    obtain ⟨v, rfl, h1⟩ := one_of t
    cases vBl h1
    exact call_int1 pins s σ C.H _ us Q I rv (.inr ⟨_, rfl, q C Grow.refl r _ (repI _)⟩)
  · cases e
def tupM : List MV → Sto → R MV
  | [d], S => match seqOf S d with
    | some xs => .ok (.tup xs) S
    | none => .stk
  | _, _ => .stk
theorem crM_tuple : CallR X (.type "tuple") (rCf X tupM) := by
  intro pins s σ H vs us Q I rv h
  obtain ⟨C, S, ds, rfl, hw, hK, r, t, a, S', e, q⟩ := h
  unfold tupM at e
  split at e
  · rename_i d
    obtain ⟨v, rfl, h1⟩ := one_of t
    cases hs : seqOf S d with
    | some xs =>
      rw [hs] at e; cases e
      obtain ⟨p, ws, rfl, sq, tt⟩ := seqOf_rep r h1 hs
      refine call_tuple_of pins s σ C.H _ us Q I rv ⟨p, ws, rfl, ?_⟩
      rcases sq with sq | sq
      · exact .inl ⟨by rw [← hK]; exact sq, newTup r tt q⟩
      · exact .inr ⟨by rw [← hK]; exact sq, q C Grow.refl r _ (by rw [RepV]; exact ⟨p, ws, rfl, sq, tt⟩)⟩
    | none => rw [hs] at e; cases e
  · cases e
/-- list(x), not to be written | a cell -/
def lstM (fr : Bool) : List MV → Sto → R MV
  | [d], S => match seqOf S d with
    | some xs => if fr then .ok (.lst xs) S else .ok (.ref S.length) (S ++ [.lst xs])
    | none => .stk
  | _, _ => .stk
theorem crM_list (fr : Bool) : CallR X (.type "list") (rCf X (lstM fr)) := by
  intro pins s σ H vs us Q I rv h
  obtain ⟨C, S, ds, rfl, hw, hK, r, t, a, S', e, q⟩ := h
  unfold lstM at e
  split at e
  · rename_i d
    obtain ⟨v, rfl, h1⟩ := one_of t
    cases hs : seqOf S d with
    | some xs =>
      rw [hs] at e
      dsimp only at e
      obtain ⟨p, ws, rfl, sq, tt⟩ := seqOf_rep r h1 hs
      rw [hK] at sq
      refine call_list_of pins s σ C.H _ us Q I rv ⟨p, ws, rfl, sq, ?_⟩
      cases fr with
      | true => cases e; exact newLst r tt q
      | false => cases e; exact newCell r tt q
    | none => rw [hs] at e; cases e
  · cases e
def allBl : List MV → Option (List Bool)
  | [] => some []
  | .bl b :: r => (allBl r).map (b :: ·)
  | _ => none
theorem allBl_rep {C : RC} : ∀ {ds : List MV} {vs : List V} {bs : List Bool}, RepVs C ds vs → allBl ds = some bs → vs = bs.map V.bl
  | [], vs, bs, t, e => by rw [t.nil_inv]; cases e; rfl
  | d :: ds, vs, bs, t, e => by
    obtain ⟨v, vr, rfl, h1, h2⟩ := t.cons_inv
    cases d with
    | bl b =>
      rw [allBl] at e
      obtain ⟨bs', e1, rfl⟩ := Option.map_eq_some_iff.mp e
      rw [vBl h1, allBl_rep h2 e1]; rfl
    | _ => cases e
def allIn : List MV → Option (List Int)
  | [] => some []
  | .int b :: r => (allIn r).map (b :: ·)
  | _ => none
theorem allIn_rep {C : RC} : ∀ {ds : List MV} {vs : List V} {bs : List Int}, RepVs C ds vs → allIn ds = some bs → vs = bs.map V.int
  | [], vs, bs, t, e => by rw [t.nil_inv]; cases e; rfl
  | d :: ds, vs, bs, t, e => by
    obtain ⟨v, vr, rfl, h1, h2⟩ := t.cons_inv
    cases d with
    | int b =>
      rw [allIn] at e
      obtain ⟨bs', e1, rfl⟩ := Option.map_eq_some_iff.mp e
      rw [vInt h1, allIn_rep h2 e1]; rfl
    | _ => cases e
def overBl (f : List Bool → Bool) : List MV → Sto → R MV
  | [d], S => match lstOf S d with
    | some xs => match allBl xs with
      | some bs => .ok (.bl (f bs)) S
      | none => .stk
    | none => .stk
  | _, _ => .stk
abbrev anyM := overBl fun bs => bs.any id
abbrev allM := overBl fun bs => bs.all id
theorem overBl_of {f : List Bool → Bool} {C : RC} {S S' : Sto} {ds : List MV} {vs : List V} {a : MV} (r : RepS C S) (t : RepVs C ds vs) (e : overBl f ds S = .ok a S') :
    ∃ p bs, vs = [.ref p] ∧ SqL C.K C.H p (bs.map V.bl) ∧ a = .bl (f bs) ∧ S' = S := by
  unfold overBl at e
  split at e
  · rename_i d
    obtain ⟨v, rfl, h1⟩ := one_of t
    cases hs : lstOf S d with
    | none => rw [hs] at e; cases e
    | some xs =>
      rw [hs] at e
      dsimp only at e
      cases hb : allBl xs with
      | none => rw [hb] at e; cases e
      | some bs =>
        rw [hb] at e; cases e
        obtain ⟨p, ws, rfl, sq, tt⟩ := lstOf_rep r h1 hs
        rw [allBl_rep tt hb] at sq
        exact ⟨p, bs, rfl, .of sq, rfl, rfl⟩
  · cases e
theorem crM_any (hc : X.calm = true) : CallR X (.builtin "any") (rCf X anyM) := by
  intro pins s σ H vs us Q I rv h
  obtain ⟨C, S, ds, rfl, hw, hK, r, t, a, S', e, q⟩ := h
  obtain ⟨p, bs, rfl, sq, rfl, rfl⟩ := overBl_of r t e
  rw [hK] at sq
  exact cr_any hc pins s σ C.H _ us Q I rv ⟨p, bs, rfl, sq, q C Grow.refl r _ (repB _)⟩
theorem crM_all (hc : X.calm = true) : CallR X (.builtin "all") (rCf X allM) := by
  intro pins s σ H vs us Q I rv h
  obtain ⟨C, S, ds, rfl, hw, hK, r, t, a, S', e, q⟩ := h
  obtain ⟨p, bs, rfl, sq, rfl, rfl⟩ := overBl_of r t e
  rw [hK] at sq
  exact cr_all hc pins s σ C.H _ us Q I rv ⟨p, bs, rfl, sq, q C Grow.refl r _ (repB _)⟩
def sumM : List MV → Sto → R MV
  | [d], S => match lstOf S d with
    | some xs => match allIn xs with
      | some bs => .ok (.int bs.sum) S
      | none => .stk
    | none => .stk
  | _, _ => .stk
theorem crM_sum (hc : X.calm = true) : CallR X (.builtin "sum") (rCf X sumM) := by
  intro pins s σ H vs us Q I rv h
  obtain ⟨C, S, ds, rfl, hw, hK, r, t, a, S', e, q⟩ := h
  unfold sumM at e
  split at e
  · rename_i d
    obtain ⟨v, rfl, h1⟩ := one_of t
    cases hs : lstOf S d with
    | none => rw [hs] at e; cases e
    | some xs =>
      rw [hs] at e
      dsimp only at e
      cases hb : allIn xs with
      | none => rw [hb] at e; cases e
      | some bs =>
        rw [hb] at e; cases e
        obtain ⟨p, ws, rfl, sq, tt⟩ := lstOf_rep r h1 hs
        rw [allIn_rep tt hb] at sq
        exact cr_sum hc pins s σ C.H _ us Q I rv ⟨p, bs, rfl, .of sq, q C Grow.refl r _ (repI _)⟩
  · cases e
def maxM : List MV → Sto → R MV
  | [.int i, .int j], S => .ok (.int (if j > i then j else i)) S
  | _, _ => .stk
theorem crM_max (hc : X.calm = true) : CallR X (.builtin "max") (rCf X maxM) := by
  intro pins s σ H vs us Q I rv h
  obtain ⟨C, S, ds, rfl, hw, hK, r, t, a, S', e, q⟩ := h
  unfold maxM at e
  split at e
  · cases e
    obtain ⟨v, u, rfl, h1, h2⟩ := two_of t
    cases vInt h1; cases vInt h2
    exact call_max2 hc pins s σ C.H _ us Q I rv ⟨_, _, rfl, q C Grow.refl r _ (repI _)⟩
  · cases e
def tyN (S : Sto) : MV → Option String
  | .non => some "NoneType"
  | .bl _ => some "bool"
  | .int _ => some "int"
  | .str _ => some "str"
  | .tup _ => some "tuple"
  | .ptp _ => some "tuple"
  | .lst _ => some "list"
  | .dct _ _ => some "dict"
  | .ref n => match S[n]? with
    | some (.dct _ _) => some "dict"
    | some (MO.lst _) => some "list"
    | _ => none
  | _ => none
def isiB (S : Sto) (d : MV) (t : String) : Option Bool := match tyN S d with
  | some n => kitB n t
  | none => none
theorem tyN_rep {C : RC} {S : Sto} {d : MV} {v : V} {n : String} (r : RepS C S) (h : RepV C d v) (e : tyN S d = some n) : TyX C.K C.H v (.type n) := by
  cases d with
  | non => cases e; rw [vNon h]; exact .base .non
  | bl b => cases e; rw [vBl h]; exact .base (.bl b)
  | int i => cases e; rw [vInt h]; exact .base (.int i)
  | str x => cases e; rw [vStr h]; exact .base (.str x)
  | tup xs =>
    cases e
    rw [RepV] at h
    obtain ⟨a, vs, rfl, q, t⟩ := h
    rcases q with (q | ⟨o, q⟩) | ⟨o, its, n, q1, q2, _⟩
    · exact .base (.tup q)
    · exact .fTuple q
    · exact .kTuple q1 q2
  | ptp xs =>
    cases e
    rw [RepV] at h
    obtain ⟨a, vs, rfl, ⟨o, q, _⟩, t⟩ := h
    exact .fTuple q
  | lst xs =>
    cases e
    rw [RepV] at h
    obtain ⟨a, vs, rfl, _, q, t⟩ := h
    exact .base (.lst q)
  | dct ks ds =>
    cases e
    rw [RepV] at h
    obtain ⟨a, vs, rfl, _, q, _⟩ := h
    rcases q with q | ⟨o, q⟩
    · exact .base (.dK q)
    · exact .fDict q
  | ref k =>
    rw [RepV] at h
    obtain ⟨a, rfl, q⟩ := h
    rw [tyN] at e
    cases es : S[k]? with
    | none => rw [es] at e; cases e
    | some o =>
      rw [es] at e
      cases o with
      | lst xs => cases e; obtain ⟨vs, h1, _⟩ := r.ob k _ a es q; exact .base (.lst h1)
      | dct ks ds => cases e; obtain ⟨vs, h1, _⟩ := r.ob k _ a es q; exact .base (.dK h1)
      | _ => cases e
  | _ => cases e
def isiM (t : String) : List MV → Sto → R MV
  | [d], S => match isiB S d t with
    | some b => .ok (.bl b) S
    | none => .stk
  | _, _ => .stk
end
end Mi
set_option Elab.async false
set_option linter.all false
set_option maxRecDepth 100000
set_option maxHeartbeats 2000000
namespace Mi
open PySem PySem.Spec PyProof.Rows L2
abbrev ME := Ev → Sto → R MV
abbrev MT := Ev → Sto → R Bool
abbrev MA := Ev → Sto → R (List MV)
abbrev SE (X : Cx) (W : WX) (e : Expr) (m : ME) : Prop := PE X e (tE X W m)
abbrev ST (X : Cx) (W : WX) (e : Expr) (m : MT) : Prop := PT X e (tT X W m)
abbrev SW (X : Cx) (W : WX) (e : Expr) (m : MT) : Prop := PW X e (tT X W m)
abbrev SA (X : Cx) (W : WX) (es : List Expr) (m : MA) : Prop := PA X es (tA X W m)
def mVar (i : Nat) : ME := fun ρ S => match ρ[i]? with
  | some (some d) => .ok d S
  | _ => .stk
def mC (d : MV) : ME := fun _ S => .ok d S
def mOp (f : MV → MV → Sto → R MV) (a b : ME) : ME := fun ρ S => (a ρ S).bind fun x S1 => (b ρ S1).bind fun y S2 => f x y S2
def toB (d : MV) (S : Sto) : R Bool := match d with
  | .bl b => .ok b S
  | _ => .stk
def mTest (a : ME) : MT := fun ρ S => (a ρ S).bind toB
def mChain (f g : MV → MV → Sto → R MV) (a b c : ME) : ME := fun ρ S => (a ρ S).bind fun x S1 => (b ρ S1).bind fun y S2 => (f x y S2).bind fun z S3 => (toB z S3).bind fun k S4 =>
  if k then (c ρ S4).bind fun u S5 => g y u S5 else .ok (.bl false) S4
def mNot (a : MT) : MT := fun ρ S => (a ρ S).bind fun b S1 => .ok (!b) S1
def mAnd (a b : MT) : MT := fun ρ S => (a ρ S).bind fun x S1 => if x then b ρ S1 else .ok false S1
def mOr (a b : MT) : MT := fun ρ S => (a ρ S).bind fun x S1 => if x then .ok true S1 else b ρ S1
def mAndV (a b : ME) : ME := fun ρ S => (mTest a ρ S).bind fun x S1 => if x then b ρ S1 else .ok (.bl false) S1
def mOrV (a b : ME) : ME := fun ρ S => (mTest a ρ S).bind fun x S1 => if x then .ok (.bl true) S1 else b ρ S1
def mNotV (a : ME) : ME := fun ρ S => (mTest a ρ S).bind fun x S1 => .ok (.bl (!x)) S1
def mIf (c : MT) (a b : ME) : ME := fun ρ S => (c ρ S).bind fun x S1 => if x then a ρ S1 else b ρ S1
def mNil : MA := fun _ S => .ok [] S
def mCons (a : ME) (r : MA) : MA := fun ρ S => (a ρ S).bind fun x S1 => (r ρ S1).bind fun xs S2 => .ok (x :: xs) S2
def mTup (a : MA) : ME := fun ρ S => (a ρ S).bind fun xs S1 => .ok (.tup xs) S1
def mLst (a : MA) : ME := fun ρ S => (a ρ S).bind fun xs S1 => .ok (.lst xs) S1
def mCell (a : MA) : ME := fun ρ S => (a ρ S).bind fun xs S1 => .ok (.ref S1.length) (S1 ++ [.lst xs])
def mCallF (f : List MV → Sto → R MV) (a : MA) : ME := fun ρ S => (a ρ S).bind f
section
variable {X : Cx} {W : WX} {a b c e : Expr} {es : List Expr} {ma mb mc : ME} {mt mu : MT} {mas : MA} {pos : Pos}
theorem se_var {i : Nat} {x : Str} (hN : X.N[i]? = some x) (hv : Vis X.env.scope x) (hd : (x == ("__debug__" : Str)) = false := by decide) (hcd : (x == ("__classdict__" : Str)) = false := by decide) : SE X W (.Name x pos) (mVar i) :=
  (pe_var hN hv hd hcd).imp fun σ H Q ⟨C, ρ, S, e, s, q⟩ => by
    subst e
    unfold mVar at q
    split at q
    · rename_i d hd
      obtain ⟨v, e1, r⟩ := s.ev i d hd
      exact ⟨v, e1, q.now s.rs v r⟩
    · exact q.elim
theorem se_c {v : V} {d : MV} (h : PE X e (tC v)) (r : ∀ C : RC, C.K = X.K → RepV C d v) : SE X W e (mC d) :=
  h.imp fun σ H Q ⟨C, ρ, S, e, s, q⟩ => by
    subst e
    exact q.now s.rs v (r C s.K)
theorem se_int {i : Int} {j} : SE X W (.Constant (.int i) j pos) (mC (.int i)) := se_c pe_int fun _ _ => repI i
theorem se_bl {i : Bool} {j} : SE X W (.Constant (.bool i) j pos) (mC (.bl i)) := se_c pe_bl fun _ _ => repB i
theorem se_str {i : Str} {j} : SE X W (.Constant (.str i) j pos) (mC (.str i)) := se_c pe_str fun _ _ => repS i
theorem se_non {j} : SE X W (.Constant .none j pos) (mC .non) := se_c pe_non fun _ _ => repN
/-- a module's constant -/
theorem se_glob {x : Str} {v : V} {u : Value} {d : MV} (hg : Gl X x) (hm : X.mg x = some u) (r : RelV v u) (q : ∀ C : RC, C.K = X.K → RepV C d v) (hd : (x == ("__debug__" : Str)) = false := by decide) : SE X W (.Name x pos) (mC d) :=
  se_c (pe_glob hg hm r hd) q
/-- a two-place reading over two subreadings -/
theorem op_imp {f : MV → MV → Sto → R MV} {σ : L2.St} {H : Hp} {Q : VK} (hf : ∀ d1 d2 S c d S', f d1 d2 S ≠ .exc c d S') (h : tE X W (mOp f ma mb) σ H Q) : tOp (rOf X f) (tE X W ma) (tE X W mb) σ H Q := by
  obtain ⟨C, ρ, S, e, s, q⟩ := h
  subst e
  refine tE.bind s q fun d1 S1 C1 v1 s1 g1 r1 q1 => ?_
  refine tE.bind s1 q1 fun d2 S2 C2 v2 s2 g2 r2 q2 => ?_
  refine ⟨C2, S2, d1, d2, rfl, s2.w, s2.K, s2.rs, r1.grow g2 s1.rs, r2, ?_⟩
  cases e : f d1 d2 S2 with
  | ok a S' =>
    rw [e] at q2
    exact ⟨a, S', rfl, q2⟩
  | exc c d S' => exact absurd e (hf _ _ _ _ _ _)
  | stk => rw [e] at q2; exact q2.elim
/-- no exception -/
def Pure2 (f : MV → MV → Sto → R MV) : Prop := ∀ d1 d2 S c d S', f d1 d2 S ≠ .exc c d S'
theorem se_op {op : Operator} {f : MV → MV → Sto → R MV} (ho : OpR X (binaryOp op) (rOf X f)) (hf : Pure2 f) (ha : SE X W a ma) (hb : SE X W b mb) : SE X W (.BinOp a op b pos) (mOp f ma mb) :=
  (pe_op ho ha hb).imp fun σ H Q h => op_imp hf h
theorem se_cmp {op : CmpOp} {f : MV → MV → Sto → R MV} (ho : OpR X (compareOp op) (rOf X f)) (hf : Pure2 f) (hm : behindInMarks op b = false) (ha : SE X W a ma) (hb : SE X W b mb) : SE X W (.Compare a [op] [b] pos) (mOp f ma mb) :=
  (pe_cmpR ho ha hb hm).imp fun σ H Q h => op_imp hf h
/-- a test by its value -/
theorem tTest_imp {t : TE} {m : ME} (k : ∀ σ H Q, tE X W m σ H Q → t σ H Q) : ∀ σ H Q, tT X W (mTest m) σ H Q → tTest t σ H Q := fun σ H Q h => by
  obtain ⟨C, ρ, S, e, s, q⟩ := h
  subst e
  refine k σ C.H _ (tE.bind s q fun d1 S1 C1 v1 s1 g1 r1 q1 => ?_)
  unfold toB at q1
  split at q1
  · exact ⟨_, vBl r1, q1.now s1.rs⟩
  · exact q1.elim
theorem st_cmp {op : CmpOp} {f : MV → MV → Sto → R MV} (ho : OpR X (compareOp op) (rOf X f)) (hf : Pure2 f) (hm : behindInMarks op b = false) (ha : SE X W a ma) (hb : SE X W b mb) : ST X W (.Compare a [op] [b] pos) (mTest (mOp f ma mb)) :=
  (pt_cmpR ho ha hb hm).imp (tTest_imp fun σ H Q h => op_imp hf h)
theorem st_val (h : SE X W e ma) (he : ∀ whole, isTrue e X.env whole = (do let v ← whole; standAt e.pos; holding [v] (truthy v)) := by intro _; rfl) : ST X W e (mTest ma) :=
  (pt_val h he).imp (tTest_imp fun σ H Q h => h)
theorem chain_imp {f g : MV → MV → Sto → R MV} {σ : L2.St} {H : Hp} {Q : VK} (hf : Pure2 f) (hg : Pure2 g) (h : tE X W (mChain f g ma mb mc) σ H Q) : tChain (rOf X f) (rOf X g) (tE X W ma) (tE X W mb) (tE X W mc) σ H Q := by
  obtain ⟨C, ρ, S, e, s, q⟩ := h
  subst e
  refine tE.bind s q fun d1 S1 C1 v1 s1 g1 r1 q1 => ?_
  refine tE.bind s1 q1 fun d2 S2 C2 v2 s2 g2 r2 q2 => ?_
  refine ⟨C2, S2, d1, d2, rfl, s2.w, s2.K, s2.rs, r1.grow g2 s1.rs, r2, ?_⟩
  cases e : f d1 d2 S2 with
  | exc c d S' => exact absurd e (hf _ _ _ _ _ _)
  | stk => rw [e] at q2; exact q2.elim
  | ok z S' =>
    rw [e] at q2
    refine ⟨z, S', rfl, fun C3 g3 rs3 v rv => ?_⟩
    have q3 : Wants W σ C2 ((toB z S').bind fun k S4 => if k then (mc ρ S4).bind fun u S5 => g d2 u S5 else .ok (.bl false) S4) _ := q2
    unfold toB at q3
    split at q3
    · rename_i k
      refine ⟨k, vBl rv, ?_⟩
      have s3 := s2.grow g3 rs3
      rw [R.bind_ok] at q3
      cases k with
      | true =>
        have q4 : Wants W σ C3 ((mc ρ S').bind fun u S5 => g d2 u S5) (fun d _ C' => ∀ v, RepV C' d v → Q v C'.H) := by
          revert q3
          rw [if_pos rfl]
          cases ((mc ρ S').bind fun u S5 => g d2 u S5) with
          | ok b S2 => exact fun h C2 g2 r2 => h C2 (g3.trans g2) r2
          | exc c d S2 => exact fun h C2 cls dx g2 r2 e => h C2 cls dx (g3.trans g2) r2 e
          | stk => exact fun h => h
        rw [if_pos rfl]
        refine tE.bind s3 q4 fun d3 S4 C4 v3 s4 g4 r3 q5 => ?_
        refine ⟨C4, S4, d2, d3, rfl, s4.w, s4.K, s4.rs, (r2.grow g3 s2.rs).grow g4 s3.rs, r3, ?_⟩
        cases e : g d2 d3 S4 with
        | ok a S' =>
          rw [e] at q5
          exact ⟨a, S', rfl, q5⟩
        | exc c d S' => exact absurd e (hg _ _ _ _ _ _)
        | stk => rw [e] at q5; exact q5.elim
      | false =>
        rw [if_neg (by decide)] at q3 ⊢
        exact q3.here g3 rs3 _ (repB _)
    · exact q3.elim
theorem se_chain {op op' : CmpOp} {f g : MV → MV → Sto → R MV} (ho : OpR X (compareOp op) (rOf X f)) (hf : Pure2 f) (ho' : OpR X (compareOp op') (rOf X g)) (hg : Pure2 g) (ha : SE X W a ma) (hb : SE X W b mb) (hc : SE X W c mc)
    (hm : lastMarks [op, op'] [b, c] = false := by with_unfolding_all rfl) : SE X W (.Compare a [op, op'] [b, c] pos) (mChain f g ma mb mc) := (pe_chain ho ho' ha hb hc hm).imp fun σ H Q h => chain_imp hf hg h
theorem st_chain {op op' : CmpOp} {f g : MV → MV → Sto → R MV} (ho : OpR X (compareOp op) (rOf X f)) (hf : Pure2 f) (ho' : OpR X (compareOp op') (rOf X g)) (hg : Pure2 g) (ha : SE X W a ma) (hb : SE X W b mb) (hc : SE X W c mc)
    (hm : lastMarks [op, op'] [b, c] = false := by with_unfolding_all rfl) : ST X W (.Compare a [op, op'] [b, c] pos) (mTest (mChain f g ma mb mc)) := (pt_chain ho ho' ha hb hc hm).imp (tTest_imp fun σ H Q h => chain_imp hf hg h)
theorem st_not (ha : ST X W a mt) : ST X W (.UnaryOp .Not a pos) (mNot mt) :=
  (pt_not ha).imp fun σ H Q ⟨C, ρ, S, e, s, q⟩ => by
    subst e
    exact tT.bind s q fun d S1 C1 s1 g1 q1 => q1.now s1.rs
variable {rest : List Expr}
theorem sw_and1 (ha : ST X W a mt) : SW X W (.BoolOp .And [a] pos) mt := pw_and1 ha
theorem sw_or1 (ha : ST X W a mt) : SW X W (.BoolOp .Or [a] pos) mt := pw_or1 ha
theorem sw_and (ha : ST X W a mt) (hb : SW X W (.BoolOp .And (b :: rest) pos) mu) : SW X W (.BoolOp .And (a :: b :: rest) pos) (mAnd mt mu) :=
  (pw_and ha hb).imp fun σ H Q ⟨C, ρ, S, e, s, q⟩ => by
    subst e
    refine tT.bind s q fun d S1 C1 s1 g1 q1 => ?_
    cases d with
    | true => rw [if_pos rfl] at q1 ⊢; exact ⟨C1, ρ, S1, rfl, s1, q1⟩
    | false => rw [if_neg (by decide)] at q1 ⊢; exact q1.now s1.rs
theorem sw_or (ha : ST X W a mt) (hb : SW X W (.BoolOp .Or (b :: rest) pos) mu) : SW X W (.BoolOp .Or (a :: b :: rest) pos) (mOr mt mu) :=
  (pw_or ha hb).imp fun σ H Q ⟨C, ρ, S, e, s, q⟩ => by
    subst e
    refine tT.bind s q fun d S1 C1 s1 g1 q1 => ?_
    cases d with
    | false => rw [if_neg (by decide)] at q1 ⊢; exact ⟨C1, ρ, S1, rfl, s1, q1⟩
    | true => rw [if_pos rfl] at q1 ⊢; exact q1.now s1.rs
theorem st_w (h : SW X W e mt) : ST X W e mt := h.pt
theorem se_one {op} (h : SE X W a ma) : SE X W (.BoolOp op [a] pos) ma := pe_one h
theorem tB_step {C : RC} {ρ : Ev} {S : Sto} {σ : L2.St} {β : Type} {f : Bool → Sto → R β} {Q : β → Sto → RC → Prop} {Q1 : VK} (s : Sv X ρ σ S C) (h : Wants W σ C ((mTest ma ρ S).bind f) Q)
    (k : ∀ b S1 C1, Sv X ρ σ S1 C1 → Grow C C1 → Wants W σ C1 (f b S1) Q → Q1 (.bl b) C1.H) : tE X W ma σ C.H Q1 := by
  have h' : Wants W σ C ((ma ρ S).bind fun d S1 => (toB d S1).bind f) Q := by
    unfold mTest at h
    cases e : ma ρ S with
    | ok a S' => rw [e] at h; exact h
    | exc c d S' => rw [e] at h; exact h
    | stk => rw [e] at h; exact h
  refine tE.bind s h' fun d S1 C1 v s1 g r q => ?_
  unfold toB at q
  split at q
  · rw [vBl r]
    exact k _ S1 C1 s1 g q
  · exact q.elim
theorem se_and (ha : SE X W a ma) (hb : SE X W (.BoolOp .And (b :: rest) pos) mb) : SE X W (.BoolOp .And (a :: b :: rest) pos) (mAndV ma mb) :=
  (pe_and ha hb).imp fun σ H Q ⟨C, ρ, S, e, s, q⟩ => by
    subst e
    refine tB_step s q fun d S1 C1 s1 g1 q1 => ⟨d, rfl, ?_⟩
    cases d with
    | true => rw [if_pos rfl] at q1 ⊢; exact ⟨C1, ρ, S1, rfl, s1, q1⟩
    | false => rw [if_neg (by decide)] at q1 ⊢; exact q1.now s1.rs _ (repB _)
theorem se_or (ha : SE X W a ma) (hb : SE X W (.BoolOp .Or (b :: rest) pos) mb) : SE X W (.BoolOp .Or (a :: b :: rest) pos) (mOrV ma mb) :=
  (pe_or ha hb).imp fun σ H Q ⟨C, ρ, S, e, s, q⟩ => by
    subst e
    refine tB_step s q fun d S1 C1 s1 g1 q1 => ⟨d, rfl, ?_⟩
    cases d with
    | false => rw [if_neg (by decide)] at q1 ⊢; exact ⟨C1, ρ, S1, rfl, s1, q1⟩
    | true => rw [if_pos rfl] at q1 ⊢; exact q1.now s1.rs _ (repB _)
theorem se_not (ha : SE X W a ma) : SE X W (.UnaryOp .Not a pos) (mNotV ma) :=
  (pe_not ha).imp fun σ H Q ⟨C, ρ, S, e, s, q⟩ => by
    subst e
    exact tB_step s q fun d S1 C1 s1 g1 q1 => ⟨d, rfl, q1.now s1.rs _ (repB _)⟩
theorem se_if (hc : ST X W c mt) (ha : SE X W a ma) (hb : SE X W b mb) : SE X W (.IfExp c a b pos) (mIf mt ma mb) :=
  (pe_ifExp hc ha hb).imp fun σ H Q ⟨C, ρ, S, e, s, q⟩ => by
    subst e
    refine tT.bind s q fun d S1 C1 s1 g1 q1 => ?_
    cases d with
    | true => rw [if_pos rfl] at q1 ⊢; exact ⟨C1, ρ, S1, rfl, s1, q1⟩
    | false => rw [if_neg (by decide)] at q1 ⊢; exact ⟨C1, ρ, S1, rfl, s1, q1⟩
theorem sa_nil : SA X W [] mNil := pa_nil.imp fun σ H Q ⟨C, ρ, S, e, s, q⟩ => by
  subst e
  exact q.now s.rs [] .nil
theorem sa_cons (ha : SE X W e ma) (hr : SA X W es mas) (hs : starEach (e :: es) X.env = (false, eval e X.env) :: starEach es X.env := by rfl) : SA X W (e :: es) (mCons ma mas) :=
  (pa_cons ha hr hs).imp fun σ H Q ⟨C, ρ, S, e, s, q⟩ => by
    subst e
    refine tE.bind s q fun d1 S1 C1 v1 s1 g1 r1 q1 => ?_
    refine tA.bind s1 q1 fun d2 S2 C2 v2 s2 g2 r2 q2 => ?_
    exact q2.now s2.rs _ (.cons (r1.grow g2 s1.rs) r2)
/-- how many -/
def LenA (m : MA) (n : Nat) : Prop := ∀ ρ S ds S', m ρ S = .ok ds S' → ds.length = n
theorem lenNil : LenA mNil 0 := fun ρ S ds S' e => by cases e; rfl
theorem R.bind_ok' {α β : Type} {r : R α} {f : α → Sto → R β} {b : β} {S' : Sto} (h : r.bind f = .ok b S') : ∃ a S1, r = .ok a S1 ∧ f a S1 = .ok b S' := by
  cases r with
  | ok a S => exact ⟨a, S, rfl, h⟩
  | exc c d S => cases h
  | stk => cases h
theorem lenCons {n : Nat} (h : LenA mas n) : LenA (mCons ma mas) (n + 1) := fun ρ S ds S' e => by
  obtain ⟨x, S1, _, e⟩ := R.bind_ok' e
  obtain ⟨xs, S2, e2, e⟩ := R.bind_ok' e
  cases e
  rw [List.length_cons, h _ _ _ _ e2]
theorem se_tup {x1} {n : Nat} (h : SA X W es mas) (hl : LenA mas n) (hn : n ≤ 1000) : SE X W (.Tuple es x1 pos) (mTup mas) :=
  (pe_tup h).imp fun σ H Q ⟨C, ρ, S, e, s, q⟩ => by
    subst e
    refine ⟨C, ρ, S, rfl, s, ?_⟩
    refine Wants.mono (Wants.bind q) fun ds S1 C1 g r1 e1 q1 vs rv => ?_
    have hn' : vs.length ≤ sizeLine := by rw [← rv.length, hl _ _ _ _ e1, sizeLine_eq]; omega
    exact ⟨hn', newTup r1 rv fun C' g' r' v rv' => q1.1.here g' r' v rv'⟩
theorem se_lst {n : Nat} (h : SA X W es mas) (hl : LenA mas n) (hn : n ≤ 1000) : SE X W (.List es pos) (mLst mas) :=
  (pe_lst h).imp fun σ H Q ⟨C, ρ, S, e, s, q⟩ => by
    subst e
    refine ⟨C, ρ, S, rfl, s, ?_⟩
    refine Wants.mono (Wants.bind q) fun ds S1 C1 g r1 e1 q1 vs rv => ?_
    have hn' : vs.length ≤ sizeLine := by rw [← rv.length, hl _ _ _ _ e1, sizeLine_eq]; omega
    exact ⟨hn', newLst r1 rv fun C' g' r' v rv' => q1.1.here g' r' v rv'⟩
theorem se_cell {n : Nat} (h : SA X W es mas) (hl : LenA mas n) (hn : n ≤ 1000) : SE X W (.List es pos) (mCell mas) :=
  (pe_lst h).imp fun σ H Q ⟨C, ρ, S, e, s, q⟩ => by
    subst e
    refine ⟨C, ρ, S, rfl, s, ?_⟩
    refine Wants.mono (Wants.bind q) fun ds S1 C1 g r1 e1 q1 vs rv => ?_
    have hn' : vs.length ≤ sizeLine := by rw [← rv.length, hl _ _ _ _ e1, sizeLine_eq]; omega
    exact ⟨hn', newCell r1 rv fun C' g' r' v rv' => q1.1.here g' r' v rv'⟩
theorem se_ix (hu : X.A.units + 1 < cLine) (hs : PlainIx b) (ha : SE X W a ma) (hb : SE X W b mb) (hf : Pure2 idxM) : SE X W (.Subscript a b pos) (mOp idxM ma mb) :=
  (pe_ix (ixM hu) ha hb hs).imp fun σ H Q h => op_imp hf h
theorem cf_imp {f : List MV → Sto → R MV} {σ : L2.St} {H : Hp} {Q : VK} (hf : ∀ ds S c d S', f ds S ≠ .exc c d S') (h : tE X W (mCallF f mas) σ H Q) : tCB (rCf X f) (tA X W mas) σ H Q := by
  obtain ⟨C, ρ, S, e, s, q⟩ := h
  subst e
  refine tA.bind s q fun ds S1 C1 vs s1 g1 r1 q1 => ?_
  refine ⟨C1, S1, ds, rfl, s1.w, s1.K, s1.rs, r1, ?_⟩
  cases e : f ds S1 with
  | ok a S' =>
    rw [e] at q1
    exact ⟨a, S', rfl, q1⟩
  | exc c d S' => exact absurd e (hf _ _ _ _ _)
  | stk => rw [e] at q1; exact q1.elim
def Pure1 (f : List MV → Sto → R MV) : Prop := ∀ ds S c d S', f ds S ≠ .exc c d S'
theorem se_callB {x : Str} {id : String} {p : Pos} {f : List MV → Sto → R MV} (hc : CallR X (.builtin id) (rCf X f)) (hf : Pure1 f) (hg : Gl X x) (hm : X.mg x = none) (hv : bootBuiltins x = some (.builtin id)) (ha : SA X W (e :: es) mas) (hn : x ≠ "__name__" := by decide) (hdb : (x == ("__debug__" : Str)) = false := by decide)
    (he : starEach (e :: es) X.env = (false, eval e X.env) :: starEach es X.env := by rfl) (hpl : (backTo pos (starEach es X.env)).any (·.1) = false := by rfl) : SE X W (.Call (.Name x p) (e :: es) [] pos) (mCallF f mas) :=
  (pe_callB hc hg hm hv ha hn hdb he hpl).imp fun σ H Q h => cf_imp hf h
theorem se_callTy {x : Str} {id : String} {p : Pos} {f : List MV → Sto → R MV} (hc : CallR X (.type id) (rCf X f)) (hf : Pure1 f) (hg : Gl X x) (hm : X.mg x = none) (hv : bootBuiltins x = some (.type id)) (ha : SA X W (e :: es) mas) (hn : x ≠ "__name__" := by decide) (hdb : (x == ("__debug__" : Str)) = false := by decide)
    (he : starEach (e :: es) X.env = (false, eval e X.env) :: starEach es X.env := by rfl) (hpl : (backTo pos (starEach es X.env)).any (·.1) = false := by rfl) : SE X W (.Call (.Name x p) (e :: es) [] pos) (mCallF f mas) :=
  (pe_callTy hc hg hm hv ha hn hdb he hpl).imp fun σ H Q h => cf_imp hf h
end
theorem pu_add : Pure2 addM := by
  intro a b S c d S' h
  unfold addM at h
  split at h
  · cases h
  · split at h <;> cases h
  · split at h <;> cases h
  · unfold addL at h
    split at h
    · split at h <;> cases h
    · cases h
theorem pu_sub : Pure2 subM := by intro a b S c d S' h; unfold subM at h; split at h <;> cases h
theorem pu_mod : Pure2 modM := by intro a b S c d S' h; unfold modM at h; split at h; (split at h <;> cases h); cases h
theorem pu_fdiv : Pure2 fdivM := by intro a b S c d S' h; unfold fdivM at h; split at h; (split at h <;> cases h); cases h
theorem pu_pow : Pure2 powM := by intro a b S c d S' h; unfold powM at h; split at h; (split at h <;> cases h); cases h
theorem pu_mul : Pure2 mulM := by
  intro a b S c d S' h
  unfold mulM at h
  split at h
  all_goals first
    | (cases h; done)
    | (split at h <;> first | (cases h; done) | (split at h <;> cases h; done))
theorem pu_eq : Pure2 eqM := by intro a b S c d S' h; unfold eqM at h; split at h <;> cases h
theorem pu_ne : Pure2 neM := by intro a b S c d S' h; unfold neM at h; split at h <;> cases h
theorem pu_is : Pure2 isM := by intro a b S c d S' h; unfold isM at h; split at h <;> cases h
theorem pu_isn : Pure2 isnM := by intro a b S c d S' h; unfold isnM at h; split at h <;> cases h
theorem pu_in : Pure2 inM := by intro a b S c d S' h; unfold inM at h; split at h <;> cases h
theorem pu_nin : Pure2 ninM := by intro a b S c d S' h; unfold ninM at h; split at h <;> cases h
theorem pu_cmpI {f : Int → Int → Bool} : Pure2 (cmpI f) := by intro a b S c d S' h; unfold cmpI at h; split at h <;> cases h
theorem pu_ix : Pure2 idxM := by
  intro a b S c d S' h
  unfold idxM at h
  split at h
  · split at h
    · split at h <;> first | (cases h; done) | (split at h <;> cases h; done)
    · cases h
  · unfold idxD at h
    split at h
    · split at h <;> cases h
    · cases h
end Mi
set_option Elab.async false
set_option linter.all false
set_option maxRecDepth 100000
set_option maxHeartbeats 2000000
namespace Mi
open PySem PySem.Spec PyProof.Rows L2
inductive RS where
  | nx (ρ : Ev) (S : Sto)
  | rt (d : MV) (S : Sto)
  | exc (c : Str) (d : MV) (ρ : Ev) (S : Sto)
  | stk
abbrev MS := Ev → Sto → RS
def WantS (W : WX) (D : Ends) (C : RC) : RS → Prop
  | .nx ρ S => ∀ C' σ', Grow C C' → RepS C' S → EnvR C' ρ σ' → ρ.length = σ'.length → D.nx σ' C'.H
  | .rt d S => ∀ C' v, Grow C C' → RepS C' S → RepV C' d v → D.rt v C'.H
  | .exc c d ρ S => ∀ C' σ' cls dx, Grow C C' → RepS C' S → EnvR C' ρ σ' → ρ.length = σ'.length → ExcR C' c d cls dx → W cls dx σ' C'.H
  | .stk => False
def tS (X : Cx) (W : WX) (m : MS) : TS := fun D σ H => ∃ C ρ S, C.H = H ∧ Sv X ρ σ S C ∧ WantS W D C (m ρ S)
abbrev SS (X : Cx) (W : WX) (st : Stmt) (m : MS) : Prop := PS X st (tS X W m)
abbrev SSs (X : Cx) (W : WX) (st : List Stmt) (m : MS) : Prop := PSs X st (tS X W m)
theorem WantS.grow {W : WX} {D : Ends} {C C1 : RC} {r : RS} (h : WantS W D C r) (g : Grow C C1) : WantS W D C1 r := by
  cases r with
  | nx ρ S => exact fun C' σ' g' r' e l => h C' σ' (g.trans g') r' e l
  | rt d S => exact fun C' v g' r' e => h C' v (g.trans g') r' e
  | exc c d ρ S => exact fun C' σ' cls dx g' r' e l x => h C' σ' cls dx (g.trans g') r' e l x
  | stk => exact h
def R.thn {α : Type} (r : R α) (ρ : Ev) (k : α → Sto → RS) : RS := match r with
  | .ok a S => k a S
  | .exc c d S => .exc c d ρ S
  | .stk => .stk
@[simp] theorem R.thn_ok {α : Type} (a : α) (S : Sto) (ρ : Ev) (f : α → Sto → RS) : (R.ok a S).thn ρ f = f a S := rfl
@[simp] theorem R.thn_exc {α : Type} (c : Str) (d : MV) (S : Sto) (ρ : Ev) (f : α → Sto → RS) : (R.exc c d S : R α).thn ρ f = .exc c d ρ S := rfl
@[simp] theorem R.thn_stk {α : Type} (ρ : Ev) (f : α → Sto → RS) : (R.stk : R α).thn ρ f = .stk := rfl
theorem WantS.thn {α : Type} {X : Cx} {W : WX} {D : Ends} {C : RC} {ρ : Ev} {σ : L2.St} {S : Sto} {r : R α} {k : α → Sto → RS} (s : Sv X ρ σ S C) (h : WantS W D C (r.thn ρ k)) :
    Wants W σ C r (fun a S1 C1 => WantS W D C1 (k a S1) ∧ Grow C C1) := by
  cases r with
  | ok a S' => exact fun C1 g r1 => ⟨WantS.grow h g, g⟩
  | exc c d S' => exact fun C1 cls dx g r1 e => h C1 σ cls dx g r1 (s.ev.grow g s.rs) s.ln e
  | stk => exact h
section
variable {X : Cx} {W : WX} {D : Ends} {σ : L2.St} {C : RC} {ρ : Ev} {S : Sto}
theorem tE.thn {m : ME} {k : MV → Sto → RS} {Q1 : VK} (s : Sv X ρ σ S C) (h : WantS W D C ((m ρ S).thn ρ k))
    (z : ∀ d S1 C1 v, Sv X ρ σ S1 C1 → Grow C C1 → RepV C1 d v → WantS W D C1 (k d S1) → Q1 v C1.H) : tE X W m σ C.H Q1 :=
  ⟨C, ρ, S, rfl, s, (WantS.thn s h).mono fun d S1 C1 g r _ q v hv => z d S1 C1 v (s.grow g r) g hv q.1⟩
theorem tT.thn {m : MT} {k : Bool → Sto → RS} {Q1 : Bool → Hp → Prop} (s : Sv X ρ σ S C) (h : WantS W D C ((m ρ S).thn ρ k))
    (z : ∀ d S1 C1, Sv X ρ σ S1 C1 → Grow C C1 → WantS W D C1 (k d S1) → Q1 d C1.H) : tT X W m σ C.H Q1 :=
  ⟨C, ρ, S, rfl, s, (WantS.thn s h).mono fun d S1 C1 g r _ q => z d S1 C1 (s.grow g r) g q.1⟩
end
def mNext : MS := fun ρ S => .nx ρ S
def mSeq (a b : MS) : MS := fun ρ S => match a ρ S with
  | .nx ρ1 S1 => b ρ1 S1
  | r => r
def mIfS (c : MT) (a b : MS) : MS := fun ρ S => (c ρ S).thn ρ fun x S1 => if x then a ρ S1 else b ρ S1
def mRet (e : ME) : MS := fun ρ S => (e ρ S).thn ρ fun d S1 => .rt d S1
def mDrop (e : ME) : MS := fun ρ S => (e ρ S).thn ρ fun _ S1 => .nx ρ S1
/-- targets -/
structure Tg where
  f : MV → Ev → Option Ev
  ix : List Nat
structure Tgs where
  f : List MV → Ev → Option Ev
  ix : List Nat
  n : Nat
def oS (o : Option Ev) (S : Sto) : RS := match o with
  | some ρ => .nx ρ S
  | none => .stk
def mAsg (e : ME) (g : Tg) : MS := fun ρ S => (e ρ S).thn ρ fun d S1 => oS (g.f d ρ) S1
def tgName (i : Nat) : Tg := ⟨fun d ρ => some (ρ.set i (some d)), [i]⟩
def tgNil : Tgs := ⟨fun ds ρ => match ds with
  | [] => some ρ
  | _ => none, [], 0⟩
def tgCons (t : Tg) (u : Tgs) : Tgs := ⟨fun ds ρ => match ds with
  | d :: r => (t.f d ρ).bind (u.f r)
  | [] => none, t.ix ++ u.ix, u.n + 1⟩
def tgTup (u : Tgs) : Tg := ⟨fun d ρ => match d with
  | .tup xs => if xs.length = u.n then u.f xs ρ else none
  | _ => none, u.ix⟩
def tG (X : Cx) (t : Tg) : TG := fun v σ H Q => ∃ C ρ S d ρ', C.H = H ∧ Sv X ρ σ S C ∧ RepV C d v ∧ t.f d ρ = some ρ' ∧ ∀ σ', EnvR C ρ' σ' → ρ'.length = σ'.length → σ'.length = σ.length → (∀ vs, (∀ i ∈ t.ix, i ∈ vs) → wipe σ' vs = wipe σ vs) → Q σ' H
def tGs (X : Cx) (t : Tgs) : TGs := fun vs σ H Q => ∃ C ρ S ds ρ', C.H = H ∧ Sv X ρ σ S C ∧ RepVs C ds vs ∧ t.f ds ρ = some ρ' ∧ ∀ σ', EnvR C ρ' σ' → ρ'.length = σ'.length → σ'.length = σ.length → (∀ vs, (∀ i ∈ t.ix, i ∈ vs) → wipe σ' vs = wipe σ vs) → Q σ' H
theorem _root_.L2.PG.imp {X : Cx} {tg : Expr} {t t' : TG} (h : PG X tg t) (k : ∀ v σ H Q, t' v σ H Q → t v σ H Q) : PG X tg t' := ⟨fun pins s σ H v u Q I r q => h.run pins s σ H v u Q I r (k v σ H Q q)⟩
theorem _root_.L2.PGs.imp {X : Cx} {tg : List Expr} {t t' : TGs} (h : PGs X tg t) (k : ∀ v σ H Q, t' v σ H Q → t v σ H Q) : PGs X tg t' := ⟨fun pins s σ H v u Q I r q => h.run pins s σ H v u Q I r (k v σ H Q q)⟩
abbrev SG (X : Cx) (tg : Expr) (t : Tg) : Prop := PG X tg (tG X t)
abbrev SGs (X : Cx) (tg : List Expr) (t : Tgs) : Prop := PGs X tg (tGs X t)
theorem wipe_get (σ : L2.St) : ∀ (vs : List Nat) (j : Nat), (wipe σ vs)[j]? = if j ∈ vs then (σ[j]?).map (fun _ => none) else σ[j]?
  | [], j => by simp [wipe]
  | v :: vs, j => by
    unfold wipe
    by_cases hj : v = j
    · subst hj
      by_cases hl : v < (wipe σ vs).length
      · rw [List.getElem?_set_self hl]
        have : v < σ.length := by rw [wipe_length] at hl; exact hl
        simp [this]
      · rw [List.getElem?_eq_none (by simpa using hl)]
        have : ¬ v < σ.length := by rw [wipe_length] at hl; exact hl
        simp [this]
    · rw [List.getElem?_set_ne hj, wipe_get σ vs j]
      have : (j ∈ v :: vs) ↔ j ∈ vs := by simp [Ne.symm hj]
      simp only [this]
theorem wipe_set (σ : L2.St) (i : Nat) (x : Option V) (vs : List Nat) (h : i ∈ vs) : wipe (σ.set i x) vs = wipe σ vs := by
  apply List.ext_getElem?; intro j
  rw [wipe_get, wipe_get]
  by_cases hj : j ∈ vs
  · rw [if_pos hj, if_pos hj]
    by_cases e : i = j
    · subst e
      by_cases hl : i < σ.length
      · simp [hl]
      · simp [hl]
    · rw [List.getElem?_set_ne e]
  · rw [if_neg hj, if_neg hj, List.getElem?_set_ne (fun e => hj (by rw [← e]; exact h))]
theorem wipe_wipe (σ : L2.St) (vs : List Nat) : wipe (wipe σ vs) vs = wipe σ vs := by
  apply List.ext_getElem?; intro j
  rw [wipe_get, wipe_get]
  by_cases hj : j ∈ vs
  · rw [if_pos hj, if_pos hj]
    cases σ[j]? <;> rfl
  · rw [if_neg hj, if_neg hj]
section
variable {X : Cx} {W : WX} {a b c e : Expr} {es : List Expr} {me : ME} {mt : MT} {pos : Pos} {st : Stmt} {sts sts' : List Stmt} {m m1 m2 : MS}
theorem sg_name {i : Nat} {x : Str} (hN : X.N.Nodup) (hi : X.N[i]? = some x) (hx : Loc X.env.scope x) (hf : X.fn x = true ∨ X.env.scope.names.lookup x = some .local := by first | exact .inl rfl | exact .inr rfl | assumption) : SG X (.Name x pos) (tgName i) :=
  (pg_name hN hi hx hf).imp fun v σ H Q ⟨C, ρ, S, d, ρ', e, s, r, e1, q⟩ => by
    subst e
    have e1 : some (ρ.set i (some d)) = some ρ' := e1
    cases e1
    exact q _ (s.ev.set s.ln r) (by simp [s.ln]) (by simp) fun vs h => wipe_set σ i _ vs (h i (by simp [tgName]))
theorem sgs_nil : SGs X [] tgNil := pgs_nil.imp fun v σ H Q ⟨C, ρ, S, d, ρ', e, s, r, e1, q⟩ => by
  subst e
  cases d with
  | nil =>
    have e1 : some ρ = some ρ' := e1
    cases e1
    rw [r.nil_inv]
    exact ⟨rfl, q σ s.ev s.ln rfl fun _ _ => rfl⟩
  | cons x xs => cases e1
theorem sgs_cons {t : Tg} {u : Tgs} (h1 : SG X e t) (h2 : SGs X es u) (hs : (assignEach (e :: es) X.env).map (·.2) = assign e X.env :: (assignEach es X.env).map (·.2) := by rfl) : SGs X (e :: es) (tgCons t u) :=
  (pgs_cons h1 h2 hs).imp fun v σ H Q ⟨C, ρ, S, d, ρ', e, s, r, e1, q⟩ => by
    subst e
    cases d with
    | nil => cases e1
    | cons x xs =>
      obtain ⟨v1, vr, rfl, r1, r2⟩ := r.cons_inv
      have e1 : (t.f x ρ).bind (u.f xs) = some ρ' := e1
      cases e2 : t.f x ρ with
      | none => rw [e2] at e1; cases e1
      | some ρ1 =>
        rw [e2] at e1
        have e1 : u.f xs ρ1 = some ρ' := e1
        refine ⟨v1, vr, rfl, C, ρ, S, x, ρ1, rfl, s, r1, e2, fun σ1 ev1 l1 l1' w1 => ?_⟩
        refine ⟨C, ρ1, S, xs, ρ', rfl, ⟨s.w, s.K, s.rs, ev1, l1⟩, r2, e1, fun σ2 ev2 l2 l2' w2 => q σ2 ev2 l2 (l2'.trans l1') fun vs hv => ?_⟩
        rw [w2 vs fun i hi => hv i (List.mem_append_right _ hi), w1 vs fun i hi => hv i (List.mem_append_left _ hi)]
theorem sg_tup {k : Nat} {u : Tgs} (hc : X.calm = true) (h : SGs X es u) (hn : (assignEach es X.env).length = u.n := by rfl) (hst : (assignEach es X.env).findIdx? (·.1) = none := by rfl) : SG X (.Tuple es k pos) (tgTup u) :=
  (pg_tup hc h hn hst).imp fun v σ H Q ⟨C, ρ, S, d, ρ', e, s, r, e1, q⟩ => by
    subst e
    cases d with
    | tup xs =>
      have e1 : (if xs.length = u.n then u.f xs ρ else none) = some ρ' := e1
      split at e1
      · rename_i hl
        rw [RepV] at r
        obtain ⟨p, vs, rfl, sq, t⟩ := r
        rw [s.K] at sq
        exact ⟨p, vs, rfl, sq, by rw [← t.length, hl], C, ρ, S, xs, ρ', rfl, s, t, e1, q⟩
      · cases e1
    | _ => cases e1
theorem ss_asg {g : Tg} (he : SE X W e me) (hg : SG X a g) (hs : swapsWithSole [a] e pos.line X.env = pure false := by rfl) (hw : swappedStores [a] e X.env = pure none := by rfl)
    (h1 : (assignEach [a] X.env).map (·.2) = [assign a X.env] := by rfl) : SS X W (.Assign [a] e pos) (mAsg me g) :=
  (ps_asg he hg hs hw h1).imp fun D σ H ⟨C, ρ, S, e, s, q⟩ => by
    subst e
    refine tE.thn s q fun d S1 C1 v s1 g1 r1 q1 => ?_
    unfold oS at q1
    split at q1
    · rename_i ρ' e1
      exact ⟨C1, ρ, S1, d, ρ', rfl, s1, r1, e1, fun σ' ev l _ _ => q1 C1 σ' Grow.refl s1.rs ev l⟩
    · exact q1.elim
theorem ss_set {i : Nat} {x : Str} {pos' : Pos} (hN : X.N.Nodup) (hi : X.N[i]? = some x) (hx : Loc X.env.scope x) (he : SE X W e me) (hs : swapsWith e (some (.Name x pos')) pos.line X.env = pure false := by rfl) (hf : X.fn x = true ∨ X.env.scope.names.lookup x = some .local := by first | exact .inl rfl | exact .inr rfl | assumption) :
    SS X W (.Assign [.Name x pos'] e pos) (mAsg me (tgName i)) :=
  (ps_set hN hi hx he hs hf).imp fun D σ H ⟨C, ρ, S, e, s, q⟩ => by
    subst e
    refine tE.thn s q fun d S1 C1 v s1 g1 r1 q1 => ?_
    exact q1 C1 _ Grow.refl s1.rs (s1.ev.set s1.ln r1) (by simp [s1.ln])
theorem sss_nil : SSs X W [] mNext := pss_nil.imp fun D σ H ⟨C, ρ, S, e, s, q⟩ => by
  subst e
  exact q C σ Grow.refl s.rs s.ev s.ln
theorem sss_cons (h1 : SS X W st m1) (h2 : SSs X W sts m2) : SSs X W (st :: sts) (mSeq m1 m2) :=
  (pss_cons h1 h2).imp fun D σ H ⟨C, ρ, S, e, s, q⟩ => by
    subst e
    refine ⟨C, ρ, S, rfl, s, ?_⟩
    unfold mSeq at q
    cases e : m1 ρ S with
    | nx ρ1 S1 =>
      rw [e] at q
      exact fun C' σ' g r ev l => ⟨C', ρ1, S1, rfl, ⟨g.w.trans s.w, g.K.trans s.K, r, ev, l⟩, q.grow g⟩
    | rt d S1 => rw [e] at q; exact q
    | exc c d ρ1 S1 => rw [e] at q; exact q
    | stk => rw [e] at q; exact q
theorem sss_one (h1 : SS X W st m1) : SSs X W [st] m1 := pss_one h1
theorem ss_if (hc : ST X W c mt) (ha : SSs X W sts m1) (hb : SSs X W sts' m2) : SS X W (.If c sts sts' pos) (mIfS mt m1 m2) :=
  (ps_if hc ha hb).imp fun D σ H ⟨C, ρ, S, e, s, q⟩ => by
    subst e
    refine tT.thn s q fun d S1 C1 s1 g1 q1 => ?_
    cases d with
    | true => rw [if_pos rfl] at q1 ⊢; exact ⟨C1, ρ, S1, rfl, s1, q1⟩
    | false => rw [if_neg (by decide)] at q1 ⊢; exact ⟨C1, ρ, S1, rfl, s1, q1⟩
theorem ss_ret (he : SE X W e me) : SS X W (.Return (some e) pos) (mRet me) :=
  (ps_ret he).imp fun D σ H ⟨C, ρ, S, e, s, q⟩ => by
    subst e
    exact tE.thn s q fun d S1 C1 v s1 g1 r1 q1 => q1 C1 v Grow.refl s1.rs r1
theorem ss_expr (he : SE X W e me) (hs : swapsWith e none pos.line X.env = pure false := by rfl) : SS X W (.Expr e pos) (mDrop me) :=
  (ps_expr he hs).imp fun D σ H ⟨C, ρ, S, e, s, q⟩ => by
    subst e
    exact tE.thn s q fun d S1 C1 v s1 g1 r1 q1 => q1 C1 σ Grow.refl s1.rs s1.ev s1.ln
end
abbrev MF := List MV → Sto → R MV
def spM (w : World) (K : PySem.W.Frag) (n : Nat) (m : MF) : Sp := fun vs H Q E => vs.length = n ∧ ∃ C S ds, C.H = H ∧ C.w = w ∧ C.K = K ∧ RepS C S ∧ RepVs C ds vs ∧
  Wants (fun cls dx _ H' => E cls dx H') [] C (m ds S) (fun d _ C' => ∀ v, RepV C' d v → Q v C'.H)
theorem Wants.wish {α : Type} {W W' : WX} {σ σ' : L2.St} {C : RC} {r : R α} {Q : α → Sto → RC → Prop} (h : Wants W σ C r Q) (k : ∀ cls dx H, W cls dx σ H → W' cls dx σ' H) : Wants W' σ' C r Q := by
  cases r with
  | ok a S => exact h
  | exc c d S => exact fun C' cls dx g r e => k _ _ _ (h C' cls dx g r e)
  | stk => exact h
def toR : RS → R MV
  | .nx _ S => .ok .non S
  | .rt d S => .ok d S
  | .exc c d _ S => .exc c d S
  | .stk => .stk
def ev0 (N : Nat) (ds : List MV) : Ev := ds.map some ++ List.replicate (N - ds.length) none
def mFn (N : Nat) (body : MS) : MF := fun ds S => toR (body (ev0 N ds) S)
section
variable {X : Cx} {W : WX} {e : Expr} {es : List Expr} {mas : MA} {pos p : Pos} {k : Nat} {f : Addr} {fd : FuncData} {ps : List Str} {x : Str} {m : MF}
theorem se_call {n : Nat} (F : FnOk X.prog X.w X.K X.mg X.base (L2.CX X.prog X.w) k f fd ps (spM X.w X.K n m)) (hr : Room k X.A) (hg : Gl X x) (hm : X.mg x = some (.ref f)) (hk : PySem.W.keepIn X.K (.ref f) = true) (hb : Binds X.K fd ps []) (tk : Takes X W)
    (ha : SA X W (e :: es) mas) (hl : LenA mas n) (hdb : (x == ("__debug__" : Str)) = false := by decide) (he : starEach (e :: es) X.env = (false, eval e X.env) :: starEach es X.env := by rfl) (hpl : (backTo pos (starEach es X.env)).any (·.1) = false := by rfl) :
    SE X W (.Call (.Name x p) (e :: es) [] pos) (mCallF m mas) :=
  (pe_callS (E := WE W) F hr hg hm hk hb (passAt tk) ha hdb he hpl).imp fun σ H Q ⟨C, ρ, S, e, s, q⟩ => by
    subst e
    refine ⟨C, ρ, S, rfl, s, ?_⟩
    refine Wants.mono (Wants.bind q) fun ds S1 C1 g r1 e1 q1 vs rv => ?_
    refine ⟨by rw [← rv.length]; exact hl _ _ _ _ e1, C1, S1, ds, rfl, g.w.trans s.w, g.K.trans s.K, r1, rv, ?_⟩
    exact q1.1.wish fun cls dx H h => h
theorem se_call0 (F : FnOk X.prog X.w X.K X.mg X.base (L2.CX X.prog X.w) k f fd ps (spM X.w X.K 0 m)) (hr : Room k X.A) (hg : Gl X x) (hm : X.mg x = some (.ref f)) (hk : PySem.W.keepIn X.K (.ref f) = true) (hb : Binds X.K fd ps [])
    (hpure : ∀ S c d S', m [] S ≠ .exc c d S') (hdb : (x == ("__debug__" : Str)) = false := by decide) :
    SE X W (.Call (.Name x p) [] [] pos) (mCallF m mNil) :=
  (pe_call0 (E := fun _ _ _ => False) (dvs := []) (ds := []) F hr hg hm hk hb .nil (fun pins σ H s e s' I c => by
    obtain ⟨_, _, _, _, _, _, _, _, _, _, _, _, h⟩ := c
    exact h.elim) hdb).imp fun σ H Q ⟨C, ρ, S, e, s, q⟩ => by
    subst e
    refine ⟨rfl, C, S, [], rfl, s.w, s.K, s.rs, .nil, ?_⟩
    have q : Wants W σ C (m [] S) (fun d _ C' => ∀ v, RepV C' d v → Q v C'.H) := q
    cases e : m [] S with
    | ok d S' => rw [e] at q; exact q
    | exc c d S' => exact absurd e (hpure _ _ _ _)
    | stk => rw [e] at q; exact q
end
theorem env_start {C : RC} {ds : List MV} {vs : List V} {N : List Str} (t : RepVs C ds vs) : EnvR C (ev0 N.length ds) (L2.start N vs) := fun i d e => by
  unfold ev0 at e
  by_cases hi : i < ds.length
  · rw [List.getElem?_append_left (by simpa using hi), List.getElem?_map] at e
    cases e1 : ds[i]? with
    | none => rw [e1] at e; cases e
    | some d' =>
      rw [e1] at e
      have : d' = d := by simpa using e
      subst this
      obtain ⟨v, h1, h2⟩ := t.get e1
      refine ⟨v, ?_, h2⟩
      unfold L2.start
      have hv : i < vs.length := by rw [← t.length]; exact hi
      rw [List.getElem?_append_left (by simpa using hv), List.getElem?_map, h1]
      rfl
  · rw [List.getElem?_append_right (by simpa using hi), List.getElem?_replicate] at e
    split at e <;> cases e
/-- a def's body gives its promise -/
theorem body_ok {X : Cx} {body : List Stmt} {m : MS} {N : List Str} {vs : List V} {H : Hp} {Q : VK} {E : XK} {n : Nat} (hN : n ≤ N.length) (hb : SSs X (fun cls dx _ H' => E cls dx H') body m) (hsp : spM X.w X.K n (mFn N.length m) vs H Q E) :
    ∃ t, PSs X body t ∧ t { nx := fun _ H' => Q .non H', rt := Q } (L2.start N vs) H := by
  refine ⟨_, hb, ?_⟩
  obtain ⟨hl, C, S, ds, rfl, hw, hK, r, t, q⟩ := hsp
  have hld := t.length
  refine ⟨C, ev0 N.length ds, S, rfl, ⟨hw, hK, r, env_start t, ?_⟩, ?_⟩
  · unfold ev0 L2.start
    simp [hld]
  · unfold mFn at q
    cases e : m (ev0 N.length ds) S with
    | nx ρ S1 =>
      rw [e] at q
      exact fun C' σ' g r' ev l => q C' g r' .non repN
    | rt d S1 => rw [e] at q; exact fun C' v g r' rv => q C' g r' v rv
    | exc c d ρ S1 => rw [e] at q; exact fun C' σ' cls dx g r' ev l x => q C' cls dx g r' x
    | stk => rw [e] at q; exact q
end Mi
set_option Elab.async false
set_option linter.all false
set_option maxRecDepth 100000
set_option maxHeartbeats 2000000
namespace Mi
open PySem PySem.Spec PyProof.Rows L2
def SqK (K : PySem.W.Frag) : Bool → Hp → Addr → List V → Prop
  | true, H, a, xs => SqT K H a xs
  | false, H, a, xs => SqL K H a xs
def ItK : Bool → Heap → Addr → Addr → Nat → Prop
  | true, h, it, a, i => h.IsTupleIter it a i
  | false, h, it, a, i => h.IsListIter it a i
def CoK : Bool → Heap → Addr → Array Value → Prop
  | true, h, a, its => h.IsTuple a its
  | false, h, a, its => h.IsList a its
def obK : Bool → Addr → Obj
  | true, a => { cls := .type "tuple_iterator", data := .fields #[.ref a, .int 0 0] }
  | false, a => { cls := .type "list_iterator", data := .fields #[.ref a, .int 0 0] }
theorem drawsK {prog : Program} {w : World} {A : Around} (hh : A.handled = none) (it a : Addr) (hne : a ≠ it) : ∀ (t : Bool) (items : Array Value),
    Draws prog w A it [it, a] items.size (fun i v => items[i]? = some v) (fun i h => ItK t h it a i ∧ CoK t h a items)
  | true, items => Draws.tuple hh it a hne items
  | false, items => Draws.list hh it a hne items
theorem beginsK (a : Addr) (items : Array Value) : ∀ t : Bool, Begins (.ref a) (obK t a) fun h => CoK t h a items
  | true => begins_tuple a items
  | false => begins_list a items
theorem itK_new {h : Heap} {it a : Addr} : ∀ {t : Bool}, h.get? it = some (obK t a) → ItK t h it a 0
  | true, e => ⟨_, e, rfl, rfl⟩
  | false, e => ⟨_, e, rfl, rfl⟩
theorem itK_obj {h : Heap} {it a : Addr} {i : Nat} : ∀ {t : Bool}, ItK t h it a i → ∃ o, h.get? it = some o ∧ ∀ v, o.data ≠ .cell v
  | true, ⟨o, e, _, d⟩ => ⟨o, e, fun v z => by rw [d] at z; cases z⟩
  | false, ⟨o, e, _, d⟩ => ⟨o, e, fun v z => by rw [d] at z; cases z⟩
theorem itK_at {h h' : Heap} {it a : Addr} {i : Nat} : ∀ {t : Bool}, ItK t h it a i → (∀ o, h.get? it = some o → h'.get? it = some o) → ItK t h' it a i
  | true, st, k => Heap.IsTupleIter.at st k
  | false, st, k => Heap.IsListIter.at st k
section
variable {X : Cx} {pins : List (Addr × Obj)} {σ : L2.St} {H : Hp} {s : Shared} {a : Addr} {xs ys : List V}
theorem seqK (I : Inv X pins σ H s) : ∀ {t : Bool}, SqK X.K t H a xs → ∃ its : List Value, Vals xs its ∧ CoK t s.heap a its.toArray ∧ a < s.heap.objs.size
  | true, h => by
    obtain ⟨its, rv, p, _⟩ := I.tuple h
    obtain ⟨o, e, _⟩ := id p
    exact ⟨its, rv, p, Heap.lt_size e⟩
  | false, h => by
    obtain ⟨its, rv, p, _⟩ := I.list h
    exact ⟨its, rv, p.isList, p.lt⟩
theorem injK (I : Inv X pins σ H s) : ∀ {t : Bool}, SqK X.K t H a xs → SqK X.K t H a ys → xs = ys
  | true, h, h' => I.tuple_inj h h'
  | false, h, h' => I.list_inj h h'
end
/-- two sources, three sources, the items in a new tuple -/
def ItZ2 (K : PySem.W.Frag) (t1 t2 : Bool) (a b : Addr) : It :=
  ⟨fun i H => ∃ (xs ys : List V) (x y : V), SqK K t1 H a xs ∧ SqK K t2 H b ys ∧ xs[i]? = some x ∧ ys[i]? = some y,
    fun i H v H' => ∃ T x y, v = .ref T ∧ H T = none ∧ H' = upd H T (.tup [x, y]) ∧ (∀ xs, SqK K t1 H a xs → xs[i]? = some x) ∧ ∀ ys, SqK K t2 H b ys → ys[i]? = some y,
    fun i H => ∃ xs ys : List V, SqK K t1 H a xs ∧ SqK K t2 H b ys ∧ i ≤ xs.length ∧ i ≤ ys.length ∧ (i = xs.length ∨ i = ys.length)⟩
def ItZ3 (K : PySem.W.Frag) (t1 t2 t3 : Bool) (a b c : Addr) : It :=
  ⟨fun i H => ∃ (xs ys zs : List V) (x y z : V), SqK K t1 H a xs ∧ SqK K t2 H b ys ∧ SqK K t3 H c zs ∧ xs[i]? = some x ∧ ys[i]? = some y ∧ zs[i]? = some z,
    fun i H v H' => ∃ T x y z, v = .ref T ∧ H T = none ∧ H' = upd H T (.tup [x, y, z]) ∧ (∀ xs, SqK K t1 H a xs → xs[i]? = some x) ∧ (∀ ys, SqK K t2 H b ys → ys[i]? = some y) ∧ ∀ zs, SqK K t3 H c zs → zs[i]? = some z,
    fun i H => ∃ xs ys zs : List V, SqK K t1 H a xs ∧ SqK K t2 H b ys ∧ SqK K t3 H c zs ∧ i ≤ xs.length ∧ i ≤ ys.length ∧ i ≤ zs.length ∧ (i = xs.length ∨ i = ys.length ∨ i = zs.length)⟩
def ItE (K : PySem.W.Frag) (t1 : Bool) (a : Addr) : It :=
  ⟨fun i H => ∃ (xs : List V) (x : V), SqK K t1 H a xs ∧ xs[i]? = some x,
    fun i H v H' => ∃ T x, v = .ref T ∧ H T = none ∧ H' = upd H T (.tup [.int (i : Nat), x]) ∧ (∀ xs, SqK K t1 H a xs → xs[i]? = some x),
    fun i H => ∃ xs : List V, SqK K t1 H a xs ∧ i = xs.length⟩
theorem lenT {xs : List V} {its : List Value} {i : Nat} {x : V} (rv : Vals xs its) (h : xs[i]? = some x) : i < its.toArray.size := by
  have := (List.getElem?_eq_some_iff.mp h).1
  have := rv.length
  simp; omega
theorem itemT {xs : List V} {its : List Value} {i : Nat} {x : V} {u : Value} (rv : Vals xs its) (h : xs[i]? = some x) (hu : its.toArray[i]? = some u) : RelV x u := by
  obtain ⟨u', hu', ru⟩ := rv.get h
  have : u' = u := by
    have e : its[i]? = some u := by simpa using hu
    rw [hu'] at e; cases e; rfl
  rw [← this]; exact ru
structure NewWalk (P : Program) (w : World) (K : PySem.W.Frag) (tg : Expr) (J : It) (fp : List Addr) (I : Addr) (tn : Nat → Heap → Prop) : Prop where
  inI : I ∈ fp
  cells : ∀ i h, tn i h → ∀ b ∈ fp, ∃ o, h.get? b = some o ∧ ∀ v, o.data ≠ .cell v
  stay : ∀ i h h', tn i h → (∀ b ∈ fp, ∀ o, h.get? b = some o → h'.get? b = some o) → tn i h'
  own : ∀ (A : Around) (i : Nat) (s : Shared) (Q : Value → Shared → Prop) (E : Value → Shared → Prop), tn i s.heap → Q (.ref I) s → wpAny (model P w) A (pyIter (.ref I)) Q E s
  more : ∀ (X : Cx) (i : Nat) (pins : List (Addr × Obj)) (s : Shared) (σ : L2.St) (H : Hp), X.prog = P → X.w = w → X.K = K → X.A.in1.handled = none → Inv X pins σ H s →
    (∀ b ∈ fp, FpOk X pins H b ∧ b < s.heap.objs.size) → tn i s.heap → J.go i H →
    ∃ (gf wr : List Addr) (n : Nat) (Y : Nat → Heap → Value → Heap → Prop) (St : Nat → Heap → Prop), GoesN P w X.A tg I gf wr n Y St ∧ i < n ∧ St i s.heap ∧
      ∀ v h' tk, Y i s.heap v h' → St (i + 1) h' → (∀ b o, b ∉ wr → s.heap.get? b = some o → h'.get? b = some o) →
        ∃ x H', Inv X pins σ H' { s with heap := h', toks := tk } ∧ RelV x v ∧ J.yld i H x H' ∧ tn (i + 1) h' ∧ ∀ b ∈ fp, H' b = none
  last : ∀ (X : Cx) (i : Nat) (pins : List (Addr × Obj)) (s : Shared) (σ : L2.St) (H : Hp), X.prog = P → X.w = w → X.K = K → X.A.in1.handled = none → Inv X pins σ H s → tn i s.heap → J.stop i H →
    ∃ (gf wr : List Addr) (n : Nat) (Y : Nat → Heap → Value → Heap → Prop) (St : Nat → Heap → Prop), GoesN P w X.A tg I gf wr n Y St ∧ St n s.heap ∧ ∀ b ∈ wr, b ∈ fp
theorem NewWalk.turn {P : Program} {w : World} {K : PySem.W.Frag} {tg : Expr} {J : It} {fp : List Addr} {I : Addr} {tn : Nat → Heap → Prop} (N : NewWalk P w K tg J fp I tn) : Turn P w K tg J fp I tn := by
  refine ⟨N.inI, N.cells, N.stay, ?_, ?_, N.own⟩
  · intro X eP ew eK calm i pins s σ H E inv fresh now go
    have hh : X.A.in1.handled = none := inv.ok.hd calm
    obtain ⟨gf, wr, n, Y, St, G, lt, st, k⟩ := N.more X i pins s σ H eP ew eK hh inv (fun b hb => ⟨fresh b hb, by
      obtain ⟨o, ho, _⟩ := N.cells i s.heap now b hb
      exact Heap.lt_size ho⟩) now go
    exact G.goes i s _ E lt st fun v h' tk y st' kept _ => k v h' tk y st' kept
  · intro X eP ew eK calm i pins s σ H E inv fresh now over
    have hh : X.A.in1.handled = none := inv.ok.hd calm
    obtain ⟨gf, wr, n, Y, St, G, st, sub⟩ := N.last X i pins s σ H eP ew eK hh inv now over
    exact G.stops s _ E st fun h' tk kept _ => inv.turnedL (fun b o nb => kept b o fun m => nb (sub b m)) fresh
/-- one new tuple -/
theorem one_new {X : Cx} {pins : List (Addr × Obj)} {s : Shared} {σ : L2.St} {H : Hp} {fp wr : List Addr} {T : Addr} {h' : Heap} {tk : Tok} {xs : List V} {us : List Value} (inv : Inv X pins σ H s) (fresh : ∀ b ∈ fp, FpOk X pins H b ∧ b < s.heap.objs.size)
    (sub : ∀ b ∈ wr, b ∈ fp) (kept : ∀ b o, b ∉ wr → s.heap.get? b = some o → h'.get? b = some o) (hT : s.heap.objs.size ≤ T) (tup : h'.IsTuple T us.toArray) (rv : Vals xs us) (sz : xs.length ≤ sizeLine) :
    Inv X pins σ (upd H T (.tup xs)) { s with heap := h', toks := tk } ∧ H T = none ∧ ∀ b ∈ fp, upd H T (.tup xs) b = none :=
  ⟨inv.turnedNew (fun b o nb => kept b o fun m => nb (sub b m)) (fun b hb => (fresh b hb).1) hT ⟨sz, us, rv, tup⟩, inv.hok.fresh hT, fun b hb => by
    rw [upd_ne fun e => Nat.lt_irrefl b (Nat.lt_of_lt_of_le (fresh b hb).2 (by rw [e]; exact hT))]
    exact (fresh b hb).1.1⟩
section
variable {P : Program} {w : World} {K : PySem.W.Frag} {elts : List Expr} {kk : Nat} {tpos : Pos} {t1 t2 t3 : Bool} {a b c z e it TI TO i1 i2 i3 : Addr}
theorem walk_z2 (D : ZipSep2 z TI TO i1 i2 [i1, a] [i2, b]) (na : a ≠ i1) (nb : b ≠ i2) : NewWalk P w K (.Tuple elts kk tpos) (ItZ2 K t1 t2 a b) [z, TI, TO, i1, i2] z
    (fun i h => IsZip h z TI TO .none ∧ IsTupOf2 h TI (.ref i1) (.ref i2) ∧ (∃ x y, IsTupOf2 h TO x y) ∧ ItK t1 h i1 a i ∧ ItK t2 h i2 b i) where
  inI := List.mem_cons_self
  cells := by
    rintro i h ⟨oz, oI, ⟨x, y, oO⟩, o1, o2⟩ d hd
    simp only [List.mem_cons, List.not_mem_nil, or_false] at hd
    rcases hd with rfl | rfl | rfl | rfl | rfl
    · exact ⟨_, oz, nofun⟩
    · exact ⟨_, oI, nofun⟩
    · exact ⟨_, oO, nofun⟩
    · exact itK_obj o1
    · exact itK_obj o2
  stay := by
    rintro i h h' ⟨oz, oI, ⟨x, y, oO⟩, o1, o2⟩ k
    simp only [List.mem_cons, List.not_mem_nil, or_false, forall_eq_or_imp, forall_eq] at k
    exact ⟨k.1 _ oz, k.2.1 _ oI, ⟨x, y, k.2.2.1 _ oO⟩, itK_at o1 k.2.2.2.1, itK_at o2 k.2.2.2.2⟩
  own := fun A i s Q E st => wpAny_pyIter_zip st.1
  more := by
    rintro X i pins s σ H rfl rfl rfl hh inv fresh ⟨oz, oI, oO, o1, o2⟩ ⟨xs, ys, x, y, qx, qy, ex, ey⟩
    obtain ⟨us, ru, pu, _⟩ := seqK inv qx
    obtain ⟨vs, rv, pv, _⟩ := seqK inv qy
    refine ⟨_, _, _, _, _, GoesN.zip2 D (drawsK hh i1 a na t1 us.toArray) (drawsK hh i2 b nb t2 vs.toArray), Nat.lt_min.mpr ⟨lenT ru ex, lenT rv ey⟩, ⟨oz, oI, oO, ⟨o1, pu⟩, ⟨o2, pv⟩⟩, ?_⟩
    rintro v h' tk ⟨T, u, u', rfl, hT, eu, eu', tup⟩ ⟨oz', oI', oO', ⟨o1', _⟩, ⟨o2', _⟩⟩ kept
    obtain ⟨J1, J2, J3⟩ := one_new (tk := tk) (us := [u, u']) inv fresh (by simp) kept hT tup (.cons (itemT ru ex eu) (.cons (itemT rv ey eu') .nil)) (show 2 ≤ sizeLine by decide)
    exact ⟨.ref T, _, J1, rfl, ⟨T, x, y, rfl, J2, rfl, fun l q => injK inv q qx ▸ ex, fun l q => injK inv q qy ▸ ey⟩, ⟨oz', oI', oO', o1', o2'⟩, J3⟩
  last := by
    rintro X i pins s σ H rfl rfl rfl hh inv ⟨oz, oI, oO, o1, o2⟩ ⟨xs, ys, qx, qy, k1, k2, hend⟩
    obtain ⟨us, ru, pu, _⟩ := seqK inv qx
    obtain ⟨vs, rv, pv, _⟩ := seqK inv qy
    have em : min us.toArray.size vs.toArray.size = i := by
      have := ru.length
      have := rv.length
      simp only [List.size_toArray]
      omega
    refine ⟨_, _, _, _, _, GoesN.zip2 D (drawsK hh i1 a na t1 us.toArray) (drawsK hh i2 b nb t2 vs.toArray), ?_, by simp⟩
    rw [em]
    exact ⟨oz, oI, oO, ⟨o1, pu⟩, ⟨o2, pv⟩⟩
theorem walk_z3 (D : ZipSep3 z TI TO i1 i2 i3 [i1, a] [i2, b] [i3, c]) (na : a ≠ i1) (nb : b ≠ i2) (nc : c ≠ i3) : NewWalk P w K (.Tuple elts kk tpos) (ItZ3 K t1 t2 t3 a b c) [z, TI, TO, i1, i2, i3] z
    (fun i h => IsZip h z TI TO .none ∧ IsTupOf3 h TI (.ref i1) (.ref i2) (.ref i3) ∧ (∃ x y v, IsTupOf3 h TO x y v) ∧ ItK t1 h i1 a i ∧ ItK t2 h i2 b i ∧ ItK t3 h i3 c i) where
  inI := List.mem_cons_self
  cells := by
    rintro i h ⟨oz, oI, ⟨x, y, v, oO⟩, o1, o2, o3⟩ d hd
    simp only [List.mem_cons, List.not_mem_nil, or_false] at hd
    rcases hd with rfl | rfl | rfl | rfl | rfl | rfl
    · exact ⟨_, oz, nofun⟩
    · exact ⟨_, oI, nofun⟩
    · exact ⟨_, oO, nofun⟩
    · exact itK_obj o1
    · exact itK_obj o2
    · exact itK_obj o3
  stay := by
    rintro i h h' ⟨oz, oI, ⟨x, y, v, oO⟩, o1, o2, o3⟩ k
    simp only [List.mem_cons, List.not_mem_nil, or_false, forall_eq_or_imp, forall_eq] at k
    exact ⟨k.1 _ oz, k.2.1 _ oI, ⟨x, y, v, k.2.2.1 _ oO⟩, itK_at o1 k.2.2.2.1, itK_at o2 k.2.2.2.2.1, itK_at o3 k.2.2.2.2.2⟩
  own := fun A i s Q E st => wpAny_pyIter_zip st.1
  more := by
    rintro X i pins s σ H rfl rfl rfl hh inv fresh ⟨oz, oI, oO, o1, o2, o3⟩ ⟨xs, ys, zs, x, y, v, qx, qy, qv, ex, ey, ev⟩
    obtain ⟨us, ru, pu, _⟩ := seqK inv qx
    obtain ⟨vs, rv, pv, _⟩ := seqK inv qy
    obtain ⟨ws, rw', pw, _⟩ := seqK inv qv
    refine ⟨_, _, _, _, _, GoesN.zip3 D (drawsK hh i1 a na t1 us.toArray) (drawsK hh i2 b nb t2 vs.toArray) (drawsK hh i3 c nc t3 ws.toArray), Nat.lt_min.mpr ⟨Nat.lt_min.mpr ⟨lenT ru ex, lenT rv ey⟩, lenT rw' ev⟩, ⟨oz, oI, oO, ⟨o1, pu⟩, ⟨o2, pv⟩, ⟨o3, pw⟩⟩, ?_⟩
    rintro _ h' tk ⟨T, u, u', u'', rfl, hT, eu, eu', eu'', tup⟩ ⟨oz', oI', oO', ⟨o1', _⟩, ⟨o2', _⟩, ⟨o3', _⟩⟩ kept
    obtain ⟨J1, J2, J3⟩ := one_new (tk := tk) (us := [u, u', u'']) inv fresh (by simp) kept hT tup (.cons (itemT ru ex eu) (.cons (itemT rv ey eu') (.cons (itemT rw' ev eu'') .nil))) (show 3 ≤ sizeLine by decide)
    exact ⟨.ref T, _, J1, rfl, ⟨T, x, y, v, rfl, J2, rfl, fun l q => injK inv q qx ▸ ex, fun l q => injK inv q qy ▸ ey, fun l q => injK inv q qv ▸ ev⟩, ⟨oz', oI', oO', o1', o2', o3'⟩, J3⟩
  last := by
    rintro X i pins s σ H rfl rfl rfl hh inv ⟨oz, oI, oO, o1, o2, o3⟩ ⟨xs, ys, zs, qx, qy, qz, k1, k2, k3, hend⟩
    obtain ⟨us, ru, pu, _⟩ := seqK inv qx
    obtain ⟨vs, rv, pv, _⟩ := seqK inv qy
    obtain ⟨ws, rw', pw, _⟩ := seqK inv qz
    have em : min (min us.toArray.size vs.toArray.size) ws.toArray.size = i := by
      have := ru.length
      have := rv.length
      have := rw'.length
      simp only [List.size_toArray]
      omega
    refine ⟨_, _, _, _, _, GoesN.zip3 D (drawsK hh i1 a na t1 us.toArray) (drawsK hh i2 b nb t2 vs.toArray) (drawsK hh i3 c nc t3 ws.toArray), ?_, by simp⟩
    rw [em]
    exact ⟨oz, oI, oO, ⟨o1, pu⟩, ⟨o2, pv⟩, ⟨o3, pw⟩⟩
theorem walk_e (na : a ≠ it) (ne : e ≠ it) (nea : e ≠ a) : NewWalk P w K (.Tuple elts kk tpos) (ItE K t1 a) [e, it] e (fun i h => (∃ old, IsEnum h e it ((i : Nat) : Int) old) ∧ ItK t1 h it a i) where
  inI := List.mem_cons_self
  cells := by
    rintro i h ⟨⟨old, oe⟩, o1⟩ d hd
    simp only [List.mem_cons, List.not_mem_nil, or_false] at hd
    rcases hd with rfl | rfl
    · exact ⟨_, oe, nofun⟩
    · exact itK_obj o1
  stay := by
    rintro i h h' ⟨⟨old, oe⟩, o1⟩ k
    simp only [List.mem_cons, List.not_mem_nil, or_false, forall_eq_or_imp, forall_eq] at k
    exact ⟨⟨old, k.1 _ oe⟩, itK_at o1 k.2⟩
  own := fun A i s Q E st q => st.1.elim fun old oe => wpAny_pyIter_enum oe q
  more := by
    rintro X i pins s σ H rfl rfl rfl hh inv fresh ⟨⟨old, oe⟩, o1⟩ ⟨xs, x, qx, ex⟩
    obtain ⟨us, ru, pu, _⟩ := seqK inv qx
    refine ⟨_, _, _, _, _, GoesN.enumFrom 0 (drawsK hh it a na t1 us.toArray) e ne (by simp [ne, nea]) (by simp), lenT ru ex, ⟨⟨old, by rw [Int.zero_add]; exact oe⟩, o1, pu⟩, ?_⟩
    rintro v h' tk ⟨T, t, u, rfl, hT, eu, tup⟩ ⟨⟨old', oe'⟩, o1', _⟩ kept
    rw [Int.zero_add] at tup oe'
    obtain ⟨J1, J2, J3⟩ := one_new (tk := tk) (us := [.int i t, u]) inv fresh (by simp) kept hT tup (.cons (show RelV (.int (i : Nat)) (.int i t) from ⟨_, rfl⟩) (.cons (itemT ru ex eu) .nil)) (show 2 ≤ sizeLine by decide)
    exact ⟨.ref T, _, J1, rfl, ⟨T, x, rfl, J2, rfl, fun l q => injK inv q qx ▸ ex⟩, ⟨⟨old', oe'⟩, o1'⟩, J3⟩
  last := by
    rintro X i pins s σ H rfl rfl rfl hh inv ⟨⟨old, oe⟩, o1⟩ ⟨xs, qx, hend⟩
    obtain ⟨us, ru, pu, _⟩ := seqK inv qx
    have em : us.toArray.size = i := by
      have := ru.length
      simp only [List.size_toArray]
      omega
    refine ⟨_, _, _, _, _, GoesN.enumFrom 0 (drawsK hh it a na t1 us.toArray) e ne (by simp [ne, nea]) (by simp), ?_, by simp⟩
    rw [em]
    exact ⟨⟨old, by rw [Int.zero_add]; exact oe⟩, o1, pu⟩
end
end Mi
set_option Elab.async false
set_option linter.all false
set_option maxRecDepth 100000
set_option maxHeartbeats 2000000
namespace Mi
open PySem PySem.Spec PyProof.Rows L2
/-- a key as data -/
def keyMV : Key → MV
  | .inl i => .int i
  | .inr x => .str x
inductive Src where
  | seq (d : MV) (xs : List MV)
  | rng (lo : Int) (n : Nat)
  | enm (d : MV) (xs : List MV)
  | zp2 (d : MV) (xs : List MV) (e : MV) (ys : List MV)
  | zp3 (d : MV) (xs : List MV) (e : MV) (ys : List MV) (f : MV) (zs : List MV)
  | ezp (d : MV) (xs : List MV) (e : MV) (ys : List MV)
  | dks (ks : List Key)
  | dkt (ks : List MV)
def enmI : Nat → List MV → List MV
  | _, [] => []
  | i, x :: xs => .tup [.int (i : Nat), x] :: enmI (i + 1) xs
def zipI : List MV → List MV → List MV
  | x :: xs, y :: ys => .tup [x, y] :: zipI xs ys
  | _, _ => []
def zipI3 : List MV → List MV → List MV → List MV
  | x :: xs, y :: ys, z :: zs => .tup [x, y, z] :: zipI3 xs ys zs
  | _, _, _ => []
def Src.items : Src → List MV
  | .seq _ xs => xs
  | .rng lo n => (List.range n).map fun (i : Nat) => .int (lo + i)
  | .enm _ xs => enmI 0 xs
  | .zp2 _ xs _ ys => zipI xs ys
  | .zp3 _ xs _ ys _ zs => zipI3 xs ys zs
  | .ezp _ xs _ ys => enmI 0 (zipI xs ys)
  | .dks ks => ks.map keyMV
  | .dkt ks => ks
def Src.ok (S : Sto) : Src → Bool
  | .seq d xs => decide (seqOf S d = some xs)
  | .rng _ _ => true
  | .enm d xs => decide (seqOf S d = some xs)
  | .zp2 d xs e ys => decide (seqOf S d = some xs) && decide (seqOf S e = some ys)
  | .zp3 d xs e ys f zs => decide (seqOf S d = some xs) && (decide (seqOf S e = some ys) && decide (seqOf S f = some zs))
  | .ezp d xs e ys => decide (seqOf S d = some xs) && decide (seqOf S e = some ys)
  | .dks _ => true
  | .dkt _ => true
def isT : MV → Bool
  | .tup _ => true
  | .ptp _ => true
  | _ => false
theorem seqK_of {C : RC} {S : Sto} {d : MV} {v : V} {xs : List MV} (r : RepS C S) (h : RepV C d v) (e : seqOf S d = some xs) : ∃ a vs, v = .ref a ∧ SqK C.K (isT d) C.H a vs ∧ RepVs C xs vs := by
  cases d with
  | tup ys =>
    rw [seqOf] at e; cases e
    rw [RepV] at h
    obtain ⟨a, vs, e, q, t⟩ := h
    exact ⟨a, vs, e, q, t⟩
  | ptp ys =>
    rw [seqOf] at e; cases e
    rw [RepV] at h
    obtain ⟨a, vs, e, ⟨o, q, _⟩, t⟩ := h
    exact ⟨a, vs, e, .inl (.inr ⟨o, q⟩), t⟩
  | kls ys =>
    rw [seqOf] at e; cases e
    rw [RepV] at h
    obtain ⟨a, vs, e, q, t⟩ := h
    refine ⟨a, vs, e, ?_, t⟩
    rcases q with ⟨o, q⟩ | q
    · exact .inl (.inr ⟨o, q⟩)
    · exact q.sq _
  | lst ys => obtain ⟨a, vs, e, q, t⟩ := lstOf_rep r h e; exact ⟨a, vs, e, (show SqL C.K C.H a vs from .of q), t⟩
  | ref n => obtain ⟨a, vs, e, q, t⟩ := lstOf_rep r h e; exact ⟨a, vs, e, (show SqL C.K C.H a vs from .of q), t⟩
  | _ => cases e
theorem Tr.refl {b : Nat} {C : RC} : Tr b C C := ⟨rfl, rfl, fun _ _ h => h, fun _ _ n h => ⟨n, .inl h⟩, fun _ _ _ h => h, fun _ _ _ h => h⟩
theorem Tr.trans {b b' : Nat} {C C1 C2 : RC} (x : Tr b C C1) (y : Tr b' C1 C2) (h : b ≤ b') : Tr b C C2 where
  w := y.w.trans x.w
  K := y.K.trans x.K
  seqT := fun a vs q => y.seqT _ _ (x.seqT _ _ q)
  froz := fun a u n q => by
    obtain ⟨n1, k⟩ := x.froz _ _ n q
    rcases k with k | ⟨nb, e, ob, k⟩
    · obtain ⟨n2, j⟩ := y.froz _ _ n1 k
      rcases j with j | ⟨_, e, j⟩
      · exact ⟨n2, .inl j⟩
      · exact ⟨n2, .inr ⟨n.2, e, j⟩⟩
    · obtain ⟨n2, j⟩ := y.froz _ _ n1 k
      exact ⟨n2, .inr ⟨nb, e, ob, j.exact (.inl fun _ z => by cases z)⟩⟩
  frz := fun a o u q => y.frz _ _ _ (x.frz _ _ _ q)
  ref := fun n a hn q => y.ref n a (Nat.lt_of_lt_of_le hn h) (x.ref n a hn q)
theorem RepV.trn {C C' : RC} (x : Tr C.ι.length C C') {d : MV} {v : V} (h : RepV C d v) : RepV C' d v := RepV.tr x d v (RepV.refs d v h) h
theorem RepVs.trn {C C' : RC} (x : Tr C.ι.length C C') {d : List MV} {v : List V} (h : RepVs C d v) : RepVs C' d v := RepVs.tr x d v (RepVs.refs d v h) h
theorem RepO.trn {C C' : RC} {a : Addr} {o : MO} (x : Tr C.ι.length C C') (e : C'.H a = C.H a) (h : RepO C a o) : RepO C' a o := by
  cases o with
  | lst xs => obtain ⟨vs, q, t⟩ := h; exact ⟨vs, e.trans q, t.trn x⟩
  | dct ks ds => obtain ⟨vs, q, l, nd, t⟩ := h; exact ⟨vs, e.trans q, l, nd, t.trn x⟩
  | dcT ks ds =>
    obtain ⟨sm, ko, nd, l, z, ob, es, ep, ps, us, kvs, vs, q, ex, hd, he, hk, tk, rv, t⟩ := h
    exact ⟨sm, ko, nd, l, z, ob, es, ep, ps, us, kvs, vs, e.trans q, ex, hd, by rw [x.w]; exact he, hk, tk.trn x, rv, t.trn x⟩
  | obj c fs ds => obtain ⟨dx, vs, q, l, t⟩ := h; exact ⟨dx, vs, by rw [x.K]; exact e.trans q, l, t.trn x⟩
/-- what a walk over a source gives -/
def SrcW (X : Cx) (src : Src) (J : It) (C0 : RC) : Prop := ∀ C S, Tr C0.ι.length C0 C → RepS C S → src.ok S = true →
  (∀ i, i < src.items.length → J.go i C.H) ∧ J.stop src.items.length C.H ∧
  ∀ i x H', i < src.items.length → J.yld i C.H x H' → ∃ C' d, C'.H = H' ∧ Grow C C' ∧ RepS C' S ∧ src.items[i]? = some d ∧ RepV C' d x
def tI (X : Cx) (W : WX) (m : Ev → Sto → R Src) : TI := fun σ H Rr => ∃ C ρ S, C.H = H ∧ Sv X ρ σ S C ∧ Wants W σ C (m ρ S) (fun src _ C' => ∀ J, SrcW X src J C' → Rr J C'.H)
abbrev SI (X : Cx) (W : WX) (tg iter : Expr) (m : Ev → Sto → R Src) : Prop := PI X tg iter (tI X W m)
def srcOf (d : MV) (S : Sto) : R Src := match seqOf S d with
  | some xs => .ok (.seq d xs) S
  | none => .stk
def mSrc (e : ME) : Ev → Sto → R Src := fun ρ S => (e ρ S).bind srcOf
theorem srcOf_of {d : MV} {S S' : Sto} {s : Src} (h : srcOf d S = .ok s S') : ∃ xs, seqOf S d = some xs ∧ s = .seq d xs ∧ S' = S := by
  unfold srcOf at h
  split at h
  · cases h; exact ⟨_, by assumption, rfl, rfl⟩
  · cases h
def JSeq (K : PySem.W.Frag) : Bool → Addr → It
  | true, a => Itt K a
  | false, a => Itl K a
theorem src_seq {X : Cx} {C0 : RC} {d : MV} {xs : List MV} {a : Addr} (hK : C0.K = X.K) (rv : RepV C0 d (.ref a)) : SrcW X (.seq d xs) (JSeq X.K (isT d) a) C0 := fun C S x r ok => by
  have rv' := rv.trn x
  have e : seqOf S d = some xs := of_decide_eq_true ok
  obtain ⟨a', vs, e1, sq, t⟩ := seqK_of r rv' e
  cases e1
  rw [x.K, hK] at sq
  have l := t.length
  show (∀ i, i < xs.length → _) ∧ (JSeq X.K (isT d) a).stop xs.length C.H ∧ ∀ i x H', i < xs.length → _ → _
  cases hd : isT d with
  | true =>
    rw [hd] at sq
    refine ⟨fun i hi => ⟨vs, vs[i]'(by omega), sq, by rw [List.getElem?_eq_getElem]⟩, ⟨vs, sq, by omega⟩, fun i z H' hi y => ?_⟩
    obtain ⟨e2, y⟩ := y
    obtain ⟨d', h1, h2⟩ := t.get' (y vs sq)
    exact ⟨C, d', e2.symm, Grow.refl, r, h1, h2⟩
  | false =>
    rw [hd] at sq
    refine ⟨fun i hi => ⟨vs, vs[i]'(by omega), sq, by rw [List.getElem?_eq_getElem]⟩, ⟨vs, sq, by omega⟩, fun i z H' hi y => ?_⟩
    obtain ⟨e2, y⟩ := y
    obtain ⟨d', h1, h2⟩ := t.get' (y vs sq)
    exact ⟨C, d', e2.symm, Grow.refl, r, h1, h2⟩
theorem pi_seqK {X : Cx} {tg l : Expr} {tl : TE} (hl : PE X l tl) : PI X tg l (fun σ H Rr => tl σ H fun x H1 => ∃ a t xs, x = .ref a ∧ SqK X.K t H1 a xs ∧ Rr (JSeq X.K t a) H1) where
  run pins s σ H Rr inv q := by
    refine thn (hl.run pins s σ H _ inv q) ?_
    rintro v s1 ⟨_, H1, inv1, rv, a, t, xs, rfl, sq, q1⟩
    cases rv
    obtain ⟨us, _, p, _⟩ := seqK inv1 sq
    cases t
    · exact wpAny_pyIter_list p (pi_one (tk := s1.toks) inv1 _ (turn_list a _) ⟨_, Heap.get?_push_size _ rfl, rfl, rfl⟩ q1)
    · exact wpAny_pyIter_tuple p (pi_one (tk := s1.toks) inv1 _ (turn_tuple a _) ⟨_, Heap.get?_push_size _ rfl, rfl, rfl⟩ q1)
theorem _root_.L2.PI.imp {X : Cx} {tg it : Expr} {t t' : TI} (h : PI X tg it t) (k : ∀ σ H Q, t' σ H Q → t σ H Q) : PI X tg it t' := ⟨fun pins s σ H Q I q => h.run pins s σ H Q I (k σ H Q q)⟩
section
variable {X : Cx} {W : WX} {tg l e e2 e3 : Expr} {ml : ME} {mas : MA} {p pos tpos : Pos} {elts : List Expr} {kk : Nat}
theorem si_seq (hl : SE X W l ml) : SI X W tg l (mSrc ml) :=
  (pi_seqK hl).imp fun σ H Q ⟨C, ρ, S, e, s, q⟩ => by
    subst e
    refine tE.bind s q fun d S1 C1 v s1 g1 r1 q1 => ?_
    cases e : srcOf d S1 with
    | ok src S' =>
      rw [e] at q1
      obtain ⟨xs, e1, rfl, rfl⟩ := srcOf_of e
      obtain ⟨a, vs, rfl, sq, t⟩ := seqK_of s1.rs r1 e1
      rw [s1.K] at sq
      exact ⟨a, isT d, vs, rfl, sq, q1.now s1.rs _ (src_seq s1.K r1)⟩
    | exc c d' S' => unfold srcOf at e; split at e <;> cases e
    | stk => rw [e] at q1; exact q1.elim
def rngFit : Int → Bool
  | .ofNat m => Nat.blt m 4611686018427387904
  | .negSucc m => Nat.blt m 4611686018427387904
theorem rngFit_ok : ∀ {j : Int}, rngFit j = true → -(2 ^ 62) ≤ j ∧ j < 2 ^ 62
  | .ofNat m, h => by
    have h : m ≤ 4611686018427387903 := by simpa [rngFit, Nat.blt] using h
    have e : Int.ofNat m = (m : Int) := rfl
    rw [e]; omega
  | .negSucc m, h => by
    have h : m ≤ 4611686018427387903 := by simpa [rngFit, Nat.blt] using h
    have e : Int.negSucc m = -(m : Int) - 1 := by omega
    rw [e]; omega
def rngOf : List MV → Sto → R Src
  | [.int j], S => if rngFit j then .ok (.rng 0 j.toNat) S else .stk
  | _, _ => .stk
def mRng (m : MA) : Ev → Sto → R Src := fun ρ S => (m ρ S).bind rngOf
def rng2Of : List MV → Sto → R Src
  | [.int i, .int j], S => if rngFit i && rngFit j then .ok (.rng i (j - i).toNat) S else .stk
  | _, _ => .stk
def mRng2 (m : MA) : Ev → Sto → R Src := fun ρ S => (m ρ S).bind rng2Of
theorem src_rng {C0 : RC} {lo : Int} {n : Nat} : SrcW X (.rng lo n) (Itr lo n) C0 := fun C S x r ok => by
  have hl : (Src.rng lo n).items.length = n := by simp [Src.items]
  rw [hl]
  refine ⟨fun i hi => hi, Nat.le_refl _, fun i z H' hi y => ?_⟩
  obtain ⟨rfl, rfl⟩ := y
  exact ⟨C, .int (lo + i), rfl, Grow.refl, r, by simp [Src.items, hi], repI _⟩
theorem si_rng (hg : Gl X "range") (hm : X.mg "range" = none) (ha : SA X W [e] mas) (hs : starEach [e] X.env = [(false, eval e X.env)] := by rfl) : SI X W tg (.Call (.Name "range" p) [e] [] pos) (mRng mas) :=
  (pi_range1 hg hm ha hs).imp fun σ H Q ⟨C, ρ, S, e, s, q⟩ => by
    subst e
    refine tA.bind s q fun ds S1 C1 vs s1 g1 r1 q1 => ?_
    unfold rngOf at q1
    split at q1
    · split at q1
      · obtain ⟨v, rfl, rv⟩ := one_of r1
        rename_i h
        have h := rngFit_ok h
        exact ⟨_, by rw [vInt rv], h.1, h.2, q1.now s1.rs _ src_rng⟩
      · exact q1.elim
    · exact q1.elim
theorem si_rng2 (hg : Gl X "range") (hm : X.mg "range" = none) (ha : SA X W [e, e2] mas) (hs : starEach [e, e2] X.env = [(false, eval e X.env), (false, eval e2 X.env)] := by rfl) (hs2 : starEach [e2] X.env = [(false, eval e2 X.env)] := by rfl) : SI X W tg (.Call (.Name "range" p) [e, e2] [] pos) (mRng2 mas) :=
  (pi_range2 hg hm ha hs hs2).imp fun σ H Q ⟨C, ρ, S, e, s, q⟩ => by
    subst e
    refine tA.bind s q fun ds S1 C1 vs s1 g1 r1 q1 => ?_
    unfold rng2Of at q1
    split at q1
    · split at q1
      · obtain ⟨v, u, rfl, rv, ru⟩ := two_of r1
        rename_i h
        have h := Bool.and_eq_true_iff.mp h
        have h1 := rngFit_ok h.1
        have h2 := rngFit_ok h.2
        exact ⟨_, _, by rw [vInt rv, vInt ru], ⟨h1.1, h1.2, h2.1, h2.2⟩, q1.now s1.rs _ src_rng⟩
      · exact q1.elim
    · exact q1.elim
theorem refs_of : ∀ {as : List Addr} {us : List Value}, Vals (as.map V.ref) us → us = as.map Value.ref
  | [], _, .nil => rfl
  | a :: as, _, .cons r rr => by rw [refs_of rr]; cases r; rfl
theorem pi_made {ta : TA} {es : List Expr} {nm : Str} {T : String} {wq : List V → Hp → (It → Hp → Prop) → Prop} (hg : Gl X nm) (hm : X.mg nm = none) (hv : bootBuiltins nm = some (.type T)) (ha : PA X (e :: es) ta)
    (mk : ∀ (pins : List (Addr × Obj)) (σ : L2.St) (H : Hp) (s : Shared) (us : List Value) (vs : List V) (Rr : It → Hp → Prop), Inv X pins σ H s → Vals vs us → wq vs H Rr →
      wpAny (model X.prog X.w) X.A (call (.type T) us) (fun v s' => wpAny (model X.prog X.w) X.A (pyIter v) (PIE X pins σ tg Rr) X.xe s') X.xe s)
    (hs : starEach (e :: es) X.env = (false, eval e X.env) :: starEach es X.env) (hpl : (backTo pos (starEach es X.env)).any (·.1) = false) (nn : nm ≠ "__name__" := by decide) (nd : (nm == ("__debug__" : Str)) = false := by decide) :
    PI X tg (.Call (.Name nm p) (e :: es) [] pos) (fun σ H Rr => ta σ H fun vs H1 => wq vs H1 Rr) where
  run pins s σ H Rr inv q := Call_ (ld_blt inv hg hm hv (callWith_type1 (thn (ha.run pos pins s σ H _ inv q) fun us s1 ⟨vs, H1, inv1, r, q1⟩ => mk pins σ H1 s1 us vs Rr inv1 r q1) hs hpl) nn nd)
theorem all_new {pins : List (Addr × Obj)} {σ : L2.St} {H : Hp} {s : Shared} (inv : Inv X pins σ H s) {fp : List Addr} (h : fp.all (fun b => Nat.ble s.heap.objs.size b) = true) : ∀ b ∈ fp, FpOk X pins H b := fun b hb => by
  have le : s.heap.objs.size ≤ b := Nat.le_of_ble_eq_true (List.all_eq_true.mp h b hb)
  exact inv.fpOk le (inv.hok.fresh le)
theorem pi_z2 {ta : TA} (hg : Gl X "zip") (hm : X.mg "zip" = none) (ha : PA X [e, e2] ta)
    (hs : starEach (e :: [e2]) X.env = (false, eval e X.env) :: starEach [e2] X.env) (hpl : (backTo pos (starEach [e2] X.env)).any (·.1) = false) :
    PI X (.Tuple elts kk tpos) (.Call (.Name "zip" p) (e :: [e2]) [] pos) (fun σ H Rr => ta σ H fun vs H1 => ∃ a b t1 t2 xs ys, vs = [.ref a, .ref b] ∧ SqK X.K t1 H1 a xs ∧ SqK X.K t2 H1 b ys ∧ Rr (ItZ2 X.K t1 t2 a b) H1) := by
  refine pi_made hg hm PyProof.Rows.boot_zip ha ?_ hs hpl
  rintro pins σ H s us _ Rr inv r ⟨a, b, t1, t2, xs, ys, rfl, qx, qy, q⟩
  cases refs_of (as := [a, b]) r
  obtain ⟨ua, _, pa, la⟩ := seqK inv qx
  obtain ⟨ub, _, pb, lb⟩ := seqK inv qy
  refine zip_begins2 (beginsK a ua.toArray t1) (beginsK b ub.toArray t2) pa pb fun h' oz oI oO o1 o2 _ kept => wpAny_pyIter_zip oz ?_
  have sep := zip_sep2 (N := s.heap.objs.size) (fp1 := [a]) (fp2 := [b]) (by simpa using la) (by simpa using lb)
  exact ⟨_, _, _, _, H, rfl, inv.kept (t' := s.toks) kept, (walk_z2 sep (Nat.ne_of_lt la) (Nat.ne_of_lt (Nat.lt_succ_of_lt lb))).turn, ⟨oz, oI, ⟨_, _, oO⟩, itK_new o1, itK_new o2⟩, all_new inv (by simp [Nat.ble_eq]), q⟩
theorem pi_z3 {ta : TA} (hg : Gl X "zip") (hm : X.mg "zip" = none) (ha : PA X [e, e2, e3] ta)
    (hs : starEach (e :: [e2, e3]) X.env = (false, eval e X.env) :: starEach [e2, e3] X.env) (hpl : (backTo pos (starEach [e2, e3] X.env)).any (·.1) = false) :
    PI X (.Tuple elts kk tpos) (.Call (.Name "zip" p) (e :: [e2, e3]) [] pos) (fun σ H Rr => ta σ H fun vs H1 => ∃ a b c t1 t2 t3 xs ys zs, vs = [.ref a, .ref b, .ref c] ∧ SqK X.K t1 H1 a xs ∧ SqK X.K t2 H1 b ys ∧ SqK X.K t3 H1 c zs ∧ Rr (ItZ3 X.K t1 t2 t3 a b c) H1) := by
  refine pi_made hg hm PyProof.Rows.boot_zip ha ?_ hs hpl
  rintro pins σ H s us _ Rr inv r ⟨a, b, c, t1, t2, t3, xs, ys, zs, rfl, qx, qy, qz, q⟩
  cases refs_of (as := [a, b, c]) r
  obtain ⟨ua, _, pa, la⟩ := seqK inv qx
  obtain ⟨ub, _, pb, lb⟩ := seqK inv qy
  obtain ⟨uc, _, pc, lc⟩ := seqK inv qz
  refine zip_begins3 (beginsK a ua.toArray t1) (beginsK b ub.toArray t2) (beginsK c uc.toArray t3) pa pb pc fun h' oz oI oO o1 o2 o3 _ kept => wpAny_pyIter_zip oz ?_
  have sep := zip_sep3 (N := s.heap.objs.size) (fp1 := [a]) (fp2 := [b]) (fp3 := [c]) (by simpa using la) (by simpa using lb) (by simpa using lc)
  exact ⟨_, _, _, _, H, rfl, inv.kept (t' := s.toks) kept, (walk_z3 sep (Nat.ne_of_lt la) (Nat.ne_of_lt (Nat.lt_succ_of_lt lb)) (Nat.ne_of_lt (Nat.lt_add_right 2 lc))).turn, ⟨oz, oI, ⟨_, _, _, oO⟩, itK_new o1, itK_new o2, itK_new o3⟩, all_new inv (by simp [Nat.ble_eq]), q⟩
theorem zipI_get : ∀ {xs ys : List MV} {i : Nat} {x y : MV}, xs[i]? = some x → ys[i]? = some y → (zipI xs ys)[i]? = some (.tup [x, y])
  | [], _, _, _, _, e1, _ => by simp at e1
  | _ :: _, [], _, _, _, _, e2 => by simp at e2
  | a :: xs, b :: ys, 0, x, y, h, h' => by simp at h h'; subst h; subst h'; rfl
  | a :: xs, b :: ys, i + 1, x, y, h, h' => by
    have := zipI_get (xs := xs) (ys := ys) (i := i) (by simpa using h) (by simpa using h')
    simpa [zipI] using this
theorem zipI_len : ∀ {xs ys : List MV}, (zipI xs ys).length = min xs.length ys.length
  | [], _ => by simp [zipI]
  | _ :: _, [] => by simp [zipI]
  | a :: xs, b :: ys => by simp only [zipI, List.length_cons, zipI_len (xs := xs) (ys := ys)]; omega
theorem zipI3_get : ∀ {xs ys zs : List MV} {i : Nat} {x y z : MV}, xs[i]? = some x → ys[i]? = some y → zs[i]? = some z → (zipI3 xs ys zs)[i]? = some (.tup [x, y, z])
  | [], _, _, _, _, _, _, h, _, _ => by simp at h
  | _ :: _, [], _, _, _, _, _, _, h, _ => by simp at h
  | _ :: _, _ :: _, [], _, _, _, _, _, _, h => by simp at h
  | a :: xs, b :: ys, c :: zs, 0, x, y, z, h, h', h'' => by simp at h h' h''; subst h; subst h'; subst h''; rfl
  | a :: xs, b :: ys, c :: zs, i + 1, x, y, z, h, h', h'' => by
    have := zipI3_get (xs := xs) (ys := ys) (zs := zs) (i := i) (by simpa using h) (by simpa using h') (by simpa using h'')
    simpa [zipI3] using this
theorem zipI3_len : ∀ {xs ys zs : List MV}, (zipI3 xs ys zs).length = min xs.length (min ys.length zs.length)
  | [], _, _ => by simp [zipI3]
  | _ :: _, [], _ => by simp [zipI3]
  | _ :: _, _ :: _, [] => by simp [zipI3]
  | a :: xs, b :: ys, c :: zs => by simp only [zipI3, List.length_cons, zipI3_len (xs := xs) (ys := ys) (zs := zs)]; omega
theorem enmI_get : ∀ {xs : List MV} {i k : Nat} {x : MV}, xs[i]? = some x → (enmI k xs)[i]? = some (.tup [.int ((k + i : Nat) : Int), x])
  | [], _, _, _, e1 => by simp at e1
  | a :: xs, 0, k, x, h => by simp at h; subst h; rfl
  | a :: xs, i + 1, k, x, h => by
    have := enmI_get (xs := xs) (i := i) (k := k + 1) (by simpa using h)
    rw [show k + 1 + i = k + (i + 1) by omega] at this
    simpa [enmI] using this
theorem enmI_len : ∀ {xs : List MV} {k : Nat}, (enmI k xs).length = xs.length
  | [], _ => rfl
  | a :: xs, k => by simp only [enmI, List.length_cons, enmI_len (xs := xs)]
theorem src_z2 {C0 : RC} {d e : MV} {xs ys : List MV} {a b : Addr} (hK : C0.K = X.K) (rv : RepV C0 d (.ref a)) (rv2 : RepV C0 e (.ref b)) : SrcW X (.zp2 d xs e ys) (ItZ2 X.K (isT d) (isT e) a b) C0 := fun C S x r ok => by
  have ok' : seqOf S d = some xs ∧ seqOf S e = some ys := by simpa [Src.ok] using ok
  obtain ⟨a', vs, e1, sq, t⟩ := seqK_of r (rv.trn x) ok'.1
  obtain ⟨b', us, e2, sq2, t2⟩ := seqK_of r (rv2.trn x) ok'.2
  cases e1
  cases e2
  rw [x.K, hK] at sq sq2
  have l := t.length
  have l2 := t2.length
  have hl : (Src.zp2 d xs e ys).items.length = min xs.length ys.length := zipI_len
  rw [hl]
  refine ⟨fun i hi => ⟨vs, us, vs[i]'(by omega), us[i]'(by omega), sq, sq2, by rw [List.getElem?_eq_getElem], by rw [List.getElem?_eq_getElem]⟩, ⟨vs, us, sq, sq2, by omega, by omega, by omega⟩, fun i z H' hi y => ?_⟩
  obtain ⟨T, x1, y1, rfl, hT, rfl, f1, f2⟩ := y
  obtain ⟨d1, h1, h2⟩ := t.get' (f1 vs sq)
  obtain ⟨d2, h3, h4⟩ := t2.get' (f2 us sq2)
  exact ⟨C.put T (.tup [x1, y1]), _, rfl, Grow.put hT, r.put hT, zipI_get h1 h3, repTup put_same (.cons (h2.grow (Grow.put hT) r) (.cons (h4.grow (Grow.put hT) r) .nil))⟩
theorem src_z3 {C0 : RC} {d e f : MV} {xs ys zs : List MV} {a b c : Addr} (hK : C0.K = X.K) (rv : RepV C0 d (.ref a)) (rv2 : RepV C0 e (.ref b)) (rv3 : RepV C0 f (.ref c)) : SrcW X (.zp3 d xs e ys f zs) (ItZ3 X.K (isT d) (isT e) (isT f) a b c) C0 := fun C S x r ok => by
  have ok' : seqOf S d = some xs ∧ seqOf S e = some ys ∧ seqOf S f = some zs := by simpa [Src.ok] using ok
  obtain ⟨a', vs, e1, sq, t⟩ := seqK_of r (rv.trn x) ok'.1
  obtain ⟨b', us, e2, sq2, t2⟩ := seqK_of r (rv2.trn x) ok'.2.1
  obtain ⟨c', ws, e3, sq3, t3⟩ := seqK_of r (rv3.trn x) ok'.2.2
  cases e1
  cases e2
  cases e3
  rw [x.K, hK] at sq sq2 sq3
  have l := t.length
  have l2 := t2.length
  have l3 := t3.length
  have hl : (Src.zp3 d xs e ys f zs).items.length = min xs.length (min ys.length zs.length) := zipI3_len
  rw [hl]
  refine ⟨fun i hi => ⟨vs, us, ws, vs[i]'(by omega), us[i]'(by omega), ws[i]'(by omega), sq, sq2, sq3, by rw [List.getElem?_eq_getElem], by rw [List.getElem?_eq_getElem], by rw [List.getElem?_eq_getElem]⟩, ⟨vs, us, ws, sq, sq2, sq3, by omega, by omega, by omega, by omega⟩, fun i z H' hi y => ?_⟩
  obtain ⟨T, x1, y1, z1, rfl, hT, rfl, f1, f2, f3⟩ := y
  obtain ⟨d1, h1, h2⟩ := t.get' (f1 vs sq)
  obtain ⟨d2, h3, h4⟩ := t2.get' (f2 us sq2)
  obtain ⟨d3, h5, h6⟩ := t3.get' (f3 ws sq3)
  exact ⟨C.put T (.tup [x1, y1, z1]), _, rfl, Grow.put hT, r.put hT, zipI3_get h1 h3 h5, repTup put_same (.cons (h2.grow (Grow.put hT) r) (.cons (h4.grow (Grow.put hT) r) (.cons (h6.grow (Grow.put hT) r) .nil)))⟩
theorem src_e {C0 : RC} {d : MV} {xs : List MV} {a : Addr} (hK : C0.K = X.K) (rv : RepV C0 d (.ref a)) : SrcW X (.enm d xs) (ItE X.K (isT d) a) C0 := fun C S x r ok => by
  have ok' : seqOf S d = some xs := by simpa [Src.ok] using ok
  obtain ⟨a', vs, e1, sq, t⟩ := seqK_of r (rv.trn x) ok'
  cases e1
  rw [x.K, hK] at sq
  have l := t.length
  have hl : (Src.enm d xs).items.length = xs.length := enmI_len
  rw [hl]
  refine ⟨fun i hi => ⟨vs, vs[i]'(by omega), sq, by rw [List.getElem?_eq_getElem]⟩, ⟨vs, sq, by omega⟩, fun i z H' hi y => ?_⟩
  obtain ⟨T, x1, rfl, hT, rfl, f1⟩ := y
  obtain ⟨d1, h1, h2⟩ := t.get' (f1 vs sq)
  have := enmI_get (k := 0) h1
  rw [Nat.zero_add] at this
  exact ⟨C.put T (.tup [.int (i : Nat), x1]), _, rfl, Grow.put hT, r.put hT, this, repTup put_same (.cons (repI _) (.cons (h2.grow (Grow.put hT) r) .nil))⟩
def zp2Of : List MV → Sto → R Src
  | [d, e], S => match seqOf S d, seqOf S e with
    | some xs, some ys => .ok (.zp2 d xs e ys) S
    | _, _ => .stk
  | _, _ => .stk
def mZip2 (m : MA) : Ev → Sto → R Src := fun ρ S => (m ρ S).bind zp2Of
def zp3Of : List MV → Sto → R Src
  | [d, e, f], S => match seqOf S d, seqOf S e, seqOf S f with
    | some xs, some ys, some zs => .ok (.zp3 d xs e ys f zs) S
    | _, _, _ => .stk
  | _, _ => .stk
def mZip3 (m : MA) : Ev → Sto → R Src := fun ρ S => (m ρ S).bind zp3Of
def enmOf : List MV → Sto → R Src
  | [d], S => match seqOf S d with
    | some xs => .ok (.enm d xs) S
    | none => .stk
  | _, _ => .stk
def mEnum (m : MA) : Ev → Sto → R Src := fun ρ S => (m ρ S).bind enmOf
theorem si_zip2 (hg : Gl X "zip") (hm : X.mg "zip" = none) (ha : SA X W [e, e2] mas)
    (hs : starEach (e :: [e2]) X.env = (false, eval e X.env) :: starEach [e2] X.env := by rfl)
    (hpl : (backTo pos (starEach [e2] X.env)).any (·.1) = false := by rfl) :
    SI X W (.Tuple elts kk tpos) (.Call (.Name "zip" p) [e, e2] [] pos) (mZip2 mas) :=
  (pi_z2 hg hm ha hs hpl).imp fun σ H Q ⟨C, ρ, S, e, s, q⟩ => by
    subst e
    refine tA.bind s q fun ds S1 C1 vs s1 g1 r1 q1 => ?_
    unfold zp2Of at q1
    split at q1
    · split at q1
      · rename_i e1 e2
        obtain ⟨v, u, rfl, rv, ru⟩ := two_of r1
        obtain ⟨a, vs, rfl, sq, t⟩ := seqK_of s1.rs rv e1
        obtain ⟨b, us, rfl, sq2, t2⟩ := seqK_of s1.rs ru e2
        rw [s1.K] at sq sq2
        exact ⟨a, b, _, _, vs, us, rfl, sq, sq2, q1.now s1.rs _ (src_z2 s1.K rv ru)⟩
      · exact q1.elim
    · exact q1.elim
theorem three_of {C : RC} {d e f : MV} {vs : List V} (t : RepVs C [d, e, f] vs) : ∃ v u w, vs = [v, u, w] ∧ RepV C d v ∧ RepV C e u ∧ RepV C f w := by
  obtain ⟨v, vr, rfl, r, t⟩ := t.cons_inv
  obtain ⟨u, w, rfl, r2, r3⟩ := two_of t
  exact ⟨v, u, w, rfl, r, r2, r3⟩
theorem si_zip3 (hg : Gl X "zip") (hm : X.mg "zip" = none) (ha : SA X W [e, e2, e3] mas)
    (hs : starEach (e :: [e2, e3]) X.env = (false, eval e X.env) :: starEach [e2, e3] X.env := by rfl)
    (hpl : (backTo pos (starEach [e2, e3] X.env)).any (·.1) = false := by rfl) :
    SI X W (.Tuple elts kk tpos) (.Call (.Name "zip" p) [e, e2, e3] [] pos) (mZip3 mas) :=
  (pi_z3 hg hm ha hs hpl).imp fun σ H Q ⟨C, ρ, S, e, s, q⟩ => by
    subst e
    refine tA.bind s q fun ds S1 C1 vs s1 g1 r1 q1 => ?_
    unfold zp3Of at q1
    split at q1
    · split at q1
      · rename_i e1 e2 e3
        obtain ⟨v, u, x, rfl, rv, ru, rx⟩ := three_of r1
        obtain ⟨a, vs, rfl, sq, t⟩ := seqK_of s1.rs rv e1
        obtain ⟨b, us, rfl, sq2, t2⟩ := seqK_of s1.rs ru e2
        obtain ⟨c, ws, rfl, sq3, t3⟩ := seqK_of s1.rs rx e3
        rw [s1.K] at sq sq2 sq3
        exact ⟨a, b, c, _, _, _, vs, us, ws, rfl, sq, sq2, sq3, q1.now s1.rs _ (src_z3 s1.K rv ru rx)⟩
      · exact q1.elim
    · exact q1.elim
end
end Mi
set_option Elab.async false
set_option linter.all false
set_option maxRecDepth 100000
set_option maxHeartbeats 2000000
namespace Mi
open PySem PySem.Spec PyProof.Rows L2
def forGo (ok : Sto → Bool) (g : Tg) (body : MS) : List MV → MS
  | [], ρ, S => if ok S then .nx ρ S else .stk
  | x :: xs, ρ, S => if ok S then (match g.f x ρ with
    | some ρ1 => match body ρ1 S with
      | .nx ρ2 S2 => forGo ok g body xs ρ2 S2
      | r => r
    | none => .stk) else .stk
def mFor (mi : Ev → Sto → R Src) (g : Tg) (body : MS) : MS := fun ρ S => (mi ρ S).thn ρ fun src S1 => forGo (fun S => src.ok S) g body src.items ρ S1
section
variable {X : Cx} {W : WX} {tg iter : Expr} {body : List Stmt} {mi : Ev → Sto → R Src} {g : Tg} {mb : MS} {pos : Pos}
theorem ss_for (hp : PassesOwn (model X.prog X.w) X.A X.env X.xe) (hc : X.calm = true) (hi : SI X W tg iter mi) (hg : SG X tg g) (hb : SSs X W body mb)
    (hs : ∀ x, foldedSetIterable iter X.env x = pure x := by intro _; rfl) : SS X W (.For tg iter body [] pos) (mFor mi g mb) :=
  (ps_for hp hc hi hg hb hs).imp fun D σ H ⟨C, ρ, S, e, s, q⟩ => by
    subst e
    refine ⟨C, ρ, S, rfl, s, ?_⟩
    refine (WantS.thn s q).mono fun src S1 C1 g1 r1 _ q1 J sw => ?_
    refine ⟨fun i m σ' H' => m = src.items.length - i ∧ i ≤ src.items.length ∧ ∃ C' ρ' S', C'.H = H' ∧ Sv X ρ' σ' S' C' ∧ Grow C1 C' ∧ WantS W D C' (forGo (fun S => src.ok S) g mb (src.items.drop i) ρ' S'), ⟨src.items.length, by simp, Nat.zero_le _, C1, ρ, S1, rfl, s.grow g1 r1, Grow.refl, q1.1⟩, ?_⟩
    rintro i m σ' H' ⟨rfl, hi, C', ρ', S', rfl, s', g', w⟩
    by_cases hlt : i < src.items.length
    · have ed : src.items.drop i = src.items[i] :: src.items.drop (i + 1) := List.drop_eq_getElem_cons hlt
      rw [ed, forGo] at w
      by_cases hok : src.ok S' = true
      · rw [if_pos hok] at w
        obtain ⟨k1, k2, k3⟩ := sw C' S' (g'.tr r1) s'.rs hok
        refine .inr ⟨k1 i hlt, fun σ'' H'' => (fun i m σ' H' => m = src.items.length - i ∧ i ≤ src.items.length ∧ ∃ C' ρ' S', C'.H = H' ∧ Sv X ρ' σ' S' C' ∧ Grow C1 C' ∧ WantS W D C' (forGo (fun S => src.ok S) g mb (src.items.drop i) ρ' S')) (i + 1) (src.items.length - (i + 1)) σ'' H'',
          fun σ'' H'' h => ⟨_, by omega, h⟩, fun x H'' y => ?_⟩
        obtain ⟨C2, d, rfl, g2, r2, e2, rv⟩ := k3 i x H'' hlt y
        rw [List.getElem?_eq_getElem hlt] at e2
        have e3 : src.items[i] = d := Option.some.inj e2
        cases e4 : g.f src.items[i] ρ' with
        | none => rw [e4] at w; exact w.elim
        | some ρ1 =>
          rw [e4] at w
          dsimp only at w
          refine ⟨C2, ρ', S', d, ρ1, rfl, s'.grow g2 r2, rv, by rw [← e3]; exact e4, fun σ1 ev1 l1 _ _ => ?_⟩
          refine ⟨C2, ρ1, S', rfl, ⟨g2.w.trans s'.w, g2.K.trans s'.K, r2, ev1, l1⟩, ?_⟩
          cases e5 : mb ρ1 S' with
          | nx ρ2 S2 =>
            rw [e5] at w
            exact fun C3 σ3 g3 r3 ev3 l3 => ⟨rfl, hlt, C3, ρ2, S2, rfl, ⟨g3.w.trans (g2.w.trans s'.w), g3.K.trans (g2.K.trans s'.K), r3, ev3, l3⟩, g'.trans (g2.trans g3), w.grow (g2.trans g3)⟩
          | rt d S2 => rw [e5] at w; exact w.grow g2
          | exc c d ρ2 S2 => rw [e5] at w; exact w.grow g2
          | stk => rw [e5] at w; exact w.elim
      · rw [if_neg hok] at w; exact w.elim
    · have e : i = src.items.length := by omega
      subst e
      rw [List.drop_length, forGo] at w
      by_cases hok : src.ok S' = true
      · rw [if_pos hok] at w
        obtain ⟨k1, k2, k3⟩ := sw C' S' (g'.tr r1) s'.rs hok
        exact .inl ⟨k2, w C' σ' Grow.refl s'.rs s'.ev s'.ln⟩
      · rw [if_neg hok] at w; exact w.elim
end
def wipeE (ρ : Ev) : List Nat → Ev
  | [] => ρ
  | v :: vs => (wipeE ρ vs).set v none
theorem wipeE_len (ρ : Ev) : ∀ vs, (wipeE ρ vs).length = ρ.length
  | [] => rfl
  | v :: vs => by unfold wipeE; rw [List.length_set, wipeE_len]
theorem env_wipe {C : RC} {ρ : Ev} {σ : L2.St} (h : EnvR C ρ σ) (l : ρ.length = σ.length) : ∀ vs, EnvR C (wipeE ρ vs) (wipe σ vs)
  | [] => h
  | v :: vs => fun i d e => by
    unfold wipeE at e
    by_cases hi : v = i
    · subst hi
      by_cases hl : v < (wipeE ρ vs).length
      · rw [List.getElem?_set_self hl] at e; cases e
      · rw [List.getElem?_eq_none (by simpa using hl)] at e; cases e
    · rw [List.getElem?_set_ne hi] at e
      obtain ⟨u, e1, r⟩ := env_wipe h l vs i d e
      refine ⟨u, ?_, r⟩
      unfold wipe
      rw [List.getElem?_set_ne hi]
      exact e1
theorem EnvR.trn {C C' : RC} {ρ : Ev} {σ : L2.St} (h : EnvR C ρ σ) (x : Tr C.ι.length C C') : EnvR C' ρ σ := fun i d e => by
  obtain ⟨v, e1, q⟩ := h i d e
  exact ⟨v, e1, q.trn x⟩
def R.calm {α : Type} : R α → R α
  | .exc _ _ _ => .stk
  | r => r
@[simp] theorem R.calm_ok {α : Type} (a : α) (S : Sto) : (R.ok a S).calm = .ok a S := rfl
def lcGo (ok : Sto → Bool) (g : Tg) (tt : MT) (te : ME) (ρ : Ev) : List MV → List MV → Sto → R (List MV)
  | [], acc, S => if ok S then .ok acc S else .stk
  | x :: xs, acc, S => if ok S then (match g.f x ρ with
    | some ρ1 => (tt ρ1 S).calm.bind fun b S1 => if b then (te ρ1 S1).calm.bind fun y S2 => lcGo ok g tt te ρ xs (acc ++ [y]) S2 else lcGo ok g tt te ρ xs acc S1
    | none => .stk) else .stk
def mkL (fr : Bool) (ys : List MV) (S : Sto) : R MV := if fr then .ok (.lst ys) S else .ok (.ref S.length) (S ++ [.lst ys])
def mLc (fr : Bool) (vs : List Nat) (mi : Ev → Sto → R Src) (g : Tg) (tt : MT) (te : ME) : ME := fun ρ S => (mi ρ S).bind fun src S1 =>
  if src.items.length ≤ sizeLine then (lcGo (fun S => src.ok S) g tt te (wipeE ρ vs) src.items [] S1).bind (mkL fr) else .stk
/-- the new list is being filled at D: it is not of the data yet -/
theorem Tr.wr {C : RC} {S : Sto} {D : Addr} {us vs : List V} (r : RepS C S) (hb : D ∈ C.bad) (h : C.H D = some (.lst us)) : Tr C.ι.length C (C.put D (.lst vs)) where
  w := rfl
  K := rfl
  seqT := fun a ws q => by
    rcases q with (q | ⟨o, q⟩) | q
    · exact .inl (.inl (by show upd C.H D (.lst vs) a = _; rw [upd_ne (fun z => by subst z; rw [h] at q; cases q)]; exact q))
    · exact .inl (.inr ⟨o, by show upd C.H D (.lst vs) a = _; rw [upd_ne (fun z => by subst z; rw [h] at q; cases q)]; exact q⟩)
    · exact .inr q
  froz := fun a u n q => ⟨n, .inl (by show upd C.H D (.lst vs) a = _; rw [upd_ne (fun z => n.2 (by rw [z]; exact hb))]; exact q)⟩
  frz := fun a o u q => by show upd C.H D (.lst vs) a = _; rw [upd_ne (fun z => by subst z; rw [h] at q; cases q)]; exact q
  ref := fun n a _ q => q
theorem RepS.wr {C : RC} {S : Sto} {D : Addr} {us vs : List V} (r : RepS C S) (hb : D ∈ C.bad) (h : C.H D = some (.lst us)) : RepS (C.put D (.lst vs)) S := by
  refine ⟨r.len, r.nd, fun a m => ⟨(r.bad a m).1, ?_⟩, fun n mo a e1 e2 => ?_⟩
  · show upd C.H D (.lst vs) a ≠ none
    by_cases q : a = D
    · subst q; rw [upd_same]; simp
    · rw [upd_ne q]; exact (r.bad a m).2
  · refine (r.ob n mo a e1 e2).trn (Tr.wr r hb h) ?_
    show upd C.H D (.lst vs) a = C.H a
    exact upd_ne fun z => (r.bad D hb).1 (by rw [← z]; exact List.mem_of_getElem? e2)
/-- the state at the start -/
def RC.fill (C : RC) (D : Addr) : RC := { C.put D (.lst []) with bad := D :: C.bad }
theorem Grow.fill {C : RC} {D : Addr} (h : C.H D = none) : Grow C (C.fill D) where
  w := rfl
  K := rfl
  bad := fun a m => by
    rcases List.mem_cons.mp (show a ∈ D :: C.bad from m) with z | z
    · subst z; exact .inr (.inr h)
    · exact .inl z
  bad' := fun a m => List.mem_cons_of_mem _ m
  kp := fun a o na e => .inl (by show upd C.H D _ a = _; rw [upd_ne (ne_of_none e h)]; exact e)
  new := fun a m => .inl m
  pre := rfl
  le := Nat.le_refl _
  le' := Nat.le_refl _
theorem RepS.fill {C : RC} {S : Sto} {D : Addr} (r : RepS C S) (h : C.H D = none) : RepS (C.fill D) S := by
  refine ⟨r.len, r.nd, fun a m => ?_, fun n mo a e1 e2 => ?_⟩
  · rcases List.mem_cons.mp (show a ∈ D :: C.bad from m) with z | z
    · subst z; exact ⟨r.notin h, by show upd C.H a _ a ≠ none; rw [upd_same]; simp⟩
    · refine ⟨(r.bad a z).1, ?_⟩
      show upd C.H D _ a ≠ none
      rw [upd_ne (fun q => (r.bad a z).2 (by rw [q]; exact h))]
      exact (r.bad a z).2
  · refine (r.ob n mo a e1 e2).trn ((Grow.fill h).tr r) ?_
    show upd C.H D _ a = C.H a
    exact upd_ne fun z => r.notin h (by rw [← z]; exact List.mem_of_getElem? e2)
/-- with the bad ones of an earlier state -/
def RC.rb (C C0 : RC) : RC := { C with bad := C0.bad }
theorem rb_step {C0 C C' : RC} (x : Grow C0 (C.rb C0)) (hb : ∀ a ∈ C0.bad, a ∈ C.bad) (y : Grow C C') : Grow C0 (C'.rb C0) where
  w := y.w.trans x.w
  K := y.K.trans x.K
  bad := fun a m => .inl m
  bad' := fun a m => m
  kp := fun a o na h => by
    have n1 : a ∉ C.ι := fun m => by
      rcases x.new a m with q | q
      · exact na q
      · rw [h] at q; cases q
    rcases x.kp a o na h with k | ⟨nb, e, ob, k⟩
    · rcases y.kp a o n1 k with j | ⟨nb, e, j⟩
      · exact .inl j
      · exact .inr ⟨fun m => nb (hb a m), e, j⟩
    · exact .inr ⟨nb, e, ob, (y.kp a _ n1 k).exact (.inl fun _ z => by cases z)⟩
  new := fun a m => by
    rcases y.new a m with q | q
    · exact x.new a q
    · by_cases ha : a ∈ C0.ι
      · exact .inl ha
      · cases e : C0.H a with
        | none => exact .inr rfl
        | some o =>
          exact absurd q (x.kp a o ha e).nix
  pre := (y.weak x.le').pre.trans x.pre
  le := Nat.le_refl _
  le' := Nat.le_trans x.le' y.le'
theorem rb_wr {C0 C : RC} {D : Addr} {o : HO} (x : Grow C0 (C.rb C0)) (h : C0.H D = none) : Grow C0 ((C.put D o).rb C0) where
  w := x.w
  K := x.K
  bad := fun a m => .inl m
  bad' := fun a m => m
  kp := fun a u na e => by
    show upd C.H D o a = some u ∨ _ ∧ _ ∧ ∃ ob, upd C.H D o a = some (.frz ob u)
    rw [upd_ne (ne_of_none e h)]
    exact x.kp a u na e
  new := x.new
  pre := x.pre
  le := x.le
  le' := x.le'
theorem Tr.rb {C C0 : RC} (h : ∀ a ∈ C0.bad, a ∈ C.bad) : Tr C.ι.length C (C.rb C0) :=
  ⟨rfl, rfl, fun _ _ q => q, fun a u n q => ⟨⟨n.1, fun m => n.2 (h a m)⟩, .inl q⟩, fun _ _ _ q => q, fun _ _ _ q => q⟩
theorem RepS.rb {C C0 : RC} {S : Sto} (r : RepS C S) (h : ∀ a ∈ C0.bad, a ∈ C.bad) : RepS (C.rb C0) S :=
  ⟨r.len, r.nd, fun a m => r.bad a (h a m), fun n mo a e1 e2 => (r.ob n mo a e1 e2).trn (Tr.rb h) rfl⟩
/-- the filled list becomes a cell of the store -/
def RC.adopt (C : RC) (D : Addr) : RC := { C with ι := C.ι ++ [D] }
theorem Wants.calm {α β : Type} {W W' : WX} {σ σ' : L2.St} {C : RC} {r : R α} {f : α → Sto → R β} {Q : β → Sto → RC → Prop} (h : Wants W σ C (r.calm.bind f) Q) :
    Wants W' σ' C r (fun a S1 C1 => Wants W σ C1 (f a S1) Q ∧ Grow C C1) := by
  cases r with
  | ok a S => exact fun C1 g r1 => (Wants.bind h) C1 g r1
  | exc c d S => exact h.elim
  | stk => exact h
/-- what is wanted of the filled list -/
def LW (D : Addr) (Q : VK) (fr : Bool) (C0 : RC) : R (List MV) → Prop
  | .ok acc S => ∀ C, Grow C0 (C.rb C0) → (∀ a ∈ C0.bad, a ∈ C.bad) → RepS C S → D ∈ C.bad → ∀ vs, C.H D = some (.lst vs) → RepVs C acc vs → Q (.ref D) C.H
  | _ => False
section
variable {X : Cx} {W : WX}
theorem lw_end {σ : L2.St} {C0 : RC} {D : Addr} {Q : VK} {fr : Bool} {S0 : Sto} {r : R (List MV)} (r0 : RepS C0 S0) (hD : C0.H D = none) (hr : ∀ c d S, r ≠ .exc c d S) (h : Wants W σ C0 (r.bind (mkL fr)) (fun d _ C' => ∀ v, RepV C' d v → Q v C'.H)) : LW D Q fr C0 r := by
  cases r with
  | exc c d S => exact absurd rfl (hr c d S)
  | stk => exact h
  | ok acc S =>
    intro C g hb rs hbD vs hv rv
    have nD : D ∉ C.ι := (rs.bad D hbD).1
    have nb : D ∉ C0.bad := fun m => (r0.bad D m).2 hD
    have rs' := rs.rb hb
    have rv' := rv.trn (Tr.rb (C0 := C0) hb)
    cases fr with
    | true =>
      have h : Wants W σ C0 (.ok (.lst acc) S) (fun d _ C' => ∀ v, RepV C' d v → Q v C'.H) := h
      exact h (C.rb C0) g rs' (.ref D) (repLst ⟨nD, nb⟩ hv rv')
    | false =>
      have h : Wants W σ C0 (.ok (.ref S.length) (S ++ [.lst acc])) (fun d _ C' => ∀ v, RepV C' d v → Q v C'.H) := h
      have tr : Tr C.ι.length C ((C.rb C0).adopt D) := by
        refine ⟨rfl, rfl, fun _ _ q => q, fun a u n q => ⟨⟨fun m => ?_, fun m => n.2 (hb a m)⟩, .inl q⟩, fun _ _ _ q => q, fun n a hn q => ?_⟩
        · rcases List.mem_append.mp (show a ∈ C.ι ++ [D] from m) with m | m
          · exact n.1 m
          · have e : a = D := by simpa using m
            exact n.2 (by rw [e]; exact hbD)
        · show (C.ι ++ [D])[n]? = some a
          rw [List.getElem?_append_left (by exact hn)]; exact q
      have g2 : Grow C0 ((C.rb C0).adopt D) := by
        refine ⟨g.w, g.K, fun a m => .inl m, fun a m => m, g.kp, fun a m => ?_, ?_, g.le, ?_⟩
        · rcases List.mem_append.mp (show a ∈ C.ι ++ [D] from m) with m | m
          · exact g.new a m
          · have e : a = D := by simpa using m
            exact .inr (by rw [e]; exact hD)
        · show (C.ι ++ [D]).take C0.ι.length = _
          rw [List.take_append_of_le_length (show C0.ι.length ≤ C.ι.length from g.le')]; exact g.pre
        · show C0.ι.length ≤ (C.ι ++ [D]).length
          rw [List.length_append]
          exact Nat.le_trans g.le' (Nat.le_add_right _ _)
      have rs2 : RepS ((C.rb C0).adopt D) (S ++ [.lst acc]) := by
        refine ⟨by show (C.ι ++ [D]).length = _; simp [rs.len], ?_, fun a m => ⟨fun m2 => ?_, (rs.bad a (hb a m)).2⟩, fun n mo a e1 e2 => ?_⟩
        · show (C.ι ++ [D]).Nodup
          rw [List.nodup_append]
          refine ⟨rs.nd, by simp, fun a ha b hb => ?_⟩
          have e : b = D := by simpa using hb
          subst e
          intro e; subst e
          exact nD ha
        · rcases List.mem_append.mp (show a ∈ C.ι ++ [D] from m2) with m2 | m2
          · exact (rs.bad a (hb a m)).1 m2
          · have e : a = D := by simpa using m2
            subst e; exact nb m
        · have e2 : (C.ι ++ [D])[n]? = some a := e2
          by_cases hn : n < S.length
          · rw [List.getElem?_append_left hn] at e1
            rw [List.getElem?_append_left (by rw [rs.len]; exact hn)] at e2
            exact (rs.ob n mo a e1 e2).trn tr rfl
          · rw [List.getElem?_append_right (by omega)] at e1
            rw [List.getElem?_append_right (by rw [rs.len]; omega), rs.len] at e2
            cases hz : n - S.length with
            | zero =>
              rw [hz] at e1 e2
              simp at e1 e2
              subst e1; subst e2
              exact ⟨vs, hv, rv.trn tr⟩
            | succ k => rw [hz] at e1; simp at e1
      refine h ((C.rb C0).adopt D) g2 rs2 (.ref D) ?_
      rw [RepV]
      exact ⟨D, rfl, by show (C.ι ++ [D])[S.length]? = some D; rw [← rs.len]; simp⟩
theorem lcGo_noexc {ok : Sto → Bool} {g : Tg} {tt : MT} {te : ME} {ρ : Ev} : ∀ (xs acc : List MV) (S : Sto) (c : Str) (d : MV) (S' : Sto), lcGo ok g tt te ρ xs acc S ≠ .exc c d S'
  | [], acc, S, c, d, S', h => by
    unfold lcGo at h
    split at h <;> cases h
  | x :: xs, acc, S, c, d, S', h => by
    unfold lcGo at h
    split at h
    · split at h
      · rename_i ρ1 e1
        cases e : tt ρ1 S with
        | ok b S1 =>
          rw [e] at h
          simp only [R.calm_ok, R.bind_ok] at h
          split at h
          · cases e2 : te ρ1 S1 with
            | ok y S2 =>
              rw [e2] at h
              simp only [R.calm_ok, R.bind_ok] at h
              exact lcGo_noexc xs _ S2 c d S' h
            | exc c' d' S2 => rw [e2] at h; cases h
            | stk => rw [e2] at h; cases h
          · exact lcGo_noexc xs _ S1 c d S' h
        | exc c' d' S1 => rw [e] at h; cases h
        | stk => rw [e] at h; cases h
      · cases h
    · cases h
end
abbrev WNo : WX := fun _ _ _ _ => False
theorem takesNo {X : Cx} {s : Shared} {H : Hp} {sc : Scope} {ce : Env} {fp : List Addr} : Takes (X.blk s H sc ce fp) WNo := fun u s' ⟨_, _, _, _, _, _, _, _, h⟩ => h.2.2.2.2.2.2.2.2
/-- several tests -/
theorem _root_.L2.PTs.imp {X : Cx} {ts : List Expr} {t t' : TT} (h : PTs X ts t) (k : ∀ σ H Q, t' σ H Q → t σ H Q) : PTs X ts t' := ⟨fun pins s σ H Q I q => h.run pins s σ H Q I (k σ H Q q)⟩
def mTrue : MT := fun _ S => .ok true S
section
variable {X : Cx} {W : WX} {tg iter elt : Expr} {ifs : List Expr} {scope : Scope} {own : List (Str × Nat)} {mi : Ev → Sto → R Src} {g : Tg} {tt : MT} {te : ME} {pos : Pos} {fr : Bool}
/-- the reading of a comprehension -/
theorem lc_imp {σ : L2.St} {H : Hp} {Q : VK} {vs : List Nat} (hix : ∀ i ∈ g.ix, i ∈ vs) (h : tE X W (mLc fr vs mi g tt te) σ H Q) : tLc (tI X W mi) (tG X g) (tT X WNo tt) (tE X WNo te) vs σ H Q := by
  obtain ⟨C, ρ, S, e, s, q⟩ := h
  subst e
  refine ⟨C, ρ, S, rfl, s, (Wants.bind q).mono fun src S1 C0 g0 r0 _ q0 J sw D hD => ?_⟩
  have q0 := q0.1
  split at q0
  case isFalse => exact q0.elim
  rename_i hsz
  have lw : LW D Q fr C0 (lcGo (fun S => src.ok S) g tt te (wipeE ρ vs) src.items [] S1) := lw_end r0 hD (lcGo_noexc _ _ _) q0
  have s0 : Sv X ρ σ S1 C0 := s.grow g0 r0
  refine ⟨fun i m H' => m = src.items.length - i ∧ i ≤ src.items.length ∧ ∃ C' S' acc accv, C'.H = H' ∧ Tr C0.ι.length C0 C' ∧ Grow C0 (C'.rb C0) ∧ (∀ a ∈ C0.bad, a ∈ C'.bad) ∧ RepS C' S' ∧ D ∈ C'.bad ∧ C'.H D = some (.lst accv) ∧ RepVs C' acc accv ∧ acc.length ≤ i ∧
      LW D Q fr C0 (lcGo (fun S => src.ok S) g tt te (wipeE ρ vs) (src.items.drop i) acc S'), ⟨src.items.length, by simp, Nat.zero_le _, C0.fill D, S1, [], [], rfl, (Grow.fill hD).tr r0, ?_, fun a m => List.mem_cons_of_mem _ m, r0.fill hD, List.mem_cons_self, upd_same, .nil, Nat.le_refl _, lw⟩, ?_⟩
  · exact rb_wr Grow.refl hD
  rintro i m H' ⟨rfl, hi, C1, S', acc, accv, rfl, tr, gr, hb, rs, hbD, hv, rv, hl, w⟩
  by_cases hlt : i < src.items.length
  · have ed : src.items.drop i = src.items[i] :: src.items.drop (i + 1) := List.drop_eq_getElem_cons hlt
    rw [ed, lcGo] at w
    by_cases hok : src.ok S' = true
    · rw [if_pos hok] at w
      obtain ⟨k1, k2, k3⟩ := sw C1 S' tr rs hok
      refine .inr ⟨k1 i hlt, fun H'' => (fun i m H' => m = src.items.length - i ∧ i ≤ src.items.length ∧ ∃ C' S' acc accv, C'.H = H' ∧ Tr C0.ι.length C0 C' ∧ Grow C0 (C'.rb C0) ∧ (∀ a ∈ C0.bad, a ∈ C'.bad) ∧ RepS C' S' ∧ D ∈ C'.bad ∧ C'.H D = some (.lst accv) ∧ RepVs C' acc accv ∧ acc.length ≤ i ∧
        LW D Q fr C0 (lcGo (fun S => src.ok S) g tt te (wipeE ρ vs) (src.items.drop i) acc S')) (i + 1) (src.items.length - (i + 1)) H'', fun H'' h => ⟨_, by omega, h⟩, fun x H'' y => ?_⟩
      obtain ⟨C2, d, rfl, g2, r2, e2, rd⟩ := k3 i x H'' hlt y
      rw [List.getElem?_eq_getElem hlt] at e2
      have e3 : src.items[i] = d := Option.some.inj e2
      have g01 : C0.ι.length ≤ C1.ι.length := gr.le'
      have tr2 : Tr C0.ι.length C0 C2 := tr.trans (g2.tr rs) g01
      have ew : EnvR C2 (wipeE ρ vs) (wipe σ vs) := (env_wipe s0.ev s0.ln vs).trn tr2
      have sv2 : Sv X (wipeE ρ vs) (wipe σ vs) S' C2 := ⟨tr2.w.trans s0.w, tr2.K.trans s0.K, r2, ew, by rw [wipeE_len, wipe_length]; exact s0.ln⟩
      have hvn : ∀ {Ca Cb : RC} {Sa : Sto} {us : List V}, Grow Ca Cb → RepS Ca Sa → D ∈ Ca.bad → Ca.H D = some (.lst us) → Cb.H D = some (.lst us) ∧ D ∈ Cb.bad := fun {Ca Cb Sa us} x r hb h => ⟨(x.kp _ _ (r.bad D hb).1 h).exact (.inr hb), x.bad' D hb⟩
      cases e4 : g.f src.items[i] (wipeE ρ vs) with
      | none => rw [e4] at w; exact w.elim
      | some ρ1 =>
        rw [e4] at w
        dsimp only at w
        refine ⟨C2, wipeE ρ vs, S', d, ρ1, rfl, sv2, rd, by rw [← e3]; exact e4, fun σ1 ev1 l1 l1' w1 => ⟨by rw [w1 vs hix, wipe_wipe], ?_⟩⟩
        have sv3 : Sv X ρ1 σ1 S' C2 := ⟨sv2.w, sv2.K, r2, ev1, l1⟩
        refine ⟨C2, ρ1, S', rfl, sv3, ?_⟩
        cases e5 : tt ρ1 S' with
        | exc c d S2 => rw [e5] at w; exact w.elim
        | stk => rw [e5] at w; exact w.elim
        | ok b S2 =>
          rw [e5] at w
          simp only [R.calm_ok, R.bind_ok] at w
          intro C3 g3 r3
          have sv4 := sv3.grow g3 r3
          have gr3 : Grow C0 (C3.rb C0) := rb_step (rb_step gr hb g2) (fun a m => g2.bad' a (hb a m)) g3
          have hb3 : ∀ a ∈ C0.bad, a ∈ C3.bad := fun a m => g3.bad' a (g2.bad' a (hb a m))
          have z2 := hvn g2 rs hbD hv
          have z3 := hvn g3 r2 z2.2 z2.1
          have tr3 : Tr C0.ι.length C0 C3 := tr2.trans (g3.tr r2) (Nat.le_trans g01 g2.le')
          have rv3 : RepVs C3 acc accv := (rv.grow g2 rs).grow g3 r2
          cases b with
          | false =>
            rw [if_neg (by decide)] at w
            dsimp only
            rw [if_neg (by decide)]
            exact ⟨rfl, hlt, C3, S2, acc, accv, rfl, tr3, gr3, hb3, r3, z3.2, z3.1, rv3, by omega, w⟩
          | true =>
            rw [if_pos rfl] at w
            dsimp only
            rw [if_pos rfl]
            refine ⟨C3, ρ1, S2, rfl, sv4, ?_⟩
            cases e6 : te ρ1 S2 with
            | exc c d S2 => rw [e6] at w; exact w.elim
            | stk => rw [e6] at w; exact w.elim
            | ok yv S3 =>
              rw [e6] at w
              simp only [R.calm_ok, R.bind_ok] at w
              intro C4 g4 r4 v rvv
              have z4 := hvn g4 r3 z3.2 z3.1
              have hb4 : ∀ a ∈ C0.bad, a ∈ C4.bad := fun a m => g4.bad' a (hb3 a m)
              have tr4 : Tr C0.ι.length C0 C4 := tr3.trans (g4.tr r3) (Nat.le_trans g01 (Nat.le_trans g2.le' g3.le'))
              have l4 : C0.ι.length ≤ C4.ι.length := Nat.le_trans g01 (Nat.le_trans g2.le' (Nat.le_trans g3.le' g4.le'))
              have rv4 : RepVs C4 acc accv := rv3.grow g4 r3
              have wr := Tr.wr (vs := accv ++ [v]) r4 z4.2 z4.1
              refine ⟨accv, z4.1, by rw [← rv4.length]; omega, rfl, hlt, C4.put D (.lst (accv ++ [v])), S3, acc ++ [yv], accv ++ [v], rfl, tr4.trans wr l4, rb_wr (rb_step gr3 hb3 g4) hD, hb4, r4.wr z4.2 z4.1, z4.2, put_same, (rv4.trn wr).append (.cons (rvv.trn wr) .nil), by simp; omega, w⟩
    · rw [if_neg hok] at w; exact w.elim
  · have e : i = src.items.length := by omega
    subst e
    rw [List.drop_length, lcGo] at w
    by_cases hok : src.ok S' = true
    · rw [if_pos hok] at w
      obtain ⟨k1, k2, k3⟩ := sw C1 S' tr rs hok
      exact .inl ⟨k2, w C1 gr hb rs hbD accv hv rv⟩
    · rw [if_neg hok] at w; exact w.elim
abbrev STs (X : Cx) (W : WX) (ts : List Expr) (m : MT) : Prop := PTs X ts (tT X W m)
theorem sts_one {c : Expr} {mt : MT} (h : ST X W c mt) : STs X W [c] mt := pts_one h
theorem sts_nil : STs X W [] mTrue := by
  first
    | exact pts_nil.imp fun σ H Q ⟨C, ρ, S, e, s, q⟩ => by subst e; exact q.now s.rs
theorem tE.blk {X : Cx} {s0 : Shared} {H0 : Hp} {sc : Scope} {ce : Env} {fp : List Addr} {W : WX} {m : ME} {σ : L2.St} {H : Hp} {Q : VK} (h : tE X W m σ H Q) : tE (X.blk s0 H0 sc ce fp) W m σ H Q := by
  obtain ⟨C, ρ, S, e, s, q⟩ := h
  exact ⟨C, ρ, S, e, ⟨s.w, s.K, s.rs, s.ev, s.ln⟩, q⟩
theorem tT.blk {X : Cx} {s0 : Shared} {H0 : Hp} {sc : Scope} {ce : Env} {fp : List Addr} {W : WX} {m : MT} {σ : L2.St} {H : Hp} {Q : Bool → Hp → Prop} (h : tT X W m σ H Q) : tT (X.blk s0 H0 sc ce fp) W m σ H Q := by
  obtain ⟨C, ρ, S, e, s, q⟩ := h
  exact ⟨C, ρ, S, e, ⟨s.w, s.K, s.rs, s.ev, s.ln⟩, q⟩
theorem tG.blk {X : Cx} {s0 : Shared} {H0 : Hp} {sc : Scope} {ce : Env} {fp : List Addr} {t : Tg} {v : V} {σ : L2.St} {H : Hp} {Q : L2.St → Hp → Prop} (h : tG X t v σ H Q) : tG (X.blk s0 H0 sc ce fp) t v σ H Q := by
  obtain ⟨C, ρ, S, d, ρ', e, s, q⟩ := h
  exact ⟨C, ρ, S, d, ρ', e, ⟨s.w, s.K, s.rs, s.ev, s.ln⟩, q⟩
theorem se_lc (hc : X.calm = true) (hN : X.N.Nodup) (hi : SI X W tg iter mi) (ok : BlkOk X.N X.env.scope scope own)
    (hg : ∀ (s : Shared) (H : Hp) (C : Addr) (cl : List (Str × Addr)) (fp : List Addr), SG (X.blk s H scope (compEnvC scope cl C X.env) fp) tg g) (ht : ∀ (s : Shared) (H : Hp) (C : Addr) (cl : List (Str × Addr)) (fp : List Addr), STs (X.blk s H scope (compEnvC scope cl C X.env) fp) WNo ifs tt)
    (he : ∀ (s : Shared) (H : Hp) (C : Addr) (cl : List (Str × Addr)) (fp : List Addr), SE (X.blk s H scope (compEnvC scope cl C X.env) fp) WNo elt te) (hix : ∀ i ∈ g.ix, i ∈ own.map (·.2)) (hs : ∀ x, foldedSetIterable iter X.env x = pure x := by intro _; rfl) :
    SE X W (.ListComp elt [⟨tg, iter, ifs, 0⟩] scope pos) (mLc fr (own.map (·.2)) mi g tt te) :=
  (pe_lc hc hN hi ok (g := tG X g) (fun s H C cl fp => (hg s H C cl fp).imp fun v σ H Q h => tG.blk h) (fun s H C cl fp => (ht s H C cl fp).imp fun σ H Q h => tT.blk h) (fun s H C cl fp => (he s H C cl fp).imp fun σ H Q h => tE.blk h) hs).imp fun σ H Q h => lc_imp hix h
theorem ss_setLc {i : Nat} {y : Str} {py spos : Pos} (hc : X.calm = true) (hN : X.N.Nodup) (hy : X.N[i]? = some y) (hyl : X.env.scope.names.lookup y = some .local)
    (hsw : swapsWith (.ListComp elt [⟨tg, iter, ifs, 0⟩] scope pos) (some (.Name y py)) spos.line X.env = pure true) (hi : SI X W tg iter mi) (ok : BlkOk X.N X.env.scope scope own)
    (hg : ∀ (s : Shared) (H : Hp) (C : Addr) (cl : List (Str × Addr)) (fp : List Addr), SG (X.blk s H scope (compEnvC scope cl C X.env) fp) tg g) (ht : ∀ (s : Shared) (H : Hp) (C : Addr) (cl : List (Str × Addr)) (fp : List Addr), STs (X.blk s H scope (compEnvC scope cl C X.env) fp) WNo ifs tt)
    (he : ∀ (s : Shared) (H : Hp) (C : Addr) (cl : List (Str × Addr)) (fp : List Addr), SE (X.blk s H scope (compEnvC scope cl C X.env) fp) WNo elt te) (hix : ∀ i ∈ g.ix, i ∈ own.map (·.2)) (hs : ∀ x, foldedSetIterable iter X.env x = pure x := by intro _; rfl) :
    SS X W (.Assign [.Name y py] (.ListComp elt [⟨tg, iter, ifs, 0⟩] scope pos) spos) (mAsg (mLc fr (own.map (·.2)) mi g tt te) (tgName i)) :=
  (ps_setLc hc hN hy hyl hsw hi ok (g := tG X g) (fun s H C cl fp => (hg s H C cl fp).imp fun v σ H Q h => tG.blk h) (fun s H C cl fp => (ht s H C cl fp).imp fun σ H Q h => tT.blk h) (fun s H C cl fp => (he s H C cl fp).imp fun σ H Q h => tE.blk h) hs).imp fun D σ H ⟨C, ρ, S, e, s, q⟩ => by
    subst e
    refine lc_imp (fr := fr) hix ?_
    refine tE.thn s q fun d S1 C1 v s1 g1 r1 q1 => ?_
    exact q1 C1 _ Grow.refl s1.rs (s1.ev.set s1.ln r1) (by simp [s1.ln])
end
end Mi
set_option Elab.async false
set_option linter.all false
set_option maxRecDepth 100000
set_option maxHeartbeats 2000000
namespace Mi
open PySem PySem.Spec PyProof.Rows L2
def setM (o i d : MV) (S : Sto) : Option Sto := match o with
  | .ref n => (match S[n]? with
    | some (.lst xs) => (match i with
      | .int k => (match ixN xs.length k with
        | some j => some (S.set n (.lst (xs.set j d)))
        | none => none)
      | _ => none)
    | some (.dct ks vs) => (match keyV i with
      | some k => if ks.length < 1000 then some (S.set n (.dct (dput ks vs k d).1 (dput ks vs k d).2)) else none
      | none => none)
    | _ => none)
  | _ => none
def rSet (X : Cx) : TSet := fun o i v H Q => ∃ C S d1 d2 d3, C.H = H ∧ C.w = X.w ∧ C.K = X.K ∧ RepS C S ∧ RepV C d1 o ∧ RepV C d2 i ∧ RepV C d3 v ∧ ∃ S', setM d1 d2 d3 S = some S' ∧ ∀ C', Grow C C' → RepS C' S' → Q C'.H
theorem write_ok {C : RC} {S : Sto} {n : Nat} {a : Addr} {o : HO} {mo : MO} {Q : Hp → Prop} (r : RepS C S) (h : C.ι[n]? = some a) (q : RepO (C.put a o) a mo) (k : ∀ C', Grow C C' → RepS C' (S.set n mo) → Q C'.H) : Q (upd C.H a o) :=
  k (C.put a o) (Grow.write (List.mem_of_getElem? h)) (r.write h q)
theorem psetM {X : Cx} (hu : X.A.units + 1 < cLine) : PSet X (rSet X) := by
  intro pins s σ H o i v ov iv u Q I ro ri rv rof
  obtain ⟨C, S, d1, d2, d3, rfl, hw, hK, r, h1, h2, h3, S', e, q⟩ := rof
  cases d1 with
  | ref n =>
    rw [RepV] at h1
    obtain ⟨a, rfl, ha⟩ := h1
    unfold setM at e
    dsimp only at e
    have gw : ∀ {o : HO}, Grow C (C.put a o) := Grow.write (List.mem_of_getElem? ha)
    cases e0 : S[n]? with
    | none => rw [e0] at e; cases e
    | some mo =>
      rw [e0] at e
      have ro' := r.ob n mo a e0 ha
      cases mo with
      | lst xs =>
        dsimp only at e
        cases d2 with
        | int k =>
          dsimp only at e
          cases ej : ixN xs.length k with
          | none => rw [ej] at e; cases e
          | some j =>
            rw [ej] at e
            cases e
            obtain ⟨vs, hv, t⟩ := ro'
            refine set_list pins s σ C.H _ _ _ ov iv u Q I ro ri rv ⟨a, vs, k, j, rfl, vInt h2, hv, by rw [← t.length]; exact ej, ?_⟩
            exact write_ok (mo := .lst (xs.set j d3)) r ha ⟨_, put_same, (t.set h3 j).grow gw r⟩ q
        | _ => cases e
      | dct ks ds =>
        dsimp only at e
        cases ek : keyV d2 with
        | none => rw [ek] at e; cases e
        | some k =>
          rw [ek] at e
          dsimp only at e
          split at e
          · rename_i hz
            cases e
            obtain ⟨vs, hv, l, nd, t⟩ := ro'
            have ekv := keyV_rep h2 ek
            subst ekv
            obtain ⟨vs', e1, e2, e3, e4⟩ := dput_rep (ks' := (dput ks ds k d3).1) (ds' := (dput ks ds k d3).2) t l nd h3 rfl
            refine set_dict hu pins s σ C.H _ _ _ ov iv u Q I ro ri rv ⟨a, _, rfl, .k hv ?_, ?_⟩
            · rw [List.length_zip, ← l, sizeLine_eq]; omega
            · rw [e1]
              exact write_ok (mo := .dct (dput ks ds k d3).1 (dput ks ds k d3).2) r ha ⟨vs', put_same, e2, e3, e4.grow gw r⟩ q
          · cases e
      | _ => cases e
  | _ => cases e
def mSub (e o i : ME) : MS := fun ρ S => (e ρ S).thn ρ fun d S1 => (o ρ S1).thn ρ fun od S2 => (i ρ S2).thn ρ fun id S3 => match setM od id d S3 with
  | some S4 => .nx ρ S4
  | none => .stk
section
variable {X : Cx} {W : WX} {e o i : Expr} {me mo mi : ME} {pos tpos apos : Pos}
/-- o[i] = v by its parts -/
abbrev SubAs (X : Cx) (o i : Expr) (tpos : Pos) : Prop := ∀ v, assign (.Subscript o i tpos) X.env v =
  (holding [v] (eval o X.env) >>= fun to => holding [v, to] (eval i X.env) >>= fun at' => standAt tpos >>= fun _ => holding [v, to, at'] (setItem to at' v) >>= fun _ => release [v, to, at'] [])
theorem ss_sub (hu : X.A.units + 1 < cLine) (he : SE X W e me) (ho : SE X W o mo) (hi : SE X W i mi) (ha : SubAs X o i tpos := by intro _; rfl) (hs : swapsWithSole [.Subscript o i tpos] e pos.line X.env = pure false := by rfl) (hw : swappedStores [.Subscript o i tpos] e X.env = pure none := by rfl)
    (h1 : (assignEach [.Subscript o i tpos] X.env).map (·.2) = [assign (.Subscript o i tpos) X.env] := by rfl) : SS X W (.Assign [.Subscript o i tpos] e pos) (mSub me mo mi) :=
  (ps_asg he (pg_sub ho hi (psetM hu) ha) hs hw h1).imp fun D σ H ⟨C, ρ, S, e, s, q⟩ => by
    subst e
    refine tE.thn s q fun d S1 C1 v s1 g1 r1 q1 => ?_
    refine tE.thn s1 q1 fun od S2 C2 ov s2 g2 r2 q2 => ?_
    refine tE.thn s2 q2 fun id S3 C3 iv s3 g3 r3 q3 => ?_
    refine ⟨C3, S3, od, id, d, rfl, s3.w, s3.K, s3.rs, r2.grow g3 s2.rs, r3, (r1.grow g2 s1.rs).grow g3 s2.rs, ?_⟩
    cases e : setM od id d S3 with
    | none => rw [e] at q3; exact q3.elim
    | some S4 =>
      rw [e] at q3
      exact ⟨S4, rfl, fun C' g r => q3 C' σ g r (s3.ev.grow g s3.rs) s3.ln⟩
def appM (o d : MV) (S : Sto) : R MV := match o with
  | .ref n => (match S[n]? with
    | some (.lst xs) => if xs.length < sizeLine then .ok .non (S.set n (.lst (xs ++ [d]))) else .stk
    | _ => .stk)
  | _ => .stk
def isLst (S : Sto) (o : MV) : Bool := (lstOf S o).isSome
def mApp (o : ME) (e : ME) : ME := fun ρ S => (o ρ S).bind fun od S1 => if isLst S1 od then (e ρ S1).bind fun d S2 => appM od d S2 else .stk
abbrev FewArgs (X : Cx) (pos : Pos) (e : Expr) : Prop := ((backTo pos (starEach [e] X.env)).all (fun x => !x.1) && (backToKw pos (keywordEach [] X.env)).all (fun x => x.1.isSome) && decide (([e] : List Expr).length +
  ([] : List Keyword).length + (if ([] : List Keyword).isEmpty then 0 else 1) < 30)) = true
theorem se_app (ho : SE X W o mo) (he : SE X W e me) (hbase : attributeBase o "append" X.env (eval o X.env) = eval o X.env := by rfl)
    (hfew : FewArgs X pos e := by rfl)
    (hline : (apos.endLine == pos.line) = true := by rfl) (hs : starEach [e] X.env = (false, eval e X.env) :: starEach [] X.env := by rfl) (hplain : (backTo pos (starEach [] X.env)).any (·.1) = false := by rfl) :
    SE X W (.Call (.Attribute o "append" apos) [e] [] pos) (mApp mo me) :=
  (pe_bm PySem.F.plainAttrs_list PySem.F.slot_list_append PySem.F.type_list_append mt_append ho (pa_cons he pa_nil hs) hbase hfew hline hs hplain).imp fun σ H Q ⟨C, ρ, S, e, s, q⟩ => by
    subst e
    refine tE.bind s q fun od S1 C1 ov s1 g1 r1 q1 => ?_
    split at q1
    · rename_i hl
      unfold isLst at hl
      obtain ⟨xs, hx⟩ := Option.isSome_iff_exists.mp hl
      obtain ⟨a, vs, rfl, ha, t⟩ := lstOf_rep s1.rs r1 hx
      refine ⟨.inl ⟨rfl, vs, .of ha⟩, ?_⟩
      refine tE.bind s1 q1 fun d S2 C2 v s2 g2 r2 q2 => ?_
      have ro := r1.grow g2 s1.rs
      unfold appM at q2
      cases od with
      | ref n =>
        dsimp only at q2
        rw [RepV] at ro
        obtain ⟨a', ea, ha2⟩ := ro
        cases ea
        cases e0 : S2[n]? with
        | none => rw [e0] at q2; exact q2.elim
        | some mo =>
          rw [e0] at q2
          cases mo with
          | lst xs =>
            dsimp only at q2
            obtain ⟨us, hv, t2⟩ := s2.rs.ob n _ _ e0 ha2
            split at q2
            · rename_i hz
              refine ⟨a, us, v, rfl, rfl, hv, by rw [← t2.length]; exact hz, ?_⟩
              have gw : Grow C2 (C2.put a (.lst (us ++ [v]))) := Grow.write (List.mem_of_getElem? ha2)
              exact q2.here gw (s2.rs.write (mo := .lst (xs ++ [d])) ha2 ⟨_, put_same, (t2.append (.cons r2 .nil)).grow gw s2.rs⟩) _ repN
            · exact q2.elim
          | _ => exact q2.elim
      | _ => exact q2.elim
    · exact q1.elim
def mIsi (t : String) (e : ME) : ME := fun ρ S => (e ρ S).bind fun d S1 => isiM t [d] S1
theorem se_isi {t : String} {x : Str} {p1 p2 : Pos} (hg : Gl X "isinstance") (hm : X.mg "isinstance" = none) (hgx : Gl X x) (hmx : X.mg x = none) (hvx : bootBuiltins x = some (.type t)) (he : SE X W e me) (hnx : x ≠ "__name__" := by decide) (hdx : (x == ("__debug__" : Str)) = false := by decide)
    (hs : starEach [e, .Name x p2] X.env = (false, eval e X.env) :: starEach [.Name x p2] X.env := by rfl) (hs2 : starEach [.Name x p2] X.env = (false, eval (.Name x p2) X.env) :: starEach [] X.env := by rfl) (hpl : (backTo pos (starEach [.Name x p2] X.env)).any (·.1) = false := by rfl) :
    SE X W (.Call (.Name "isinstance" p1) [e, .Name x p2] [] pos) (mIsi t me) :=
  (pe_callB call_isi hg hm PyProof.Rows.boot_isinstance (pa_cons he (pa_cons (pe_bltn (v := .ty t) hgx hmx hvx rfl hnx hdx) pa_nil hs2) hs) (by decide) (by decide) hs hpl).imp fun σ H Q ⟨C, ρ, S, e, s, q⟩ => by
    subst e
    refine tE.bind s q fun d S1 C1 v s1 g1 r1 q1 => ?_
    unfold isiM at q1
    dsimp only at q1
    cases eb : isiB S1 d t with
    | none => rw [eb] at q1; exact q1.elim
    | some b =>
      rw [eb] at q1
      unfold isiB at eb
      cases en : tyN S1 d with
      | none => rw [en] at eb; cases eb
      | some n =>
        rw [en] at eb
        dsimp only at eb
        have ty := tyN_rep s1.rs r1 en
        rw [s1.K] at ty
        exact ⟨v, .ty t, _, _, b, rfl, .ty t, ty, kit_ty eb, q1.now s1.rs _ (repB _)⟩
end
end Mi
set_option Elab.async false
set_option linter.all false
set_option maxRecDepth 100000
set_option maxHeartbeats 2000000
namespace Mi
open PySem PySem.Spec PyProof.Rows L2
def objOf (S : Sto) : MV → Option (Str × List Str × List MV)
  | .obj c fs vs => some (c, fs, vs)
  | .ref n => (match S[n]? with
    | some (.obj c fs vs) => some (c, fs, vs)
    | _ => none)
  | _ => none
theorem objOf_rep {C : RC} {S : Sto} {d : MV} {v : V} {c : Str} {fs : List Str} {ds : List MV} (r : RepS C S) (h : RepV C d v) (e : objOf S d = some (c, fs, ds)) :
    ∃ a dx vs, v = .ref a ∧ C.H a = some (.ins (He.ga C.K c) dx (fs.zip vs)) ∧ fs.length = vs.length ∧ RepVs C ds vs := by
  cases d with
  | obj c' fs' vs' =>
    rw [objOf] at e; cases e
    rw [RepV] at h
    obtain ⟨a, dx, vs, e, _, q, l, t⟩ := h
    exact ⟨a, dx, vs, e, q, l, t⟩
  | ref n =>
    rw [RepV] at h
    obtain ⟨a, e1, e2⟩ := h
    rw [objOf] at e
    cases q : S[n]? with
    | none => simp [q] at e
    | some o =>
      rw [q] at e
      cases o with
      | obj c' fs' vs' =>
        cases e
        obtain ⟨dx, vs, h1, h2, h3⟩ := r.ob n _ a q e2
        exact ⟨a, dx, vs, e1, h1, h2, h3⟩
      | _ => cases e
  | _ => cases e
def flook : List Str → List MV → Str → Option MV
  | f :: fs, d :: ds, g => if g = f then some d else flook fs ds g
  | _, _, _ => none
theorem str_beq_ne {a b : Str} (h : a ≠ b) : (a == b) = false := by
  cases e : (a == b) with
  | false => rfl
  | true => exact absurd (eq_of_beq e) h
theorem flook_rep {C : RC} {g : Str} {d : MV} : ∀ {fs : List Str} {ds : List MV} {vs : List V}, RepVs C ds vs → flook fs ds g = some d → ∃ v, (fs.zip vs).lookup g = some v ∧ RepV C d v
  | [], _, _, _, e => by simp [flook] at e
  | _ :: _, [], _, _, e => by simp [flook] at e
  | f :: fs, x :: ds, vs, t, e => by
    obtain ⟨v, vr, rfl, r, t⟩ := t.cons_inv
    rw [flook] at e
    by_cases h : g = f
    · rw [if_pos h] at e; cases e
      subst h
      exact ⟨v, by simp [List.lookup], r⟩
    · rw [if_neg h] at e
      obtain ⟨u, h1, h2⟩ := flook_rep t e
      refine ⟨u, ?_, h2⟩
      rw [List.zip_cons_cons, List.lookup_cons, str_beq_ne h]
      exact h1
theorem flook_none {C : RC} {g : Str} : ∀ {fs : List Str} {ds : List MV} {vs : List V}, RepVs C ds vs → fs.length = vs.length → flook fs ds g = none → (fs.zip vs).lookup g = none
  | [], _, _, _, _, _ => rfl
  | f :: fs, [], vs, t, l, e => by
    have := t.nil_inv
    subst this
    simp at l
  | f :: fs, x :: ds, vs, t, l, e => by
    obtain ⟨v, vr, rfl, r, t⟩ := t.cons_inv
    rw [flook] at e
    by_cases h : g = f
    · rw [if_pos h] at e; cases e
    · rw [if_neg h] at e
      rw [List.zip_cons_cons, List.lookup_cons, str_beq_ne h]
      exact flook_none t (by simpa using l) e
def fput : List Str → List MV → Str → MV → List Str × List MV
  | f :: fs, d :: ds, g, x => if f = g then (f :: fs, x :: ds) else (f :: (fput fs ds g x).1, d :: (fput fs ds g x).2)
  | _, _, g, x => ([g], [x])
theorem fput_rep {C : RC} {g : Str} {x : MV} {v : V} (r : RepV C x v) : ∀ {fs : List Str} {ds : List MV} {vs : List V}, RepVs C ds vs → fs.length = vs.length →
    ∃ vs', putF g v (fs.zip vs) = (fput fs ds g x).1.zip vs' ∧ (fput fs ds g x).1.length = vs'.length ∧ RepVs C (fput fs ds g x).2 vs'
  | [], ds, vs, t, l => by
    have : vs = [] := List.eq_nil_of_length_eq_zero (by simpa using l.symm)
    subst this
    refine ⟨[v], ?_, ?_, ?_⟩ <;> simp [fput, putF]
    exact .cons r .nil
  | f :: fs, [], vs, t, l => by
    have := t.nil_inv
    subst this
    simp at l
  | f :: fs, d :: ds, vs, t, l => by
    obtain ⟨u, vr, rfl, ru, t⟩ := t.cons_inv
    rw [fput, List.zip_cons_cons, putF]
    by_cases h : f = g
    · rw [if_pos h, if_pos h]
      exact ⟨v :: vr, by rw [List.zip_cons_cons], by simpa using l, .cons r t⟩
    · rw [if_neg h, if_neg h]
      obtain ⟨vs', h1, h2, h3⟩ := fput_rep r t (by simpa using l)
      exact ⟨u :: vs', by rw [h1, List.zip_cons_cons], by simpa using h2, .cons ru h3⟩
def fldM (c f : Str) (d : MV) (S : Sto) : R MV := match objOf S d with
  | some (c', fs, ds) => if c' = c then (match flook fs ds f with
    | some x => .ok x S
    | none => .stk) else .stk
  | none => .stk
def mFld (c f : Str) (o : ME) : ME := fun ρ S => (o ρ S).bind fun d S1 => fldM c f d S1
def fsetM (c f : Str) (o d : MV) (S : Sto) : Option Sto := match o with
  | .ref n => (match S[n]? with
    | some (.obj c' fs ds) => if c' = c ∧ fs.length < 900 then some (S.set n (.obj c' (fput fs ds f d).1 (fput fs ds f d).2)) else none
    | _ => none)
  | _ => none
def mFset (c f : Str) (e o : ME) : MS := fun ρ S => (e ρ S).thn ρ fun d S1 => (o ρ S1).thn ρ fun od S2 => match fsetM c f od d S2 with
  | some S3 => .nx ρ S3
  | none => .stk
section
variable {X : Cx} {W : WX} {e o : Expr} {es : List Expr} {me mo : ME} {mas : MA} {pos tpos apos p : Pos} {c f x : Str}
theorem se_fld (hc : Cls X.K (He.ga X.K c)) (hn : NoAttr X.K (He.ga X.K c) f) (ho : SE X W e me) (hb : attributeBase e f X.env (eval e X.env) = eval e X.env := by rfl) : SE X W (.Attribute e f pos) (mFld c f me) :=
  (pe_fld ho hb).imp fun σ H Q ⟨C, ρ, S, e, s, q⟩ => by
    subst e
    refine tE.bind s q fun d S1 C1 v s1 g1 r1 q1 => ?_
    unfold fldM at q1
    cases e1 : objOf S1 d with
    | none => rw [e1] at q1; exact q1.elim
    | some z =>
      obtain ⟨c', fs, ds⟩ := z
      rw [e1] at q1
      dsimp only at q1
      split at q1
      · rename_i ec
        subst ec
        cases e2 : flook fs ds f with
        | none => rw [e2] at q1; exact q1.elim
        | some x =>
          rw [e2] at q1
          obtain ⟨a, dx, vs, rfl, ha, l, t⟩ := objOf_rep s1.rs r1 e1
          obtain ⟨u, h1, h2⟩ := flook_rep t e2
          rw [s1.K] at ha
          exact ⟨a, _, dx, _, u, rfl, ha, hc, hn, h1, q1.now s1.rs u h2⟩
      · exact q1.elim
theorem ss_fset (hc : Cls X.K (He.ga X.K c)) (hn : NoAttr X.K (He.ga X.K c) f) (he : SE X W e me) (ho : SE X W o mo) (hs : swapsWith e (some (.Attribute o f tpos)) pos.line X.env = pure false := by rfl) : SS X W (.Assign [.Attribute o f tpos] e pos) (mFset c f me mo) :=
  (ps_fld ho he hs).imp fun D σ H ⟨C, ρ, S, e, s, q⟩ => by
    subst e
    refine tE.thn s q fun d S1 C1 v s1 g1 r1 q1 => ?_
    refine tE.thn s1 q1 fun od S2 C2 ov s2 g2 r2 q2 => ?_
    have rd := r1.grow g2 s1.rs
    unfold fsetM at q2
    cases od with
    | ref n =>
      dsimp only at q2
      rw [RepV] at r2
      obtain ⟨a, rfl, ha⟩ := r2
      cases e0 : S2[n]? with
      | none => rw [e0] at q2; exact q2.elim
      | some z =>
        rw [e0] at q2
        cases z with
        | obj c' fs ds =>
          dsimp only at q2
          split at q2
          · rename_i h
            split at h
            · rename_i hh
              obtain ⟨rfl, hl⟩ := hh
              cases h
              obtain ⟨dx, vs, h1, h2, h3⟩ := s2.rs.ob n _ a e0 ha
              obtain ⟨vs', k1, k2, k3⟩ := fput_rep (g := f) rd h3 h2
              have hK := s2.K
              rw [hK] at h1
              refine ⟨a, _, dx, _, rfl, h1, hc, hn, by rw [List.length_zip]; omega, ?_⟩
              have gw : ∀ {o : HO}, Grow C2 (C2.put a o) := Grow.write (List.mem_of_getElem? ha)
              rw [k1]
              have w := s2.rs.write (mo := .obj c' (fput fs ds f d).1 (fput fs ds f d).2) (o := .ins (He.ga X.K c') dx ((fput fs ds f d).1.zip vs')) ha ⟨dx, vs', by rw [put_same, ← hK]; rfl, k2, k3.grow gw s2.rs⟩
              exact q2 _ σ gw w (s2.ev.grow gw s2.rs) s2.ln
            · cases h
          · exact q2.elim
        | _ => exact q2.elim
    | _ => exact q2.elim
def makM (c : Str) (m : MF) (ds : List MV) (S : Sto) : R MV := (m (.ref S.length :: ds) (S ++ [.obj c [] []])).bind fun r S2 => match r with
  | .non => .ok (.ref S.length) S2
  | _ => .stk
end
section
variable {X : Cx} {CX : CXT} {k : Nat} {f C : Addr} {fd : FuncData} {ps : List Str} {sp : Sp} {E : L2.St → XK} {x m : Str} {p pos apos : Pos} {e o : Expr} {es : List Expr} {ta : TE} {t : TA}
/-- o.m(..), what is raised wished for at the slots -/
def tMethS (C : Addr) (m : Str) (sp : Sp) (E : L2.St → XK) (ta : TE) (t : TA) : TE := fun σ H Q => ta σ H fun x H1 => ∃ a dx fs, x = .ref a ∧ H1 a = some (.ins C dx fs) ∧ fs.lookup m = none ∧
  t σ H1 fun vs H2 => sp (x :: vs) H2 Q (E σ)
/-- a method's call by its parts -/
abbrev MethAs (X : Cx) (o : Expr) (m : Str) (apos pos : Pos) (es : List Expr) (pl : Sem Bool) : Prop := eval (.Call (.Attribute o m apos) es [] pos) X.env =
  (eval o X.env >>= fun ov => standAt apos.atName >>= fun _ => holding [ov] (getMethod ov m pl) >>= fun q => callWith pos q.1 q.2 (backTo pos (starEach es X.env)) (backToKw pos (keywordEach [] X.env)))
/-- up to the arguments -/
theorem meth_run {pl : Sem Bool} {pins : List (Addr × Obj)} {σ : L2.St} {H : Hp} {s : Shared} {Q : VK} {ws : List Expr} {G : V → Hp → Prop} (ho : PE X o ta) (c : Cls X.K C) (hm : Meth X.K C m f) (form : MethAs X o m apos pos ws pl) (inv : Inv X pins σ H s)
    (h : ta σ H fun x H1 => ∃ a dx fs, x = .ref a ∧ H1 a = some (.ins C dx fs) ∧ fs.lookup m = none ∧ G x H1)
    (go : ∀ a H1 s1, Inv X pins σ H1 s1 → G (.ref a) H1 → wpAny (model X.prog X.w) X.A (callWith pos (.ref f) [.ref a] (backTo pos (starEach ws X.env)) []) (EP X pins σ Q) X.xe s1) :
    wpAny (model X.prog X.w) X.A (eval (.Call (.Attribute o m apos) ws [] pos) X.env) (EP X pins σ Q) X.xe s :=
  PySem.W.methodCall_KW (thn (ho.run pins s σ H _ inv h) fun _ s1 ⟨_, H1, inv1, at1, a, _, _, is1, obj1, no1, g⟩ => by
    cases is1; cases at1
    exact getmeth_ok inv1 obj1 c hm no1 (go a H1 s1 inv1 g)) form
theorem pe_methS0 {pl : Sem Bool} (he : PE X o ta) (c : Cls X.K C) (hm : Meth X.K C m f) (F : FnOk X.prog X.w X.K X.mg X.base CX k f fd ps sp) (hr : Room k X.A) (hb : Binds X.K fd ps []) (hx : ∀ σ, PassesAt CX X σ (E σ))
    (form : MethAs X o m apos pos [] pl) : PE X (.Call (.Attribute o m apos) [] [] pos) (tMethS C m sp E ta tNil) where
  run pins s σ H Q inv q := meth_run (G := fun x H1 => sp [x] H1 Q (E σ)) he c hm form inv q fun a H1 s1 inv1 q1 =>
    PySem.W.callWith_K0 (first := [.ref a]) inv1.kIn hm.kp (run_fnS F hr hb (hx σ) inv1 (.cons (show RelV (.ref a) (.ref a) from rfl) .nil) q1)
/-- C(..) with an __init__ of its own: the new object's two cells lie at the heap's end -/
theorem run_makeS {pins : List (Addr × Obj)} {σ : L2.St} {H : Hp} {s : Shared} {Q : VK} {us : List Value} {vs : List V} (M : Mk X.K C f) (F : FnOk X.prog X.w X.K X.mg X.base CX k f fd ps sp) (hr : Room (k + 1) X.A) (hb : Binds X.K fd ps [])
    (hx : PassesAt CX X σ (E σ)) (inv : Inv X pins σ H s) (rs : Vals vs us)
    (h : ∀ x dx, H x = none → H dx = none → dx ≠ x → sp (.ref x :: vs) (upd (upd H dx (.own x)) x (.ins C dx [])) (fun v H2 => v = .non ∧ Q (.ref x) H2) (E σ)) :
    wpAny (model X.prog X.w) X.A (call (.ref C) us []) (EP X pins σ Q) X.xe s := by
  have made := Inv.made (C := C) inv
  have self : Vals (V.ref (s.heap.objs.size + 1) :: vs) (Value.ref (s.heap.objs.size + 1) :: us) := .cons (show RelV (.ref _) (.ref _) from rfl) rs
  have told := h _ _ (inv.hok.fresh (Nat.le_add_right _ 1)) (inv.hok.fresh Nat.le.refl) fun z => Nat.succ_ne_self _ z.symm
  have bound := hb _ (Value.ref (s.heap.objs.size + 1) :: us) made.kIn (by rw [List.append_nil]; exact self.length.symm.trans (F.len _ _ _ _ told))
  simp only [List.append_nil] at bound
  refine wpAny_call (make_map inv.kIn M.makes M.init (beq_iff_eq.mp M.fn) (codeAny_mono (F.run _ X.stack _ _ ⟨Value.ref (s.heap.objs.size + 1) :: us, []⟩ _ _ _ (E σ) (hr.make C us []) (made.env0.make C us []) bound self told) ?_))
  rintro (x | fl) s' res
  · exact hx pins _ _ x s' made res
  · cases fl with
    | ret _ =>
      obtain ⟨_, H', inv3, is, rfl, q⟩ := made.after res
      exact ⟨is, V.ref (s.heap.objs.size + 1), H', inv3, rfl, q⟩
    | _ => exact res.elim
def tMakeS (C : Addr) (sp : Sp) (E : L2.St → XK) (t : TA) : TE := fun σ H Q => t σ H fun vs H1 => ∀ x dx, H1 x = none → H1 dx = none → dx ≠ x →
  sp (.ref x :: vs) (upd (upd H1 dx (.own x)) x (.ins C dx [])) (fun v H2 => v = .non ∧ Q (.ref x) H2) (E σ)
theorem pe_makeS (M : Mk X.K C f) (F : FnOk X.prog X.w X.K X.mg X.base CX k f fd ps sp) (hr : Room (k + 1) X.A) (hg : Gl X x) (hm : X.mg x = some (.ref C)) (hb : Binds X.K fd ps []) (hx : ∀ σ, PassesAt CX X σ (E σ)) (ha : PA X (e :: es) t)
    (nd : (x == ("__debug__" : Str)) = false) (first : starEach (e :: es) X.env = (false, eval e X.env) :: starEach es X.env) (plain : (backTo pos (starEach es X.env)).any (·.1) = false) : PE X (.Call (.Name x p) (e :: es) [] pos) (tMakeS C sp E t) where
  run pins s σ H Q inv q := wpAny_Call_Name_kw (ld_glob inv hg hm (PySem.W.callWith_K (h₀ := X.base) inv.ok.mod.kin M.kp (thn (ha.run pos pins s σ H _ inv q) fun us s1 ⟨vs, H1, inv1, rs, q1⟩ => ⟨inv1.kIn, run_makeS M F hr hb (hx σ) inv1 rs q1⟩) first plain) nd)
end
section
variable {X : Cx} {W : WX} {e o : Expr} {es : List Expr} {me mo : ME} {mas : MA} {pos tpos apos p : Pos} {c x mn : Str} {k n : Nat} {f : Addr} {fd : FuncData} {ps : List Str} {m : MF}
theorem se_make (M : Mk X.K (He.ga X.K c) f) (F : FnOk X.prog X.w X.K X.mg X.base (L2.CX X.prog X.w) k f fd ps (spM X.w X.K (n + 1) m)) (hr : Room (k + 1) X.A) (hg : Gl X x) (hm : X.mg x = some (.ref (He.ga X.K c))) (hb : Binds X.K fd ps []) (tk : Takes X W)
    (ha : SA X W (e :: es) mas) (hl : LenA mas n) (hdb : (x == ("__debug__" : Str)) = false := by decide) (he : starEach (e :: es) X.env = (false, eval e X.env) :: starEach es X.env := by rfl) (hpl : (backTo pos (starEach es X.env)).any (·.1) = false := by rfl) :
    SE X W (.Call (.Name x p) (e :: es) [] pos) (mCallF (makM c m) mas) :=
  (pe_makeS (E := WE W) M F hr hg hm hb (passAt tk) ha hdb he hpl).imp fun σ H Q ⟨C, ρ, S, e, s, q⟩ => by
    subst e
    refine ⟨C, ρ, S, rfl, s, ?_⟩
    refine Wants.mono (Wants.bind q) fun ds S1 C1 g r1 e1 q1 vs rv => ?_
    intro a dx ha hdx hne
    have s1 := s.grow g r1
    have g2 : Grow C1 (C1.put dx (.own a)) := Grow.put hdx
    have r2 : RepS (C1.put dx (.own a)) S1 := r1.put hdx
    have h2 : (C1.put dx (.own a)).H a = none := by
      show upd C1.H dx _ a = none
      rw [upd_ne (Ne.symm hne)]; exact ha
    have g3 := Grow.cell (o := .ins (He.ga X.K c) dx []) h2
    have r3 : RepS ((C1.put dx (.own a)).cell a (.ins (He.ga X.K c) dx [])) (S1 ++ [.obj c [] []]) :=
      r2.cell h2 ⟨dx, [], by rw [cell_same]; show _ = some (HO.ins (He.ga C1.K c) dx []); rw [s1.K], rfl, .nil⟩
    have q1 := q1.1
    refine ⟨by rw [List.length_cons, ← rv.length, hl _ _ _ _ e1], _, _, .ref S1.length :: ds, rfl, (g2.trans g3).w.trans s1.w, (g2.trans g3).K.trans s1.K, r3, .cons (cell_ref r2) (rv.grow (g2.trans g3) r1), ?_⟩
    have q2 : Wants W σ C1 ((m (.ref S1.length :: ds) (S1 ++ [.obj c [] []])).bind fun r S2 => match r with
      | .non => .ok (.ref S1.length) S2
      | _ => .stk) (fun d _ C' => ∀ v, RepV C' d v → Q v C'.H) := q1
    cases e2 : m (.ref S1.length :: ds) (S1 ++ [.obj c [] []]) with
    | exc c' d S' => rw [e2] at q2; exact fun C' cls dx' g' r' e' => q2 C' cls dx' ((g2.trans g3).trans g') r' e'
    | stk => rw [e2] at q2; exact q2.elim
    | ok r S2 =>
      rw [e2] at q2
      intro C' g' r' v rv'
      rw [R.bind_ok] at q2
      cases r with
      | non => exact ⟨vNon rv', q2.here ((g2.trans g3).trans g') r' _ ((cell_ref r2).grow g' r3)⟩
      | _ => exact q2.elim
def methM (c mn : Str) (m : MF) (od : MV) (S : Sto) : Bool := match objOf S od with
  | some (c', fs, ds) => decide (c' = c) && (flook fs ds mn).isNone
  | none => false
def mMeth (c mn : Str) (m : MF) (o : ME) (as : MA) : ME := fun ρ S => (o ρ S).bind fun od S1 => if methM c mn m od S1 then (as ρ S1).bind fun ds S2 => m (od :: ds) S2 else .stk
theorem meth_imp {σ : L2.St} {H : Hp} {Q : VK} (hl : LenA mas n) (h : tE X W (mMeth c mn m mo mas) σ H Q) : tMethS (He.ga X.K c) mn (spM X.w X.K (n + 1) m) (WE W) (tE X W mo) (tA X W mas) σ H Q := by
  obtain ⟨C, ρ, S, e, s, q⟩ := h
  subst e
  refine tE.bind s q fun od S1 C1 v s1 g1 r1 q1 => ?_
  split at q1
  · rename_i hh
    unfold methM at hh
    cases e1 : objOf S1 od with
    | none => rw [e1] at hh; cases hh
    | some z =>
      obtain ⟨c', fs, ds⟩ := z
      rw [e1] at hh
      simp only [Bool.and_eq_true, decide_eq_true_eq, Option.isNone_iff_eq_none] at hh
      obtain ⟨rfl, hn⟩ := hh
      obtain ⟨a, dx, vs, rfl, ha, l, t⟩ := objOf_rep s1.rs r1 e1
      rw [s1.K] at ha
      refine ⟨a, dx, _, rfl, ha, flook_none t l hn, C1, ρ, S1, rfl, s1, ?_⟩
      refine Wants.mono (Wants.bind q1) fun ds S2 C2 g2 r2 e2 q2 vs rv => ?_
      refine ⟨by rw [List.length_cons, ← rv.length, hl _ _ _ _ e2], C2, S2, od :: ds, rfl, g2.w.trans s1.w, g2.K.trans s1.K, r2, .cons (r1.grow g2 s1.rs) rv, ?_⟩
      exact q2.1.wish fun cls dx H h => h
  · exact q1.elim
theorem se_meth0 {pl : Sem Bool} (cl : Cls X.K (He.ga X.K c)) (hm : Meth X.K (He.ga X.K c) mn f) (F : FnOk X.prog X.w X.K X.mg X.base (L2.CX X.prog X.w) k f fd ps (spM X.w X.K 1 m)) (hr : Room k X.A) (hb : Binds X.K fd ps []) (tk : Takes X W) (ho : SE X W o mo)
    (ht : MethAs X o mn apos pos [] pl := by rfl) :
    SE X W (.Call (.Attribute o mn apos) [] [] pos) (mMeth c mn m mo mNil) :=
  (pe_methS0 (E := WE W) ho cl hm F hr hb (passAt tk) ht).imp fun σ H Q h => by
    have z := meth_imp (n := 0) lenNil h
    obtain ⟨C, ρ, S, e, s, w⟩ := z
    refine ⟨C, ρ, S, e, s, w.mono fun od S1 C1 g1 r1 e1 q v rv => ?_⟩
    obtain ⟨a, dx, fs, h1, h2, h3, C2, ρ2, S2, e2, s2, w2⟩ := q v rv
    refine ⟨a, dx, fs, h1, h2, h3, ?_⟩
    have := w2.now s2.rs [] .nil
    rw [e2] at this
    exact this
end
end Mi
set_option Elab.async false
set_option linter.all false
set_option maxRecDepth 100000
set_option maxHeartbeats 2000000
namespace Mi
open PySem PySem.Spec PyProof.Rows L2
def RS.calm : RS → RS
  | .exc _ _ _ _ => .stk
  | r => r
theorem WantS.calm {W : WX} {D : Ends} {C : RC} {r : RS} (h : WantS W D C r.calm) : WantS WNo D C r := by
  cases r with
  | nx ρ S => exact h
  | rt d S => exact h
  | exc c d ρ S => exact h.elim
  | stk => exact h
end Mi
set_option Elab.async false
set_option linter.all false
set_option maxRecDepth 100000
set_option maxHeartbeats 2000000
namespace Mi
open PySem PySem.Spec PyProof.Rows L2
def frz (b : Nat) (S : Sto) : Nat → MV → Option MV
  | 0, d => if refsB b d then some d else none
  | n + 1, .ref k => if k < b then some (.ref k) else (match S[k]? with
    | some (.lst xs) => (xs.mapM (frz b S n)).map .lst
    | some (.dct ks vs) => (vs.mapM (frz b S n)).map (.dct ks)
    | some (.dcT ks vs) => if refsBs b ks then (vs.mapM (frz b S n)).map (.dcT ks) else none
    | some (.obj c fs vs) => (vs.mapM (frz b S n)).map (.obj c fs)
    | _ => none)
  | n + 1, .tup xs => (xs.mapM (frz b S n)).map .tup
  | n + 1, .lst xs => (xs.mapM (frz b S n)).map .lst
  | n + 1, .dct ks vs => (vs.mapM (frz b S n)).map (.dct ks)
  | n + 1, .obj c fs vs => (vs.mapM (frz b S n)).map (.obj c fs)
  | _ + 1, d => if refsB b d then some d else none
def RC.cut (C : RC) (b : Nat) : RC := { C with ι := C.ι.take b }
theorem Tr.cut {C : RC} {b : Nat} : Tr b C (C.cut b) := by
  refine ⟨rfl, rfl, fun _ _ q => q, fun a u n q => ⟨⟨fun m => n.1 (List.mem_of_mem_take m), n.2⟩, .inl q⟩, fun _ _ _ q => q, fun n a hn q => ?_⟩
  show (C.ι.take b)[n]? = some a
  rw [List.getElem?_take_of_lt hn]; exact q
theorem mapM_rep {C C' : RC} {f : MV → Option MV} (h : ∀ d v d', RepV C d v → f d = some d' → RepV C' d' v) : ∀ {xs ys : List MV} {vs : List V}, RepVs C xs vs → xs.mapM f = some ys → RepVs C' ys vs
  | [], ys, vs, t, e => by
    simp at e; subst e
    rw [t.nil_inv]; exact .nil
  | x :: xs, ys, vs, t, e => by
    obtain ⟨v, vr, rfl, r, t⟩ := t.cons_inv
    rw [List.mapM_cons] at e
    cases e1 : f x with
    | none => rw [e1] at e; cases e
    | some y =>
      rw [e1] at e
      cases e2 : xs.mapM f with
      | none => rw [e2] at e; cases e
      | some zs =>
        rw [e2] at e
        have e : some (y :: zs) = some ys := e
        cases e
        exact .cons (h x v y r e1) (mapM_rep h t e2)
theorem notmem_take {C : RC} {n b : Nat} {a : Addr} (nd : C.ι.Nodup) (h : C.ι[n]? = some a) (hb : b ≤ n) : a ∉ C.ι.take b := fun m => by
  obtain ⟨j, hj⟩ := List.mem_iff_getElem?.mp m
  rw [List.getElem?_take] at hj
  split at hj
  · rename_i hl
    obtain ⟨h1, e1⟩ := List.getElem?_eq_some_iff.mp h
    obtain ⟨h2, e2⟩ := List.getElem?_eq_some_iff.mp hj
    have := (List.getElem_inj nd).mp (e1.trans e2.symm)
    omega
  · cases hj
theorem frz_rep {C : RC} {S : Sto} {b : Nat} (r : RepS C S) : ∀ (n : Nat) (d : MV) (v : V) (d' : MV), RepV C d v → frz b S n d = some d' → RepV (C.cut b) d' v
  | 0, d, v, d', h, e => by
    rw [frz] at e
    split at e
    · cases e
      exact RepV.tr Tr.cut d v (by assumption) h
    · cases e
  | n + 1, d, v, d', h, e => by
    have ih := frz_rep (b := b) r n
    have fz : ∀ {a : Addr} {k : Nat}, C.ι[k]? = some a → b ≤ k → Froz (C.cut b) a := fun {a k} hk hb => ⟨notmem_take r.nd hk hb, fun m => (r.bad a m).1 (List.mem_of_getElem? hk)⟩
    have fz2 : ∀ {a : Addr}, Froz C a → Froz (C.cut b) a := fun {a} n => ⟨fun m => n.1 (List.mem_of_mem_take m), n.2⟩
    have rest : ∀ d : MV, (if refsB b d then some d else none) = some d' → RepV C d v → RepV (C.cut b) d' v := fun d e h => by
      by_cases hb : refsB b d = true
      · rw [if_pos hb] at e
        cases e
        exact RepV.tr Tr.cut _ v hb h
      · rw [if_neg hb] at e; cases e
    cases d with
    | ref k =>
      rw [frz] at e
      rw [RepV] at h
      obtain ⟨a, rfl, ha⟩ := h
      split at e
      · cases e
        rw [RepV]
        refine ⟨a, rfl, ?_⟩
        show (C.ι.take b)[k]? = some a
        rw [List.getElem?_take_of_lt (by assumption)]; exact ha
      · rename_i hk
        have hk : b ≤ k := Nat.le_of_not_lt hk
        cases e0 : S[k]? with
        | none => rw [e0] at e; cases e
        | some o =>
          rw [e0] at e
          have ro := r.ob k o a e0 ha
          cases o with
          | lst xs =>
            dsimp only at e
            cases e1 : xs.mapM (frz b S n) with
            | none => rw [e1] at e; cases e
            | some ys =>
              rw [e1] at e; cases e
              obtain ⟨vs, hv, t⟩ := ro
              rw [RepV]
              exact ⟨a, vs, rfl, fz ha hk, hv, mapM_rep ih t e1⟩
          | dct ks xs =>
            dsimp only at e
            cases e1 : xs.mapM (frz b S n) with
            | none => rw [e1] at e; cases e
            | some ys =>
              rw [e1] at e; cases e
              obtain ⟨vs, hv, l, nd, t⟩ := ro
              rw [RepV]
              exact ⟨a, vs, rfl, fz ha hk, .inl hv, l, nd, mapM_rep ih t e1⟩
          | obj c fs xs =>
            dsimp only at e
            cases e1 : xs.mapM (frz b S n) with
            | none => rw [e1] at e; cases e
            | some ys =>
              rw [e1] at e; cases e
              obtain ⟨dx, vs, hv, l, t⟩ := ro
              rw [RepV]
              exact ⟨a, dx, vs, rfl, fz ha hk, hv, l, mapM_rep ih t e1⟩
          | dcT ks xs =>
            dsimp only at e
            by_cases hb : refsBs b ks = true
            · rw [if_pos hb] at e
              cases e1 : xs.mapM (frz b S n) with
              | none => rw [e1] at e; cases e
              | some ys =>
                rw [e1] at e; cases e
                obtain ⟨sm, ko, nd, l, z, ob, es, ep, ps, us, kvs, vs, q, ex, hd, he, hk', tk, rv, t⟩ := ro
                have t' := mapM_rep ih t e1
                rw [RepV]
                exact ⟨a, rfl, fz ha hk, sm, ko, nd, by rw [l, t.length, t'.length], z, ob, es, ep, ps, us, kvs, vs, q, ex, hd, he, hk', RepVs.tr Tr.cut ks kvs hb tk, rv, t'⟩
            · rw [if_neg hb] at e; cases e
    | tup xs =>
      rw [frz] at e
      cases e1 : xs.mapM (frz b S n) with
      | none => rw [e1] at e; cases e
      | some ys =>
        rw [e1] at e; cases e
        rw [RepV] at h ⊢
        obtain ⟨a, vs, ev, q, t⟩ := h
        exact ⟨a, vs, ev, q, mapM_rep ih t e1⟩
    | lst xs =>
      rw [frz] at e
      cases e1 : xs.mapM (frz b S n) with
      | none => rw [e1] at e; cases e
      | some ys =>
        rw [e1] at e; cases e
        rw [RepV] at h ⊢
        obtain ⟨a, vs, ev, nn, q, t⟩ := h
        exact ⟨a, vs, ev, fz2 nn, q, mapM_rep ih t e1⟩
    | dct ks xs =>
      rw [frz] at e
      cases e1 : xs.mapM (frz b S n) with
      | none => rw [e1] at e; cases e
      | some ys =>
        rw [e1] at e; cases e
        rw [RepV] at h ⊢
        obtain ⟨a, vs, ev, nn, q, l, nd, t⟩ := h
        exact ⟨a, vs, ev, fz2 nn, q, l, nd, mapM_rep ih t e1⟩
    | obj c fs xs =>
      rw [frz] at e
      cases e1 : xs.mapM (frz b S n) with
      | none => rw [e1] at e; cases e
      | some ys =>
        rw [e1] at e; cases e
        rw [RepV] at h ⊢
        obtain ⟨a, dx, vs, ev, nn, q, l, t⟩ := h
        exact ⟨a, dx, vs, ev, fz2 nn, q, l, mapM_rep ih t e1⟩
    | non => exact rest _ (by simpa only [frz] using e) h
    | bl x => exact rest _ (by simpa only [frz] using e) h
    | int x => exact rest _ (by simpa only [frz] using e) h
    | str x => exact rest _ (by simpa only [frz] using e) h
    | dcT x y => exact rest _ (by simpa only [frz] using e) h
    | kls x => exact rest _ (by simpa only [frz] using e) h
    | ptp x => exact rest _ (by simpa only [frz] using e) h
def refsO (b : Nat) : MO → Bool
  | .lst xs => refsBs b xs
  | .dct _ vs => refsBs b vs
  | .dcT ks vs => refsBs b ks && refsBs b vs
  | .obj _ _ vs => refsBs b vs
def cutS (b : Nat) (S S' : Sto) : Option Sto := if S'.take b = S then some S else if (S'.take b).all (refsO b) then some (S'.take b) else none
/-- at a def's end the cells that it made go -/
def frzF (m : MF) : MF := fun ds S => match m ds S with
  | .ok d S' => (match frz S.length S' 8 d, cutS S.length S S' with
    | some d', some S2 => .ok d' S2
    | _, _ => .stk)
  | .exc c d S' => (match cutS S.length S S' with
    | some S2 => if refsB S.length d then .exc c d S2 else .stk
    | none => .stk)
  | .stk => .stk
theorem RepO.refs {C : RC} {a : Addr} {o : MO} (h : RepO C a o) : refsO C.ι.length o = true := by
  cases o with
  | lst xs => obtain ⟨vs, q, t⟩ := h; exact RepVs.refs xs vs t
  | dct ks ds => obtain ⟨vs, q, l, nd, t⟩ := h; exact RepVs.refs ds vs t
  | dcT ks ds =>
    obtain ⟨sm, ko, nd, l, z, ob, es, ep, ps, us, kvs, vs, q, ex, hd, he, hk, tk, rv, t⟩ := h
    simp only [refsO, RepVs.refs ks kvs tk, RepVs.refs ds vs t, Bool.and_self]
  | obj c fs ds => obtain ⟨dx, vs, q, l, t⟩ := h; exact RepVs.refs ds vs t
theorem RepO.trb {C C' : RC} {b : Nat} {a : Addr} {o : MO} (x : Tr b C C') (e : C'.H a = C.H a) (hb : refsO b o = true) (h : RepO C a o) : RepO C' a o := by
  cases o with
  | lst xs => obtain ⟨vs, q, t⟩ := h; exact ⟨vs, e.trans q, RepVs.tr x _ _ hb t⟩
  | dct ks ds => obtain ⟨vs, q, l, nd, t⟩ := h; exact ⟨vs, e.trans q, l, nd, RepVs.tr x _ _ hb t⟩
  | dcT ks ds =>
    obtain ⟨sm, ko, nd, l, z, ob, es, ep, ps, us, kvs, vs, q, ex, hd, he, hk, tk, rv, t⟩ := h
    have hb' : refsBs b ks = true ∧ refsBs b ds = true := by simpa [refsO] using hb
    exact ⟨sm, ko, nd, l, z, ob, es, ep, ps, us, kvs, vs, e.trans q, ex, hd, by rw [x.w]; exact he, hk, RepVs.tr x _ _ hb'.1 tk, rv, RepVs.tr x _ _ hb'.2 t⟩
  | obj c fs ds => obtain ⟨dx, vs, q, l, t⟩ := h; exact ⟨dx, vs, by rw [x.K]; exact e.trans q, l, RepVs.tr x _ _ hb t⟩
theorem cut_rep' {C C' : RC} {S S' S2 : Sto} (r : RepS C S) (g : Grow C C') (r' : RepS C' S') (h : cutS S.length S S' = some S2) : RepS (C'.cut S.length) S2 ∧ Grow C (C'.cut S.length) := by
  have hl : S.length = C.ι.length := r.len.symm
  have key : ∀ S2, S'.take S.length = S2 → (∀ o ∈ S2, refsO S.length o = true) → RepS (C'.cut S.length) S2 := fun S2 e2 ho => by
    subst e2
    refine ⟨by show (C'.ι.take _).length = _; simp [r'.len], r'.nd.sublist (List.take_sublist _ _), fun a m => ⟨fun m2 => (r'.bad a m).1 (List.mem_of_mem_take m2), (r'.bad a m).2⟩, fun n mo a e1 e2 => ?_⟩
    have e2 : (C'.ι.take S.length)[n]? = some a := e2
    rw [List.getElem?_take] at e1 e2
    split at e1
    · rename_i hn
      rw [if_pos hn] at e2
      exact (r'.ob n mo a e1 e2).trb Tr.cut rfl (ho mo (List.mem_of_getElem? (by rw [List.getElem?_take_of_lt hn]; exact e1)))
    · cases e1
  refine ⟨?_, ?_⟩
  · unfold cutS at h
    split at h
    · rename_i e
      cases h
      refine key S e fun o ho => ?_
      obtain ⟨n, hn⟩ := List.mem_iff_getElem?.mp ho
      have hn2 : n < C.ι.length := by rw [r.len]; exact (List.getElem?_eq_some_iff.mp hn).1
      rw [hl]
      exact (r.ob n o C.ι[n] hn (List.getElem?_eq_getElem hn2)).refs
    · split at h
      · rename_i e
        cases h
        exact key _ rfl (List.all_eq_true.mp e)
      · cases h
  · refine ⟨g.w, g.K, g.bad, g.bad', g.kp, fun a m => g.new a (List.mem_of_mem_take m), ?_, g.le, ?_⟩
    · show (C'.ι.take S.length).take C.ι.length = _
      rw [hl, List.take_take, Nat.min_self]; exact g.pre
    · show C.ι.length ≤ (C'.ι.take S.length).length
      rw [List.length_take, hl]
      have := g.le'
      omega
theorem frz_ok {P : Program} {w : World} {K : PySem.W.Frag} {mg : Str → Option Value} {base : Heap} {k n : Nat} {f : Addr} {fd : FuncData} {ps : List Str} {m : MF} (F : FnOk P w K mg base (L2.CX P w) k f fd ps (spM w K n m)) :
    FnOk P w K mg base (L2.CX P w) k f fd ps (spM w K n (frzF m)) := F.imp fun vs H Q E ⟨hl, C, S, ds, e, hw, hK, r, t, q⟩ => by
  refine ⟨hl, C, S, ds, e, hw, hK, r, t, ?_⟩
  unfold frzF at q
  cases e1 : m ds S with
  | stk => rw [e1] at q; exact q
  | ok d S' =>
    rw [e1] at q
    dsimp only at q
    intro C' g r' v rv
    cases e2 : frz S.length S' 8 d with
    | none => rw [e2] at q; exact q.elim
    | some d' =>
      cases e3 : cutS S.length S S' with
      | none => rw [e2, e3] at q; exact q.elim
      | some S2 =>
        rw [e2, e3] at q
        obtain ⟨h1, h2⟩ := cut_rep' r g r' e3
        exact q (C'.cut S.length) h2 h1 v (frz_rep r' 8 d v d' rv e2)
  | exc c d S' =>
    rw [e1] at q
    dsimp only at q
    intro C' cls dx g r' xr
    cases e3 : cutS S.length S S' with
    | none => rw [e3] at q; exact q.elim
    | some S2 =>
      rw [e3] at q
      dsimp only at q
      split at q
      · rename_i hb
        obtain ⟨h1, h2⟩ := cut_rep' r g r' e3
        refine q (C'.cut S.length) cls dx h2 h1 ⟨xr.1, ?_⟩
        rcases xr.2 with z | ⟨a, f, d', v, ed, e, q, t⟩
        · exact .inl z
        · exact .inr ⟨a, f, d', v, ed, e, q, RepV.tr Tr.cut d' v (by subst ed; simpa [refsB, refsBs] using hb) t⟩
      · exact q.elim
mutual
theorem conB_ok {K : PySem.W.Frag} : ∀ (d : MV) (u : Value), conB K d u = true → ∃ v, RelV v u ∧ ∀ C : RC, C.K = K → RepV C d v
  | .non, u, h => by cases u <;> first | (exact ⟨.non, rfl, fun _ _ => repN⟩) | cases h
  | .bl b, u, h => by
    cases u with
    | bool c =>
      have : b = c := by simpa [conB] using h
      exact ⟨.bl b, by rw [this]; rfl, fun _ _ => repB _⟩
    | _ => cases h
  | .int i, u, h => by
    cases u with
    | int j t =>
      have : j = i := by simpa [conB] using h
      exact ⟨.int i, ⟨t, by rw [this]⟩, fun _ _ => repI _⟩
    | _ => cases h
  | .str x, u, h => by
    cases u with
    | str y t =>
      have : y = x := by simpa [conB] using h
      exact ⟨.str x, ⟨t, by rw [this]⟩, fun _ _ => repS _⟩
    | _ => cases h
  | .tup xs, u, h => by
    cases u with
    | ref a =>
      rw [conB] at h
      cases q : K.lookup a with
      | none => rw [q] at h; cases h
      | some o =>
        obtain ⟨oc, od, dt, osl⟩ := o
        rw [q] at h
        cases oc with
        | type c =>
          cases dt with
          | seq its n =>
            have both : (decide (c = "tuple") && (decide (its.size ≤ sizeLine) && conBs K xs its.toList)) = true := h
            rw [Bool.and_eq_true, Bool.and_eq_true, decide_eq_true_eq, decide_eq_true_eq] at both
            obtain ⟨rfl, hz, h3⟩ := both
            obtain ⟨vs, rv, t⟩ := conBs_ok xs its.toList h3
            refine ⟨.ref a, rfl, fun C hC => ?_⟩
            rw [RepV]
            exact ⟨a, vs, rfl, by rw [hC]; exact .inr ⟨_, its, n, q, rfl, rfl, hz, rv⟩, t C hC⟩
          | _ => cases h
        | _ => cases dt <;> cases h
    | _ => cases h
  | .lst _, u, h => by cases u <;> cases h
  | .dct _ _, u, h => by cases u <;> cases h
  | .dcT _ _, u, h => by cases u <;> cases h
  | .obj _ _ _, u, h => by cases u <;> cases h
  | .ref _, u, h => by cases u <;> cases h
  | .kls _, u, h => by cases u <;> cases h
  | .ptp _, u, h => by cases u <;> cases h
theorem conBs_ok {K : PySem.W.Frag} : ∀ (ds : List MV) (us : List Value), conBs K ds us = true → ∃ vs, Vals vs us ∧ ∀ C : RC, C.K = K → RepVs C ds vs
  | [], [], _ => ⟨[], .nil, fun _ _ => .nil⟩
  | [], _ :: _, h => by cases h
  | _ :: _, [], h => by cases h
  | d :: ds, u :: us, h => by
    have both : (conB K d u && conBs K ds us) = true := h
    rw [Bool.and_eq_true] at both
    obtain ⟨v, r, t⟩ := conB_ok d u both.1
    obtain ⟨vs, rv, tv⟩ := conBs_ok ds us both.2
    exact ⟨v :: vs, .cons r rv, fun C hC => .cons (t C hC) (tv C hC)⟩
end
end Mi
set_option Elab.async false
set_option linter.all false
set_option maxRecDepth 100000
set_option maxHeartbeats 2000000
namespace Mi
open PySem PySem.Spec PyProof.Rows L2
/-- a def by its name, with what it does -/
def FN (P : Program) (w : World) (K : PySem.W.Frag) (mg : Str → Option Value) (base : Heap) (k n : Nat) (x : Str) (m : MF) : Prop :=
  ∃ f fd ps, FnOk P w K mg base (L2.CX P w) k f fd ps (spM w K n m) ∧ mg x = some (.ref f) ∧ PySem.W.keepIn K (.ref f) = true ∧ Binds K fd ps []
/-- a method -/
def MN (P : Program) (w : World) (K : PySem.W.Frag) (mg : Str → Option Value) (base : Heap) (k n : Nat) (c mn : Str) (m : MF) : Prop :=
  ∃ fd ps, FnOk P w K mg base (L2.CX P w) k (He.ma K (He.ga K c) mn) fd ps (spM w K n m) ∧ Binds K fd ps []
/-- a constant of the module -/
def KC (mg : Str → Option Value) (K : PySem.W.Frag) (x : Str) (d : MV) : Prop := ∃ u v, mg x = some u ∧ RelV v u ∧ ∀ C : RC, C.K = K → RepV C d v
theorem kc_of {mg : Str → Option Value} {K : PySem.W.Frag} {x : Str} {d : MV} {u : Value} (h : mg x = some u) (c : conB K d u = true) : KC mg K x d := by
  obtain ⟨v, r, q⟩ := conB_ok d u c
  exact ⟨u, v, h, r, q⟩
section
variable {X : Cx} {W : WX} {e o : Expr} {es : List Expr} {mo : ME} {mas : MA} {pos p apos rpos : Pos} {k n j : Nat} {x c mn f : Str} {m : MF}
theorem se_callN (h : FN X.prog X.w X.K X.mg X.base k n x m) (hr : Room j X.A) (hj : k ≤ j) (hg : Gl X x) (tk : Takes X W) (ha : SA X W (e :: es) mas) (hl : LenA mas n) (hdb : (x == ("__debug__" : Str)) = false := by decide)
    (he : starEach (e :: es) X.env = (false, eval e X.env) :: starEach es X.env := by rfl)
    (hpl : (backTo pos (starEach es X.env)).any (·.1) = false := by rfl) :
    SE X W (.Call (.Name x p) (e :: es) [] pos) (mCallF m mas) := by
  obtain ⟨f, fd, ps, F, h1, h2, h3⟩ := h
  exact se_call F (hr.mono hj) hg h1 h2 h3 tk ha hl hdb he hpl
theorem se_callN0 (h : FN X.prog X.w X.K X.mg X.base k 0 x m) (hr : Room j X.A) (hj : k ≤ j) (hg : Gl X x) (hpure : ∀ S c d S', m [] S ≠ .exc c d S') (hdb : (x == ("__debug__" : Str)) = false := by decide) :
    SE X W (.Call (.Name x p) [] [] pos) (mCallF m mNil) := by
  obtain ⟨f, fd, ps, F, h1, h2, h3⟩ := h
  exact se_call0 F (hr.mono hj) hg h1 h2 h3 hpure hdb
theorem se_makeN (h : MN X.prog X.w X.K X.mg X.base k (n + 1) c "__init__" m) (M : Mk X.K (He.ga X.K c) (He.ma X.K (He.ga X.K c) "__init__")) (hm : X.mg c = some (.ref (He.ga X.K c))) (hr : Room j X.A) (hj : k + 1 ≤ j) (hg : Gl X c) (tk : Takes X W) (ha : SA X W (e :: es) mas) (hl : LenA mas n) (hdb : (c == ("__debug__" : Str)) = false := by decide)
    (he : starEach (e :: es) X.env = (false, eval e X.env) :: starEach es X.env := by rfl)
    (hpl : (backTo pos (starEach es X.env)).any (·.1) = false := by rfl) :
    SE X W (.Call (.Name c p) (e :: es) [] pos) (mCallF (makM c m) mas) := by
  obtain ⟨fd, ps, F, h3⟩ := h
  exact se_make M F (hr.mono hj) hg hm h3 tk ha hl hdb he hpl
theorem se_methN0 {pl : Sem Bool} (h : MN X.prog X.w X.K X.mg X.base k 1 c mn m) (cl : Cls X.K (He.ga X.K c)) (hm : Meth X.K (He.ga X.K c) mn (He.ma X.K (He.ga X.K c) mn)) (hr : Room j X.A) (hj : k ≤ j) (tk : Takes X W) (ho : SE X W o mo)
    (ht : MethAs X o mn apos pos [] pl := by rfl) :
    SE X W (.Call (.Attribute o mn apos) [] [] pos) (mMeth c mn m mo mNil) := by
  obtain ⟨fd, ps, F, h3⟩ := h
  exact se_meth0 cl hm F (hr.mono hj) h3 tk ho ht
theorem se_globN {d : MV} (h : KC X.mg X.K x d) (hg : Gl X x) (hd : (x == ("__debug__" : Str)) = false := by decide) : SE X W (.Name x pos) (mC d) := by
  obtain ⟨u, v, h1, h2, h3⟩ := h
  exact se_glob hg h1 h2 h3 hd
end
section
variable {X : Cx} {W : WX} {pos : Pos} {x : Str} {k : Nat}
theorem sv (i : Nat) (hN : X.N[i]? = some x := by rfl) (hv : Vis X.env.scope x := by first | exact .inl rfl | exact .inr (.inl rfl) | exact .inr (.inr rfl)) (hd : (x == ("__debug__" : Str)) = false := by decide) (hcd : (x == ("__classdict__" : Str)) = false := by decide) : SE X W (.Name x pos) (mVar i) := se_var hN hv hd hcd
theorem sn (i : Nat) (nd : X.N.Nodup) (hN : X.N[i]? = some x := by rfl) (hx : Loc X.env.scope x := by first | exact .inl rfl | exact .inr rfl) (hf : X.fn x = true ∨ X.env.scope.names.lookup x = some .local := by first | exact .inl rfl | exact .inr rfl | assumption) : SG X (.Name x pos) (tgName i) := sg_name nd hN hx hf
theorem sset (i : Nat) {e : Expr} {me : ME} {pos' : Pos} (nd : X.N.Nodup) (he : SE X W e me) (hN : X.N[i]? = some x := by rfl) (hx : Loc X.env.scope x := by first | exact .inl rfl | exact .inr rfl) (hs : swapsWith e (some (.Name x pos')) pos.line X.env = pure false := by rfl) (hf : X.fn x = true ∨ X.env.scope.names.lookup x = some .local := by first | exact .inl rfl | exact .inr rfl | assumption) :
    SS X W (.Assign [.Name x pos'] e pos) (mAsg me (tgName i)) := ss_set nd hN hx he hs hf
theorem Room.u1 (r : Room k X.A) : X.A.units + 1 < cLine := by have := r.un; omega
theorem Room.u64 (r : Room k X.A) : X.A.units + 64 < cLine := by have := r.un; omega
theorem Room.u65 (r : Room k X.A) : X.A.units + 65 < cLine := by have := r.un; omega
end
end Mi
set_option Elab.async false
set_option linter.all false
set_option maxRecDepth 100000
set_option maxHeartbeats 2000000
namespace Mi
open PySem PySem.Spec PyProof.Rows L2
abbrev MO' := Ev → Sto → R (Option Int)
def moNone : MO' := fun _ S => .ok none S
def moSome (e : ME) : MO' := fun ρ S => (e ρ S).bind fun d S1 => match d with
  | .int i => .ok (some i) S1
  | _ => .stk
def tO (X : Cx) (W : WX) (m : MO') : TO := fun σ H Q => ∃ C ρ S, C.H = H ∧ Sv X ρ σ S C ∧ Wants W σ C (m ρ S) (fun o _ C' => Q o C'.H)
theorem _root_.L2.PO.imp {X : Cx} {e : Option Expr} {t t' : TO} (h : PO X e t) (k : ∀ σ H Q, t' σ H Q → t σ H Q) : PO X e t' := ⟨fun pins s σ H Q I q => h.run pins s σ H Q I (k σ H Q q)⟩
abbrev SO (X : Cx) (W : WX) (e : Option Expr) (m : MO') : Prop := PO X e (tO X W m)
def mSlice (e : ME) (lo hi : MO') : ME := fun ρ S => (e ρ S).bind fun d S1 => (lo ρ S1).bind fun l S2 => (hi ρ S2).bind fun h S3 => slcM d l h S3
theorem pu_slc : ∀ d l h S c x S', slcM d l h S ≠ .exc c x S' := by
  intro d l h S c x S' e
  unfold slcM at e
  split at e
  · cases e
  · split at e <;> cases e
  · split at e <;> cases e
section
variable {X : Cx} {W : WX} {e : Expr} {me : ME} {lo hi : Option Expr} {ml mh : MO'} {pos p2 : Pos}
theorem so_none : SO X W none moNone := po_none.imp fun σ H Q ⟨C, ρ, S, e, s, q⟩ => by
  subst e
  exact q.now s.rs
theorem so_some (h : SE X W e me) : SO X W (some e) (moSome me) := (po_some h).imp fun σ H Q ⟨C, ρ, S, e, s, q⟩ => by
  subst e
  refine tE.bind s q fun d S1 C1 v s1 g1 r1 q1 => ?_
  split at q1
  · exact ⟨_, vInt r1, q1.now s1.rs⟩
  · exact q1.elim
theorem se_slice (he : SE X W e me) (hl : SO X W lo ml) (hh : SO X W hi mh) : SE X W (.Subscript e (.Slice lo hi none p2) pos) (mSlice me ml mh) :=
  (pe_slice slM he hl hh).imp fun σ H Q ⟨C, ρ, S, e, s, q⟩ => by
    subst e
    refine tE.bind s q fun d S1 C1 v s1 g1 r1 q1 => ?_
    refine ⟨C1, ρ, S1, rfl, s1, (Wants.bind q1).mono fun l S2 C2 g2 r2 _ q2 => ?_⟩
    have s2 := s1.grow g2 r2
    refine ⟨C2, ρ, S2, rfl, s2, (Wants.bind q2.1).mono fun h S3 C3 g3 r3 _ q3 => ?_⟩
    have s3 := s2.grow g3 r3
    refine ⟨C3, S3, d, rfl, s3.w, s3.K, s3.rs, (r1.grow g2 s1.rs).grow g3 s2.rs, ?_⟩
    have q3 := q3.1
    cases e : slcM d l h S3 with
    | ok a S' => rw [e] at q3; exact ⟨a, S', rfl, q3⟩
    | exc c d S' => exact absurd e (pu_slc _ _ _ _ _ _ _)
    | stk => rw [e] at q3; exact q3.elim
end
theorem pu_len : Pure1 lenM := by
  intro ds S c d S' h
  unfold lenM at h
  split at h
  · split at h
    · cases h
    · unfold lenD at h
      split at h
      · cases h
      · split at h
        · split at h <;> cases h
        · cases h
  · cases h
theorem pu_int : Pure1 intM := by intro ds S c d S' h; unfold intM at h; split at h <;> cases h
theorem pu_tuple : Pure1 tupM := by
  intro ds S c d S' h
  unfold tupM at h
  split at h
  · split at h <;> cases h
  · cases h
theorem pu_list {fr : Bool} : Pure1 (lstM fr) := by
  intro ds S c d S' h
  unfold lstM at h
  split at h
  · split at h
    · split at h <;> cases h
    · cases h
  · cases h
theorem takes_cx {P : Program} {w : World} {K : PySem.W.Frag} {mg : Str → Option Value} {base : Heap} {N : List Str} {q : Str} {sc : Scope} {f : Addr} {cdv : Value} {A : Around} {outer : List Env} {s : Shared} {H : Hp} {E : XK} :
    Takes (cxOf (L2.CX P w) P w K mg base N q sc f cdv A outer s H E) (fun cls dx _ H => E cls dx H) := takes_of rfl rfl rfl rfl
theorem pass_cx {P : Program} {w : World} {K : PySem.W.Frag} {mg : Str → Option Value} {base : Heap} {N : List Str} {q : Str} {sc : Scope} {f : Addr} {cdv : Value} {A : Around} {outer : List Env} {s : Shared} {H : Hp} {E : XK} :
    PassesOwn (model P w) (cxOf (L2.CX P w) P w K mg base N q sc f cdv A outer s H E).A (cxOf (L2.CX P w) P w K mg base N q sc f cdv A outer s H E).env (cxOf (L2.CX P w) P w K mg base N q sc f cdv A outer s H E).xe := passes_of rfl
theorem bt_len : bootBuiltins "len" = some (.builtin "len") := by decide +kernel
theorem bt_int : bootBuiltins "int" = some (.type "int") := by decide +kernel
theorem bt_str : bootBuiltins "str" = some (.type "str") := by decide +kernel
theorem bt_bool : bootBuiltins "bool" = some (.type "bool") := by decide +kernel
theorem bt_list : bootBuiltins "list" = some (.type "list") := by decide +kernel
theorem bt_tuple : bootBuiltins "tuple" = some (.type "tuple") := by decide +kernel
theorem bt_dict : bootBuiltins "dict" = some (.type "dict") := by decide +kernel
theorem bt_any : bootBuiltins "any" = some (.builtin "any") := by decide +kernel
theorem bt_all : bootBuiltins "all" = some (.builtin "all") := by decide +kernel
theorem bt_sum : bootBuiltins "sum" = some (.builtin "sum") := by decide +kernel
theorem bt_max : bootBuiltins "max" = some (.builtin "max") := by decide +kernel
end Mi
set_option Elab.async false
set_option linter.all false
set_option maxRecDepth 100000
set_option maxHeartbeats 2000000
namespace Mi
open PySem PySem.Spec PyProof.Rows L2
mutual
def sh : MV → Bool
  | .non | .bl _ | .int _ => true
  | .str x => PyData.strOk x
  | .tup xs => shs xs
  | .lst xs => shs xs
  | _ => false
def shs : List MV → Bool
  | [] => true
  | x :: xs => sh x && shs xs
end
mutual
def dpt : MV → Nat
  | .tup xs => dpts xs + 1
  | .lst xs => dpts xs + 1
  | _ => 0
def dpts : List MV → Nat
  | [] => 0
  | x :: xs => max (dpt x) (dpts xs)
end
mutual
def cn : MV → MV
  | .bl b => .int (if b then 1 else 0)
  | .tup xs => .tup (cns xs)
  | .lst xs => .lst (cns xs)
  | x => x
def cns : List MV → List MV
  | [] => []
  | x :: xs => cn x :: cns xs
end
mutual
def pdO : MV → PyData
  | .non => .none
  | .bl b => .bool b
  | .int i => .int i
  | .str x => .str x
  | .tup xs => .tuple (pdOs xs)
  | .lst xs => .list (pdOs xs)
  | _ => .dict []
def pdOs : List MV → List PyData
  | [] => []
  | x :: xs => pdO x :: pdOs xs
end
mutual
theorem pdF_O (S : Sto) : ∀ (n : Nat) (x : MV), sh x = true → dpt x < n → pdF n S x = pdO x
  | 0, x, _, h => by omega
  | n + 1, .non, _, _ => by simp [pdF, pdO]
  | n + 1, .bl _, _, _ => by simp [pdF, pdO]
  | n + 1, .int _, _, _ => by simp [pdF, pdO]
  | n + 1, .str _, _, _ => by simp [pdF, pdO]
  | n + 1, .tup xs, h, d => by
    rw [pdF, pdO, pdF_Os S n xs (by simpa [sh] using h) (by rw [dpt] at d; omega)]
  | n + 1, .lst xs, h, d => by
    rw [pdF, pdO, pdF_Os S n xs (by simpa [sh] using h) (by rw [dpt] at d; omega)]
  | n + 1, .dct _ _, h, _ => by simp [sh] at h
  | n + 1, .dcT _ _, h, _ => by simp [sh] at h
  | n + 1, .obj _ _ _, h, _ => by simp [sh] at h
  | n + 1, .ref _, h, _ => by simp [sh] at h
  | n + 1, .kls _, h, _ => by simp [sh] at h
  | n + 1, .ptp _, h, _ => by simp [sh] at h
theorem pdF_Os (S : Sto) : ∀ (n : Nat) (xs : List MV), shs xs = true → dpts xs < n → xs.map (pdF n S) = pdOs xs
  | n, [], _, _ => by simp [pdOs]
  | n, x :: xs, h, d => by
    rw [shs, Bool.and_eq_true] at h
    rw [dpts] at d
    rw [List.map_cons, pdOs, pdF_O S n x h.1 (by omega), pdF_Os S n xs h.2 (by omega)]
end
mutual
theorem can_O : ∀ x : MV, sh x = true → (pdO x).canLay0 = true
  | .non, _ => by simp [pdO, PyData.canLay0]
  | .bl _, _ => by simp [pdO, PyData.canLay0]
  | .int _, _ => by simp [pdO, PyData.canLay0]
  | .str _, h => by simpa [pdO, PyData.canLay0, sh] using h
  | .tup xs, h => by rw [pdO, PyData.canLay0]; exact can_Os xs (by simpa [sh] using h)
  | .lst xs, h => by rw [pdO, PyData.canLay0]; exact can_Os xs (by simpa [sh] using h)
  | .dct _ _, h => by simp [sh] at h
  | .dcT _ _, h => by simp [sh] at h
  | .obj _ _ _, h => by simp [sh] at h
  | .ref _, h => by simp [sh] at h
  | .kls _, h => by simp [sh] at h
  | .ptp _, h => by simp [sh] at h
theorem can_Os : ∀ xs : List MV, shs xs = true → PyData.canLayAll0 (pdOs xs) = true
  | [], _ => by simp [pdOs, PyData.canLayAll0]
  | x :: xs, h => by
    rw [shs, Bool.and_eq_true] at h
    rw [pdOs, PyData.canLayAll0, can_O x h.1, can_Os xs h.2]; rfl
end
mutual
theorem dep_O : ∀ x : MV, (pdO x).depth ≤ dpt x ∨ sh x = false
  | .non => .inl (by simp [pdO, PyData.depth])
  | .bl _ => .inl (by simp [pdO, PyData.depth])
  | .int _ => .inl (by simp [pdO, PyData.depth])
  | .str _ => .inl (by simp [pdO, PyData.depth])
  | .tup xs => by
    rcases dep_Os xs with h | h
    · exact .inl (by rw [pdO, PyData.depth, dpt]; omega)
    · exact .inr (by rw [sh]; exact h)
  | .lst xs => by
    rcases dep_Os xs with h | h
    · exact .inl (by rw [pdO, PyData.depth, dpt]; omega)
    · exact .inr (by rw [sh]; exact h)
  | .dct _ _ => .inr (by simp [sh])
  | .dcT _ _ => .inr (by simp [sh])
  | .obj _ _ _ => .inr (by simp [sh])
  | .ref _ => .inr (by simp [sh])
  | .kls _ => .inr (by simp [sh])
  | .ptp _ => .inr (by simp [sh])
theorem dep_Os : ∀ xs : List MV, PyData.depthAll (pdOs xs) ≤ dpts xs ∨ shs xs = false
  | [] => .inl (by simp [pdOs, PyData.depthAll])
  | x :: xs => by
    rcases dep_O x with h | h
    · rcases dep_Os xs with h2 | h2
      · exact .inl (by rw [pdOs, PyData.depthAll, dpts]; omega)
      · exact .inr (by rw [shs, h2]; simp)
    · exact .inr (by rw [shs, h]; simp)
end
theorem dec_and {p q r : Prop} [Decidable p] [Decidable q] [Decidable r] (h : r ↔ p ∧ q) : (decide p && decide q) = decide r := by
  by_cases hp : p <;> by_cases hq : q <;> simp [hp, hq, h]
mutual
theorem eqv_O : ∀ x y : MV, sh x = true → sh y = true → PyData.eqv (pdO x) (pdO y) = decide (cn x = cn y)
  | .non, y, hx, hy => by cases y <;> simp [pdO, PyData.eqv, cn, sh] at hy ⊢
  | .bl a, y, hx, hy => by
    cases y <;> simp [pdO, PyData.eqv, cn, sh] at hy ⊢
    · rename_i b; cases a <;> cases b <;> rfl
    · rw [Bool.beq_eq_decide_eq]
  | .int a, y, hx, hy => by
    cases y <;> simp [pdO, PyData.eqv, cn, sh] at hy ⊢
    all_goals first | rfl | rw [Bool.beq_eq_decide_eq]
  | .str a, y, hx, hy => by
    cases y <;> simp [pdO, PyData.eqv, cn, sh] at hy ⊢
    all_goals first | rfl | rw [Bool.beq_eq_decide_eq]
  | .tup xs, y, hx, hy => by
    cases y with
    | tup ys =>
      rw [pdO, pdO, PyData.eqv, cn, cn, eqv_Os xs ys (by simpa [sh] using hx) (by simpa [sh] using hy)]
      simp
    | _ => simp [pdO, PyData.eqv, cn, sh] at hy ⊢
  | .lst xs, y, hx, hy => by
    cases y with
    | lst ys =>
      rw [pdO, pdO, PyData.eqv, cn, cn, eqv_Os xs ys (by simpa [sh] using hx) (by simpa [sh] using hy)]
      simp
    | _ => simp [pdO, PyData.eqv, cn, sh] at hy ⊢
  | .dct _ _, _, h, _ => by simp [sh] at h
  | .dcT _ _, _, h, _ => by simp [sh] at h
  | .obj _ _ _, _, h, _ => by simp [sh] at h
  | .ref _, _, h, _ => by simp [sh] at h
  | .kls _, _, h, _ => by simp [sh] at h
  | .ptp _, _, h, _ => by simp [sh] at h
theorem eqv_Os : ∀ xs ys : List MV, shs xs = true → shs ys = true → PyData.eqvAll (pdOs xs) (pdOs ys) = decide (cns xs = cns ys)
  | [], [], _, _ => by simp [pdOs, PyData.eqvAll, cns]
  | [], _ :: _, _, _ => by simp [pdOs, PyData.eqvAll, cns]
  | _ :: _, [], _, _ => by simp [pdOs, PyData.eqvAll, cns]
  | x :: xs, y :: ys, hx, hy => by
    rw [shs, Bool.and_eq_true] at hx hy
    rw [pdOs, pdOs, PyData.eqvAll, cns, cns, eqv_O x y hx.1 hy.1, eqv_Os xs ys hx.2 hy.2]
    exact dec_and (by simp)
end
theorem shaped_O {x : MV} (h : sh x = true) (d : dpt x ≤ 7) : SeqAt.shaped (pdO x) = true := by
  unfold SeqAt.shaped
  rw [can_O x h]
  rcases dep_O x with e | e
  · simp; omega
  · rw [h] at e; cases e
/-- a cell that is a list, looked through -/
def deref (S : Sto) : MV → MV
  | .ref n => (match S[n]? with
    | some (.lst xs) => .lst xs
    | _ => .ref n)
  | x => x
theorem pdF_deref (S : Sto) (x : MV) : pdF 8 S x = pdF 8 S (deref S x) := by
  unfold deref
  split
  · split
    · rename_i h
      simp only [pdF, h]
    · rfl
  · rfl
theorem scal_not_ref {x y : MV} (h : scalM x y = true) : (∀ n, x ≠ .ref n) ∧ ∀ n, y ≠ .ref n := by
  cases x <;> cases y <;> simp [scalM, skind] at h ⊢
theorem deref_of {S : Sto} {x : MV} (h : ∀ n, x ≠ .ref n) : deref S x = x := by
  unfold deref
  split
  · rename_i n; exact absurd rfl (h n)
  · rfl
theorem eqB_sh {S : Sto} {x y x' y' : MV} (ex : deref S x = x') (ey : deref S y = y') (hx : sh x' = true) (hy : sh y' = true) (dx : dpt x' ≤ 7) (dy : dpt y' ≤ 7) : eqB S x y = some (decide (cn x' = cn y')) := by
  unfold eqB
  by_cases hs : scalM x y = true
  · rw [if_pos hs]
    obtain ⟨h1, h2⟩ := scal_not_ref hs
    rw [deref_of h1] at ex
    rw [deref_of h2] at ey
    subst ex ey
    congr 1
    cases x <;> cases y <;> simp [scalM, skind] at hs <;> simp [seqM, cn]
    rename_i a b
    cases a <;> cases b <;> simp
  · rw [if_neg hs, pdF_deref S x, pdF_deref S y, ex, ey, pdF_O S 8 x' hx (by omega), pdF_O S 8 y' hy (by omega), shaped_O hx dx, shaped_O hy dy, eqv_O x' y' hx hy]
    rfl
theorem eqM_sh {S : Sto} {x y x' y' : MV} (ex : deref S x = x') (ey : deref S y = y') (hx : sh x' = true) (hy : sh y' = true) (dx : dpt x' ≤ 7) (dy : dpt y' ≤ 7) : eqM x y S = .ok (.bl (decide (cn x' = cn y'))) S := by
  unfold eqM; rw [eqB_sh ex ey hx hy dx dy]
end Mi
set_option Elab.async false
set_option linter.all false
set_option maxRecDepth 100000
set_option maxHeartbeats 2000000
namespace Mi
open PySem PySem.Spec PyProof.Rows L2
/-- a statement, a def that the proof never comes to -/
def mStk : MS := fun _ _ => .stk
theorem ss_stk {X : Cx} {W : WX} {st : Stmt} : SS X W st mStk := ps_never.imp fun D σ H ⟨C, ρ, S, e, s, q⟩ => q.elim
end Mi
set_option Elab.async false
set_option linter.all false
set_option maxRecDepth 100000
set_option maxHeartbeats 4000000
namespace PySem
open Sem (wp)
open AutoSeq1 (wpAny_loadPart')
/-- what iter(v) gives where the heap is hp -/
def IterTo (v it : Value) (hp hp' : Heap) : Prop := ∀ (prog : Program) (w : World) (A : Around) (E : Value → Shared → Prop) (s : Shared) (Q : Value → Shared → Prop), s.heap = hp → Q it { s with heap := hp' } → wpAny (model prog w) A (pyIter v) Q E s
/-- a fresh enumerate over it -/
abbrev enumOb (it : Value) : Obj := { cls := .type "enumerate", data := .fields #[.none, .bool false, it, rawInt 0, .none, .none] }
theorem enum_made {v it : Value} {hp hp' : Heap} (go : IterTo v it hp hp') :
    Meets (Builtin.«enumerate.__new__» ⟨[.type "enumerate", v], []⟩) (fun _ R st => st.heap = hp ∧ R (.ok (.ret (.ref hp'.objs.size))) { st with heap := hp'.push (enumOb it) }) := by
  refine .of_wp fun prog w A R st both => ?_
  obtain ⟨h0, gs, dr, tk, os⟩ := st
  obtain ⟨at0, fin⟩ := both
  have own := sub_enumerate
  have next : ∀ {A' : Around} {E' : Value → Shared → Prop} {Q' : Value → Shared → Prop}, Q' it ⟨hp', gs, dr, tk, os⟩ → wpAny (model prog w) A' (pyIter v) Q' E' ⟨h0, gs, dr, tk, os⟩ := fun q => go prog w _ _ ⟨h0, gs, dr, tk, os⟩ _ at0 q
  wp_walk using next
  refine wpAny_stack_any fun who => wpAny_pure ?_
  split
  · rename_i cl _ _ _ _ _
    rcases (cl == Value.type "enumerate") with _ | _ <;> (wp_walk using next; exact ⟨_, rfl, fin⟩)
  · wp_walk using next; exact ⟨_, rfl, fin⟩
/-- enumerate(v) -/
theorem enum_call {prog : Program} {w : World} {A : Around} {E : Value → Shared → Prop} {s : Shared} {v it : Value} {hp' : Heap} {Q : Value → Shared → Prop} (go : IterTo v it s.heap hp') (q : Q (.ref hp'.objs.size) { s with heap := hp'.push (enumOb it) }) :
    wpAny (model prog w) A (call (.type "enumerate") [v]) Q E s :=
  callType_new F.called_enumerate (by decide) (F.typeCall_enumerate_1 _) (F.newCall_enumerate_1 _) (fun o => F.args_object_init_2 o _) F.entry_enumerate_new (enum_made go) ⟨rfl, ⟨⟨_, Heap.get?_push_size _ rfl, rfl⟩, q⟩⟩
end PySem
namespace Mi
open PySem PySem.Spec PyProof.Rows L2
/-- over a list or a tuple: its own iterator lies ahead of the enumerate's record -/
theorem iterK {s : Shared} {a : Addr} {us : Array Value} {t : Bool} (p : CoK t s.heap a us) : IterTo (.ref a) (.ref s.heap.objs.size) s.heap (s.heap.push (obK t a)) := fun prog w A E s' Q es q => by
  have b := (beginsK a us t).iter prog w A E s' Q (es ▸ p)
  rw [es] at b
  exact b q
section
variable {X : Cx} {W : WX} {tg l e e2 e3 : Expr} {ml : ME} {mas : MA} {p pos tpos : Pos} {elts : List Expr} {kk : Nat}
theorem pi_e {ta : TA} (hg : Gl X "enumerate") (hm : X.mg "enumerate" = none) (ha : PA X [e] ta) (hs : starEach (e :: []) X.env = (false, eval e X.env) :: starEach [] X.env) (hpl : (backTo pos (starEach [] X.env)).any (·.1) = false) :
    PI X (.Tuple elts kk tpos) (.Call (.Name "enumerate" p) [e] [] pos) (fun σ H Rr => ta σ H fun vs H1 => ∃ a t xs, vs = [.ref a] ∧ SqK X.K t H1 a xs ∧ Rr (ItE X.K t a) H1) := by
  refine pi_made hg hm boot_enumerate ha ?_ hs hpl
  rintro pins σ H s us _ Rr inv r ⟨a, t, xs, rfl, sq, q⟩
  cases refs_of (as := [a]) r
  obtain ⟨ua, _, pa, la⟩ := seqK inv sq
  refine enum_call (iterK pa) ?_
  have nf : (obK t a).isFreed = false := by cases t <;> rfl
  have sz : (s.heap.push (obK t a)).objs.size = s.heap.objs.size + 1 := Heap.size_push ..
  have oe : IsEnum ((s.heap.push (obK t a)).push (enumOb (.ref s.heap.objs.size))) (s.heap.push (obK t a)).objs.size s.heap.objs.size 0 .none := Heap.get?_push_size _ rfl
  have oi : ((s.heap.push (obK t a)).push (enumOb (.ref s.heap.objs.size))).get? s.heap.objs.size = some (obK t a) := Heap.get?_push_of_some _ (Heap.get?_push_size _ nf)
  rw [sz] at oe ⊢
  refine wpAny_pyIter_enum oe ⟨_, _, _, _, H, rfl, inv.kept (t' := s.toks) fun b o q => Heap.get?_push_of_some _ (Heap.get?_push_of_some _ q),
    (walk_e (Nat.ne_of_lt la) (Nat.succ_ne_self _) (Nat.ne_of_gt (Nat.lt_succ_of_lt la))).turn, ⟨⟨_, oe⟩, itK_new oi⟩, all_new inv (by simp [Nat.ble_eq]), q⟩
theorem si_enum (hg : Gl X "enumerate") (hm : X.mg "enumerate" = none) (ha : SA X W [e] mas) (hs : starEach (e :: []) X.env = (false, eval e X.env) :: starEach [] X.env := by rfl) (hpl : (backTo pos (starEach [] X.env)).any (·.1) = false := by rfl) :
    SI X W (.Tuple elts kk tpos) (.Call (.Name "enumerate" p) [e] [] pos) (mEnum mas) :=
  (pi_e hg hm ha hs hpl).imp fun σ H Q ⟨C, ρ, S, e, s, q⟩ => by
    subst e
    refine tA.bind s q fun ds S1 C1 vs s1 g1 r1 q1 => ?_
    unfold enmOf at q1
    split at q1
    · split at q1
      · rename_i e1
        obtain ⟨v, rfl, rv⟩ := one_of r1
        obtain ⟨a, vs, rfl, sq, t⟩ := seqK_of s1.rs rv e1
        rw [s1.K] at sq
        exact ⟨a, _, vs, rfl, sq, q1.now s1.rs _ (src_e s1.K rv)⟩
      · exact q1.elim
    · exact q1.elim
theorem se_neg {n : Int} {j : Nat} {p1 p2 : Pos} : SE X W (.UnaryOp .USub (.Constant (.int n) j p1) p2) (mC (.int (-n))) := by
  refine (pe_un (r := rU fun i => .int (-i)) (by first | exact un_neg | exact un_usub | exact unR_neg) pe_int).imp fun σ H Q ⟨C, ρ, S, e, s, q⟩ => ?_
  subst e
  exact ⟨n, rfl, q.now s.rs _ (repI _)⟩
end
end Mi
set_option Elab.async false
set_option linter.all false
set_option maxRecDepth 100000
set_option maxHeartbeats 4000000
namespace Mi
open PySem
/-- the record of an iterator that owns a tuple: what it knows of the tuple, whether it holds it for out, the rest of its fields -/
abbrev OwnRec (h : Heap) (a : Addr) (c : String) (v0 : Value) (f : Bool) (rest : List Value) : Prop :=
  h.get? a = some { cls := .type c, dict := none, data := .fields (v0 :: .bool f :: rest).toArray, slots := #[] }
/-- nothing, or where a tuple once lay -/
def Tells (v : Value) : Prop := v = .none ∨ ∃ T : Addr, v = rawInt T
/-- all but the cells W stands -/
def Stays (W : List Addr) (h h' : Heap) : Prop := ∀ b o, b ∉ W → h.get? b = some o → h'.get? b = some o
theorem Stays.trans {W : List Addr} {h h1 h2 : Heap} (x : Stays W h h1) (y : Stays W h1 h2) : Stays W h h2 := fun b o nb e => y b o nb (x b o nb e)
theorem Stays.of {W : List Addr} {a : Addr} {h h' : Heap} (x : Heap.SameBut a h h') (m : a ∈ W) : Stays W h h' := fun b o nb e => x.extBut b o (fun z => nb (z ▸ m)) e
section
variable {prog : Program} {w : World} {A : Around} {s : Shared} {E : Value → Shared → Prop}
/-- is the owned tuple free? whatever the answer, only the second field may be written -/
theorem own_free {a : Addr} {c : String} {v0 : Value} {f : Bool} {rest : List Value} {Q : Bool → Shared → Prop} (rec : OwnRec s.heap a c v0 f rest) (tells : Tells v0)
    (k : ∀ b f' h', OwnRec h' a c v0 f' rest → Heap.SameBut a s.heap h' → Q b { s with heap := h' }) : wpAny (model prog w) A (Builtin.SmallTypes.ownedTupleIsFree (.ref a)) Q E s := by
  have asis : ∀ b, Q b s := fun b => k b f s.heap rec (Heap.SameBut.refl _ _)
  have look : ∀ {T : Addr} {Q' : Option Obj → Shared → Prop}, Q' (s.heap.get? T) s → wpAny (model prog w) A (loadIfAlive T) Q' E s := fun q _ _ _ => q
  simp only [Builtin.SmallTypes.ownedTupleIsFree]
  refine wpAny_bind (wpAny_field rec rfl (x := v0) rfl ?_)
  obtain rfl | ⟨T, rfl⟩ := tells
  · exact wpAny_pure (asis true)
  · simp only [rawInt, Int.toNat_natCast]
    apply wpAny_bind
    apply look
    rcases s.heap.get? T with _ | oT
    · exact wpAny_pure (asis true)
    · refine wpAny_bind (wpAny_field rec rfl (x := .bool f) rfl ?_)
      cases f
      · exact wpAny_bind (wpAny_setField_rec rec (by simp) fun h' rec' sb => wpAny_pure (k false true h' rec' sb))
      · exact wpAny_pure (asis false)
/-- a new tuple goes out -/
theorem own_out {a T : Addr} {c : String} {v0 : Value} {f : Bool} {rest : List Value} {Q : Unit → Shared → Prop} (ir : OwnRec s.heap a c v0 f rest) (k : ∀ h', OwnRec h' a c (rawInt T) false rest → Heap.SameBut a s.heap h' → Q () { s with heap := h' }) :
    wpAny (model prog w) A (Builtin.SmallTypes.ownedTupleHandOut (.ref a) (.ref T)) Q E s :=
  wpAny_bind (wpAny_setField_rec ir (by simp) fun _ ir1 sb1 => wpAny_setField_rec ir1 (by simp) fun h2 ir2 sb2 => k h2 ir2 ⟨sb2.1.trans sb1.1, fun b nb => (sb2.2 b nb).trans (sb1.2 b nb)⟩)
end
section
variable {prog : Program} {w : World} {A : Around} {E : Value → Shared → Prop} {s : Shared} {z TI TO i1 i2 : Addr} {fp1 fp2 : List Addr} {n1 n2 i : Nat} {P1 P2 : Nat → Value → Prop} {St1 St2 : Nat → Heap → Prop} {v0 : Value} {f : Bool}
/-- a zip over two sources, whatever has become of its tuple -/
structure ZipAt (h : Heap) (z TI TO i1 i2 : Addr) : Prop where
  it : ∃ v0 f, Tells v0 ∧ OwnRec h z "zip" v0 f [.bool false, .ref TI, .ref TO]
  src : IsTupOf2 h TI (.ref i1) (.ref i2)
  own : ∃ a b, IsTupOf2 h TO a b
theorem zip_more {Q : Value → Shared → Prop} (S : ZipSep2 z TI TO i1 i2 fp1 fp2) (D1 : Draws prog w A i1 fp1 n1 P1 St1) (D2 : Draws prog w A i2 fp2 n2 P2 St2) (at0 : ZipAt s.heap z TI TO i1 i2) (st1 : St1 i s.heap) (st2 : St2 i s.heap) (lt1 : i < n1) (lt2 : i < n2)
    (k : ∀ x y h' tk, P1 i x → P2 i y → ZipAt h' z TI TO i1 i2 → St1 (i + 1) h' → St2 (i + 1) h' → IsTupOf2 h' s.heap.objs.size x y → s.heap.objs.size < h'.objs.size → Stays [z, TO, i1, i2] s.heap h' → Q (.ref s.heap.objs.size) { s with heap := h', toks := tk }) :
    wpAny (model prog w) A (Builtin.«zip.__next__» ⟨[.ref z], []⟩) (fun r s' => ∃ v, r = .done (.ret v) ∧ Q v s') E s := by
  obtain ⟨⟨v0, f, tells, ir⟩, src, a, b, own⟩ := at0
  obtain ⟨hp, gs, dr, tk0, os⟩ := s
  dsimp only at k st1 st2 src ir own
  have free := fun {Q'} => own_free (prog := prog) (w := w) (A := A) (E := E) (s := ⟨hp, gs, dr, tk0, os⟩) (Q := Q') ir tells
  wp_walk using free
  rintro (_ | _) f' h0 ir0 sb0
  · simp only [← Array.forIn_toList, List.forIn_cons, List.forIn_nil, Bool.false_eq_true, if_false]
    have d1 := fun {Q'} {E'} => D1.item i ⟨h0, gs, dr, tk0, os⟩ Q' E' lt1 (D1.over st1 sb0 S.zf1)
    wp_walk using d1
    intro x h1 tk1 px go1 sb1
    dsimp only
    have d2 := fun {Q'} {E'} => D2.item i ⟨h1, gs, dr, tk1, os⟩ Q' E' lt2 (D2.over (D2.over st2 sb0 S.zf2) sb1 S.sep1_2)
    wp_walk using d2
    intro y h2 tk2 py go2 sb2
    dsimp only
    wp_walk
    have sz : h2.objs.size = hp.objs.size := sb2.1.trans (sb1.1.trans sb0.1)
    have far : Stays [z, TO, i1, i2] hp h2 := ((Stays.of sb0 (by simp)).trans (Stays.of sb1 (by simp))).trans (Stays.of sb2 (by simp))
    have ir2 : OwnRec h2 z "zip" v0 f' [.bool false, .ref TI, .ref TO] := sb2.extBut _ _ S.zi2 (sb1.extBut _ _ S.zi1 ir0)
    have own2 : IsTupOf2 h2 TO a b := sb2.extBut _ _ S.Ti2 (sb1.extBut _ _ S.Ti1 (sb0.extBut _ _ S.TOz own))
    have src2 : IsTupOf2 h2 TI (.ref i1) (.ref i2) := far _ _ (by simp [S.TIz, S.TITO, S.TIi1, S.TIi2]) src
    have up : ∀ {b o p}, h2.get? b = some o → (h2.push p).get? b = some o := Heap.get?_push_of_some _
    have last : IsTupOf2 (h2.push { cls := .type "tuple", data := .seq #[x, y] }) h2.objs.size x y := Heap.get?_push_size _ rfl
    refine ⟨_, rfl, ?_⟩
    rw [sz] at last ⊢
    exact k x y _ tk2 px py ⟨⟨v0, f', tells, up ir2⟩, up src2, a, b, up own2⟩ (D1.frame _ _ _ (D1.over go1 sb2 S.sep2_1) fun _ _ _ => up) (D2.frame _ _ _ go2 fun _ _ _ => up) last
      (by rw [Heap.size_push, sz]; exact Nat.lt_succ_self _) (far.trans fun _ _ _ => up)
  · simp only [if_true, List.zipIdx_cons, List.zipIdx_nil, List.forIn_cons, List.forIn_nil]
    have mark := fun {Q'} {E'} => wpAny_setField_rec (prog := prog) (w := w) (A := A) (E := E') (s := ⟨h0, gs, dr, tk0, os⟩) (k := 0) (x := .ellipsis) (Q := Q') ir0 (by simp)
    wp_walk using mark
    intro h1 ir1 sb1
    dsimp only at ir1 sb1 ⊢
    have d1 := fun {Q'} {E'} => D1.item i ⟨h1, gs, dr, tk0, os⟩ Q' E' lt1 (D1.over (D1.over st1 sb0 S.zf1) sb1 S.zf1)
    wp_walk using wpAny_onRaise, d1
    intro x h2 tk1 px go1 sb2
    dsimp only at sb2 ⊢
    have own2 : IsTupOf2 h2 TO a b := sb2.extBut _ _ S.Ti1 (sb1.extBut _ _ S.TOz (sb0.extBut _ _ S.TOz own))
    have put1 := fun {Q'} {E'} => updateSeq_IsTupOf2 (prog := prog) (w := w) (A := A) (E := E') (s := ⟨h2, gs, dr, tk1, os⟩) (x := x) (k := 0) (Q := Q') own2
    wp_walk using put1
    intro h3 own3 sb3
    replace own3 : IsTupOf2 h3 TO x b := own3
    dsimp only at sb3 ⊢
    have d2 := fun {Q'} {E'} => D2.item i ⟨h3, gs, dr, tk1, os⟩ Q' E' lt2 (D2.over (D2.over (D2.over (D2.over st2 sb0 S.zf2) sb1 S.zf2) sb2 S.sep1_2) sb3 S.Tf2)
    wp_walk using wpAny_onRaise, d2
    intro y h4 tk2 py go2 sb4
    dsimp only at sb4 ⊢
    have own4 : IsTupOf2 h4 TO x b := sb4.extBut _ _ S.Ti2 own3
    have put2 := fun {Q'} {E'} => updateSeq_IsTupOf2 (prog := prog) (w := w) (A := A) (E := E') (s := ⟨h4, gs, dr, tk2, os⟩) (x := y) (k := 0 + 1) (Q := Q') own4
    wp_walk using put2
    intro h5 own5 sb5
    replace own5 : IsTupOf2 h5 TO x y := own5
    dsimp only at sb5 ⊢
    have far : Stays [z, TO, i1, i2] hp h5 := ((((((Stays.of sb0 (by simp)).trans (Stays.of sb1 (by simp))).trans (Stays.of sb2 (by simp)))).trans (Stays.of sb3 (by simp))).trans (Stays.of sb4 (by simp))).trans (Stays.of sb5 (by simp))
    have sz : h5.objs.size = hp.objs.size := sb5.1.trans (sb4.1.trans (sb3.1.trans (sb2.1.trans (sb1.1.trans sb0.1))))
    have ir5 : OwnRec h5 z "zip" .ellipsis f' [.bool false, .ref TI, .ref TO] := sb5.extBut _ _ S.TOz.symm (sb4.extBut _ _ S.zi2 (sb3.extBut _ _ S.TOz.symm (sb2.extBut _ _ S.zi1 ir1)))
    have src5 : IsTupOf2 h5 TI (.ref i1) (.ref i2) := far _ _ (by simp [S.TIz, S.TITO, S.TIi1, S.TIi2]) src
    have up : ∀ {b o p}, h5.get? b = some o → (h5.push p).get? b = some o := Heap.get?_push_of_some _
    have give := fun {Q'} {E'} => own_out (prog := prog) (w := w) (A := A) (E := E') (s := ⟨h5.push { cls := .type "tuple", data := .seq #[x, y] }, gs, dr, tk2, os⟩) (T := h5.objs.size) (Q := Q') (up ir5)
    wp_walk using give
    intro h6 ir6 sb6
    dsimp only at sb6
    have z0 : z < h5.objs.size := Heap.lt_size ir5
    have six : ∀ {c o}, c ≠ z → h5.get? c = some o → h6.get? c = some o := fun n e => sb6.extBut _ _ n (up e)
    have far6 : Stays [z, TO, i1, i2] h5 h6 := fun c o n e => six (fun q => n (by simp [q])) e
    have last : IsTupOf2 h6 h5.objs.size x y := sb6.extBut _ _ (Nat.ne_of_gt z0) (Heap.get?_push_size _ rfl)
    apply wpAny_pure; refine ⟨_, rfl, ?_⟩
    have more : hp.objs.size < h6.objs.size := by rw [sb6.1, Heap.size_push, sz]; exact Nat.lt_succ_self _
    rw [sz] at last ⊢
    exact k x y h6 tk2 px py ⟨⟨_, _, .inr ⟨_, rfl⟩, ir6⟩, six S.TIz src5, x, y, six S.TOz own5⟩
      (D1.over (D1.frame _ _ _ (D1.over (D1.over (D1.over go1 sb3 S.Tf1) sb4 S.sep2_1) sb5 S.Tf1) fun _ _ _ => up) sb6 S.zf1) (D2.over (D2.frame _ _ _ (D2.over go2 sb5 S.Tf2) fun _ _ _ => up) sb6 S.zf2) last more (far.trans far6)
theorem Stays.ofE {W : List Addr} {a : Addr} {h h' : Heap} (x : Heap.ExtBut a h h') (m : a ∈ W) : Stays W h h' := fun b o nb e => x b o (fun z => nb (z ▸ m)) e
/-- the zip ends: the first or the second source has no more -/
theorem zip_last {Q : Fin → Shared → Prop} (S : ZipSep2 z TI TO i1 i2 fp1 fp2) (D1 : Draws prog w A i1 fp1 n1 P1 St1) (D2 : Draws prog w A i2 fp2 n2 P2 St2) (at0 : ZipAt s.heap z TI TO i1 i2) (st1 : St1 i s.heap) (st2 : St2 i s.heap) (over : i = n1 ∨ i < n1 ∧ i = n2)
    (k : ∀ h' tk x, Stays [z, TO, i1, i2] s.heap h' → (∃ o, h'.get? x = some o ∧ o.cls = .type "StopIteration") → E (.ref x) { s with heap := h', toks := tk }) :
    wpAny (model prog w) A (Builtin.«zip.__next__» { pos := [.ref z], kw := [] }) Q E s := by
  obtain ⟨⟨v0, f, tells, ir⟩, src, a, b, own⟩ := at0
  obtain ⟨hp, gs, dr, tk0, os⟩ := s
  dsimp only at k st1 st2 src ir own
  have free := fun {Q'} => own_free (prog := prog) (w := w) (A := A) (E := E) (s := ⟨hp, gs, dr, tk0, os⟩) (Q := Q') ir tells
  wp_walk using free
  rintro (_ | _) f' h0 ir0 sb0
  · simp only [← Array.forIn_toList, List.forIn_cons, List.forIn_nil, Bool.false_eq_true, if_false]
    obtain e1 | ⟨lt1, e2⟩ := over
    · have d1 := fun {Q'} {E'} => D1.done ⟨h0, gs, dr, tk0, os⟩ Q' E' (e1 ▸ D1.over st1 sb0 S.zf1)
      wp_walk using d1
      exact fun h1 x eb stop => k h1 tk0 x ((Stays.of sb0 (by simp)).trans (Stays.ofE eb (by simp))) stop
    · have d1 := fun {Q'} {E'} => D1.item i ⟨h0, gs, dr, tk0, os⟩ Q' E' lt1 (D1.over st1 sb0 S.zf1)
      wp_walk using d1
      intro x h1 tk1 px go1 sb1
      dsimp only at sb1 ⊢
      have d2 := fun {Q'} {E'} => D2.done ⟨h1, gs, dr, tk1, os⟩ Q' E' (e2 ▸ D2.over (D2.over st2 sb0 S.zf2) sb1 S.sep1_2)
      wp_walk using d2
      exact fun h2 x eb stop => k h2 tk1 x (((Stays.of sb0 (by simp)).trans (Stays.of sb1 (by simp))).trans (Stays.ofE eb (by simp))) stop
  · simp only [if_true, List.zipIdx_cons, List.zipIdx_nil, List.forIn_cons, List.forIn_nil]
    have mark := fun {Q'} {E'} => wpAny_setField_rec (prog := prog) (w := w) (A := A) (E := E') (s := ⟨h0, gs, dr, tk0, os⟩) (k := 0) (x := .ellipsis) (Q := Q') ir0 (by simp)
    wp_walk using mark
    intro h1 ir1 sb1
    dsimp only at ir1 sb1 ⊢
    have upto : Stays [z, TO, i1, i2] hp h1 := (Stays.of sb0 (by simp)).trans (Stays.of sb1 (by simp))
    /- what is done when a source stops -/
    have clean : ∀ {hq hr : Heap} {tk : Tok} {j x : Addr}, Stays [z, TO, i1, i2] hp hq → Heap.ExtBut j hq hr → j ∈ [z, TO, i1, i2] → OwnRec hr z "zip" .ellipsis f' [.bool false, .ref TI, .ref TO] → (∃ o, hr.get? x = some o ∧ o.cls = .type "StopIteration") →
        wpAny (model prog w) A (setField (.ref z) 0 .none) (fun _ s' => E (.ref x) s') E ⟨hr, gs, dr, tk, os⟩ := fun {hq hr tk j x} st eb m irq ⟨o, ox, oc⟩ =>
      wpAny_setField_rec irq (by simp) fun hs _ sbs => k hs tk x ((st.trans (Stays.ofE eb m)).trans (Stays.of sbs (by simp))) ⟨o, sbs.extBut _ _ (fun e => by
        have same := ox.symm.trans (e ▸ irq)
        cases same; simp at oc) ox, oc⟩
    obtain e1 | ⟨lt1, e2⟩ := over
    · have d1 := fun {Q'} {E'} => D1.done ⟨h1, gs, dr, tk0, os⟩ Q' E' (e1 ▸ D1.over (D1.over st1 sb0 S.zf1) sb1 S.zf1)
      wp_walk using wpAny_onRaise, d1
      exact fun h2 x eb stop => clean upto eb (by simp) (eb _ _ S.zi1 ir1) stop
    · have d1 := fun {Q'} {E'} => D1.item i ⟨h1, gs, dr, tk0, os⟩ Q' E' lt1 (D1.over (D1.over st1 sb0 S.zf1) sb1 S.zf1)
      wp_walk using wpAny_onRaise, d1
      intro x h2 tk1 px go1 sb2
      dsimp only at sb2 ⊢
      have own2 : IsTupOf2 h2 TO a b := sb2.extBut _ _ S.Ti1 (sb1.extBut _ _ S.TOz (sb0.extBut _ _ S.TOz own))
      have put1 := fun {Q'} {E'} => updateSeq_IsTupOf2 (prog := prog) (w := w) (A := A) (E := E') (s := ⟨h2, gs, dr, tk1, os⟩) (x := x) (k := 0) (Q := Q') own2
      wp_walk using put1
      intro h3 own3 sb3
      dsimp only at sb3 ⊢
      have d2 := fun {Q'} {E'} => D2.done ⟨h3, gs, dr, tk1, os⟩ Q' E' (e2 ▸ D2.over (D2.over (D2.over (D2.over st2 sb0 S.zf2) sb1 S.zf2) sb2 S.sep1_2) sb3 S.Tf2)
      wp_walk using wpAny_onRaise, d2
      exact fun h4 x eb stop => clean ((upto.trans (Stays.of sb2 (by simp))).trans (Stays.of sb3 (by simp))) eb (by simp) (eb _ _ S.zi2 (sb3.extBut _ _ S.TOz.symm (sb2.extBut _ _ S.zi1 ir1))) stop
end
end Mi
set_option Elab.async false
set_option linter.all false
set_option maxRecDepth 100000
set_option maxHeartbeats 4000000
namespace Mi
open PySem
section
variable {prog : Program} {w : World} {A : Around} {s : Shared} {E : Value → Shared → Prop}
/-- an enumerate, whatever has become of its tuple -/
def EnumAt (h : Heap) (e it : Addr) (i : Int) : Prop := ∃ v0 f old, Tells v0 ∧ OwnRec h e "enumerate" v0 f [.ref it, rawInt i, .none, old]
theorem EnumAt.kept {h h' : Heap} {e it : Addr} {i : Int} (x : EnumAt h e it i) (k : ∀ o, h.get? e = some o → h'.get? e = some o) : EnumAt h' e it i := x.imp fun _ y => y.imp fun _ z => z.imp fun _ q => ⟨q.1, k _ q.2⟩
theorem EnumAt.obj {h : Heap} {e it : Addr} {i : Int} : EnumAt h e it i → ∃ o, h.get? e = some o ∧ (o.cls = .type "enumerate" ∧ ∀ v, o.data ≠ .cell v)
  | ⟨_, _, _, _, q⟩ => ⟨_, q, rfl, nofun⟩
/-- enumerate's turn over whatever gives the items -/
theorem enum_more {e it : Addr} {i : Int} {G : Value → Heap → Prop} {Q : Value → Shared → Prop} (at0 : EnumAt s.heap e it i)
    (inner : ∀ {Q' E' : Value → Shared → Prop}, (∀ x h1 tk, G x h1 → (∀ o, s.heap.get? e = some o → h1.get? e = some o) → Q' x { s with heap := h1, toks := tk }) → wpAny (model prog w) A (Builtin.SmallTypes.nextOf (.ref it)) Q' E' s)
    (k : ∀ x h1 h' tk, G x h1 → EnumAt h' e it (i + 1) → IsTupOf2 h' h1.objs.size (.int i tk) x → h1.objs.size < h'.objs.size → Stays [e] h1 h' → Q (.ref h1.objs.size) { s with heap := h', toks := tk + 1 }) :
    wpAny (model prog w) A (Builtin.«enumerate.__next__» ⟨[.ref e], []⟩) (fun r s' => ∃ v, r = .done (.ret v) ∧ Q v s') E s := by
  obtain ⟨v0, f, old, tells, er⟩ := at0
  obtain ⟨hp, gs, dr, tk0, os⟩ := s
  dsimp only at k inner er
  refine wpAny_bind (wpAny_pure (wpAny_bind (wpAny_field er rfl (x := .ref it) rfl (wpAny_bind (inner fun x h1 tk g ke => ?_)))))
  dsimp only
  have er1 := ke _ er
  have set1 := fun {Q'} {E'} => wpAny_setField_rec (prog := prog) (w := w) (A := A) (E := E') (s := ⟨h1, gs, dr, tk + 1, os⟩) (k := 3) (x := rawInt (i + 1)) (Q := Q') er1 (by simp)
  wp_walk using set1
  intro h2 er2 sb2
  dsimp only at sb2 er2 ⊢
  have set2 := fun {Q'} {E'} => wpAny_setField_rec (prog := prog) (w := w) (A := A) (E := E') (s := ⟨h2, gs, dr, tk + 1, os⟩) (k := 4) (x := .none) (Q := Q') er2 (by simp)
  wp_walk using set2
  intro h3 er3 sb3
  dsimp only at sb3 er3 ⊢
  have sz3 : h3.objs.size = h1.objs.size := sb3.1.trans sb2.1
  have el : e < h1.objs.size := Heap.lt_size er1
  have up : ∀ {b o p}, h3.get? b = some o → (h3.push p).get? b = some o := Heap.get?_push_of_some _
  have free := fun {Q'} {E'} => own_free (prog := prog) (w := w) (A := A) (E := E') (s := ⟨h3.push { cls := .type "tuple", data := .seq #[.int i tk, x] }, gs, dr, tk + 1, os⟩) (Q := Q') (up (show OwnRec h3 e "enumerate" v0 f [.ref it, rawInt (i + 1), .none, old] from er3)) tells
  wp_walk using free
  have far : ∀ {h' : Heap}, Stays [e] (h3.push { cls := .type "tuple", data := .seq #[.int i tk, x] }) h' → Stays [e] h1 h' := fun st => ((Stays.of sb2 (by simp)).trans (Stays.of sb3 (by simp))).trans fun b o nb q => st b o nb (up q)
  have new : IsTupOf2 (h3.push { cls := .type "tuple", data := .seq #[.int i tk, x] }) h1.objs.size (.int i tk) x := by rw [← sz3]; exact Heap.get?_push_size _ rfl
  have grown : ∀ {h' : Heap}, h'.objs.size = (h3.push { cls := .type "tuple", data := .seq #[.int i tk, x] }).objs.size → h1.objs.size < h'.objs.size := fun q => by rw [q, Heap.size_push, sz3]; exact Nat.lt_succ_self _
  rintro (_ | _) f' h4 er4 sb4
  · wp_walk
    refine ⟨_, rfl, ?_⟩
    rw [sz3]
    exact k x h1 h4 tk g ⟨v0, f', old, tells, er4⟩ (sb4.extBut _ _ (Nat.ne_of_gt el) new) (grown sb4.1) (far (Stays.of sb4 (by simp)))
  · have set5 := fun {Q'} {E'} => wpAny_setField_rec (prog := prog) (w := w) (A := A) (E := E') (s := ⟨h4, gs, dr, tk + 1, os⟩) (k := 5) (x := x) (Q := Q') er4 (by simp)
    wp_walk using set5
    intro h5 er5 sb5
    dsimp only at sb5 er5 ⊢
    have give := fun {Q'} {E'} => own_out (prog := prog) (w := w) (A := A) (E := E') (s := ⟨h5, gs, dr, tk + 1, os⟩) (T := h3.objs.size) (Q := Q') (show OwnRec h5 e "enumerate" v0 f' [.ref it, rawInt (i + 1), .none, x] from er5)
    wp_walk using give
    intro h6 er6 sb6
    dsimp only at sb6 er6 ⊢
    wp_walk
    refine ⟨_, rfl, ?_⟩
    rw [sz3]
    exact k x h1 h6 tk g ⟨_, _, x, .inr ⟨_, rfl⟩, er6⟩ (sb6.extBut _ _ (Nat.ne_of_gt el) (sb5.extBut _ _ (Nat.ne_of_gt el) (sb4.extBut _ _ (Nat.ne_of_gt el) new))) (grown (sb6.1.trans (sb5.1.trans sb4.1))) (far (((Stays.of sb4 (by simp)).trans (Stays.of sb5 (by simp))).trans (Stays.of sb6 (by simp))))
theorem enum_last {e it : Addr} {i : Int} {Q : PySem.Fin → Shared → Prop} (at0 : EnumAt s.heap e it i) (inner : ∀ {Q' : Value → Shared → Prop}, wpAny (model prog w) A (Builtin.SmallTypes.nextOf (.ref it)) Q' E s) :
    wpAny (model prog w) A (Builtin.«enumerate.__next__» { pos := [.ref e], kw := [] }) Q E s := by
  obtain ⟨_, _, _, _, er⟩ := at0
  exact wpAny_bind (wpAny_pure (wpAny_bind (wpAny_field er rfl (x := .ref it) rfl (wpAny_bind inner))))
/-- the step ahead of the store: at most the owned tuple is forgotten -/
theorem enum_letgo {e it T : Addr} {i : Int} {elts : List Expr} {kk : Nat} {pos : Pos} {Q : Unit → Shared → Prop} (at0 : EnumAt s.heap e it i) (k : ∀ h', EnumAt h' e it i → Heap.SameBut e s.heap h' → Q () { s with heap := h' }) :
    wpAny (model prog w) A (letOwnedTupleGo (.Tuple elts kk pos) (.ref e) (.ref T)) Q E s := by
  obtain ⟨v0, f, old, tells, er⟩ := at0
  simp only [letOwnedTupleGo]
  refine wpAny_bind (wpAny_load er ?_)
  dsimp only
  refine wpAny_ite ?_
  split
  · refine wpAny_bind (wpAny_rule (show wpAny _ _ (setField (.ref e) 0 .none) Q E s from ?_))
    exact wpAny_setField_rec er (by simp) fun h' er' sb => k h' ⟨.none, f, old, .inl rfl, er'⟩ sb
  · exact wpAny_pure (k s.heap ⟨v0, f, old, tells, er⟩ (Heap.SameBut.refl _ _))
/-- next by its slot: an item, or a StopIteration -/
theorem next_by {T id : String} {b : Builtin} {a : Addr} {Q : Option Value → Shared → Prop} (ty : s.TypeIs (.ref a) T) (sl : Slot T "__next__" id) (en : entryFor table id = some b) (ar : argsOk id ⟨[.ref a], []⟩)
    (h : wpAny (model prog w) A.in1 (b ⟨[.ref a], []⟩) (fun r s' => ∃ v, r = .done (.ret v) ∧ Q (some v) s') (fun x s' => (∃ p o, x = .ref p ∧ s'.heap.get? p = some o ∧ o.cls = .type "StopIteration") ∧ Q none s') s) :
    wpAny (model prog w) A (pyNext (Value.ref a)) Q E s := by
  simp only [pyNext]
  refine wpAny_bind (wpAny_attempt (wpAny_callSpecial?_slot ty sl (wpAny_mono (wpAny_call_entry sl ty en h ar) (fun v s' q => wpAny_pure q) ?_)))
  rintro _ s' ⟨⟨p, o, rfl, ho, hc⟩, q⟩
  exact wpAny_bind (wpAny_isInstance ⟨o, ho, hc⟩ isSubtype_stop (wpAny_pure q))
theorem nextOf_by {T id : String} {b : Builtin} {a : Addr} {Q : Value → Shared → Prop} (ty : s.TypeIs (.ref a) T) (sl : Slot T "__next__" id) (en : entryFor table id = some b) (ar : argsOk id ⟨[.ref a], []⟩)
    (h : wpAny (model prog w) A.in1 (b ⟨[.ref a], []⟩) (fun r s' => ∃ v, r = .done (.ret v) ∧ Q v s') E s) : wpAny (model prog w) A (Builtin.SmallTypes.nextOf (.ref a)) Q E s :=
  wpAny_bind (wpAny_callSpecial?_slot ty sl (wpAny_mono (wpAny_call_entry sl ty en h ar) (fun _ _ q => wpAny_pure q) fun _ _ q => q))
theorem enum_self {e it : Addr} {i : Int} {Q : Value → Shared → Prop} (at0 : EnumAt s.heap e it i) (q : Q (.ref e) s) : wpAny (model prog w) A (pyIter (.ref e)) Q E s := by
  obtain ⟨o, ho, hc, _⟩ := at0.obj
  have ty : s.TypeIs (.ref e) "enumerate" := ⟨o, ho, hc⟩
  exact wpAny_pyIter_slot ty F.slot_enumerate_iter (wpAny_call_entry F.slot_enumerate_iter ty F.entry_enumerate_iter (wpAny_bind (wpAny_pure (wpAny_pure ⟨_, rfl, _, _, ty, F.slot_enumerate_next.lookup, q⟩))) (F.args_enumerate_iter_1 _))
end
open PySem.Spec PyProof.Rows L2
def ItEz (K : PySem.W.Frag) (t1 t2 : Bool) (a b : Addr) : It :=
  ⟨fun i H => ∃ (xs ys : List V) (x y : V), SqK K t1 H a xs ∧ SqK K t2 H b ys ∧ xs[i]? = some x ∧ ys[i]? = some y,
    fun i H v H' => ∃ T U x y, v = .ref U ∧ H T = none ∧ H U = none ∧ T ≠ U ∧ H' = upd (upd H T (.tup [x, y])) U (.tup [.int (i : Nat), .ref T]) ∧ (∀ xs, SqK K t1 H a xs → xs[i]? = some x) ∧ ∀ ys, SqK K t2 H b ys → ys[i]? = some y,
    fun i H => ∃ xs ys : List V, SqK K t1 H a xs ∧ SqK K t2 H b ys ∧ i ≤ xs.length ∧ i ≤ ys.length ∧ (i = xs.length ∨ i = ys.length)⟩
/-- the enumerate's cell lies apart -/
def Apart (e : Addr) (W : List Addr) : Prop := ∀ b ∈ W, b ≠ e
def EzAt (t1 t2 : Bool) (a b e z TI TO i1 i2 : Addr) (i : Nat) (h : Heap) : Prop := EnumAt h e z (i : Nat) ∧ ZipAt h z TI TO i1 i2 ∧ ItK t1 h i1 a i ∧ ItK t2 h i2 b i
theorem ZipAt.kept {h h' : Heap} {z TI TO i1 i2 : Addr} (x : ZipAt h z TI TO i1 i2) (k : ∀ b ∈ [z, TI, TO], ∀ o, h.get? b = some o → h'.get? b = some o) : ZipAt h' z TI TO i1 i2 := by
  simp only [List.mem_cons, List.not_mem_nil, or_false, forall_eq_or_imp, forall_eq] at k
  obtain ⟨⟨v0, f, tl, ir⟩, src, p, q, own⟩ := x
  exact ⟨⟨v0, f, tl, k.1 _ ir⟩, k.2.1 _ src, p, q, k.2.2 _ own⟩
section
variable {P : Program} {w : World} {K : PySem.W.Frag} {elts : List Expr} {kk : Nat} {tpos : Pos} {t1 t2 : Bool} {a b e z TI TO i1 i2 : Addr}
theorem EzAt.cells {i : Nat} {h : Heap} (x : EzAt t1 t2 a b e z TI TO i1 i2 i h) : ∀ d ∈ [e, z, TI, TO, i1, i2], ∃ o, h.get? d = some o ∧ ∀ v, o.data ≠ .cell v := by
  obtain ⟨en, ⟨⟨_, _, _, ir⟩, src, _, _, own⟩, o1, o2⟩ := x
  intro d hd
  simp only [List.mem_cons, List.not_mem_nil, or_false] at hd
  rcases hd with rfl | rfl | rfl | rfl | rfl | rfl
  · exact en.obj.imp fun _ q => ⟨q.1, q.2.2⟩
  · exact ⟨_, ir, nofun⟩
  · exact ⟨_, src, nofun⟩
  · exact ⟨_, own, nofun⟩
  · exact itK_obj o1
  · exact itK_obj o2
theorem EzAt.stay {i : Nat} {h h' : Heap} (x : EzAt t1 t2 a b e z TI TO i1 i2 i h) (k : ∀ d ∈ [e, z, TI, TO, i1, i2], ∀ o, h.get? d = some o → h'.get? d = some o) : EzAt t1 t2 a b e z TI TO i1 i2 i h' :=
  ⟨x.1.kept (k e (by simp)), x.2.1.kept fun d m => k d (by simp only [List.mem_cons, List.not_mem_nil, or_false] at m ⊢; rcases m with m | m | m <;> simp [m]), itK_at x.2.2.1 (k i1 (by simp)), itK_at x.2.2.2 (k i2 (by simp))⟩
theorem ez_item (D : ZipSep2 z TI TO i1 i2 [i1, a] [i2, b]) (ap : Apart e [z, TI, TO, i1, i2]) (na : a ≠ i1) (nb : b ≠ i2) {X : Cx} {pins : List (Addr × Obj)} {s : Shared} {σ : L2.St} {H : Hp} {E : Value → Shared → Prop} {i : Nat} (hh : X.A.in1.handled = none)
    (inv : Inv X pins σ H s) (fresh : ∀ d ∈ [e, z, TI, TO, i1, i2], FpOk X pins H d) (now : EzAt t1 t2 a b e z TI TO i1 i2 i s.heap) (go : (ItEz X.K t1 t2 a b).go i H) :
    wpAny (model X.prog X.w) X.A (pyNext (.ref e)) (fun r s1 => ∃ u, r = some u ∧ wpAny (model X.prog X.w) X.A (letOwnedTupleGo (.Tuple elts kk tpos) (.ref e) u) (fun _ s2 => ∃ x H', Inv X pins σ H' s2 ∧ RelV x u ∧ (ItEz X.K t1 t2 a b).yld i H x H' ∧
      EzAt t1 t2 a b e z TI TO i1 i2 (i + 1) s2.heap ∧ ∀ d ∈ [e, z, TI, TO, i1, i2], H' d = none) E s1) E s := by
  have small : ∀ d ∈ [e, z, TI, TO, i1, i2], d < s.heap.objs.size := fun d m => (now.cells d m).elim fun o q => Heap.lt_size q.1
  have fresh2 : ∀ d ∈ [e, z, TI, TO, i1, i2], FpOk X pins H d ∧ d < s.heap.objs.size := fun d m => ⟨fresh d m, small d m⟩
  obtain ⟨en, za, o1, o2⟩ := now
  obtain ⟨xs, ys, x, y, qx, qy, ex, ey⟩ := go
  obtain ⟨us, ru, pu, _⟩ := seqK inv qx
  obtain ⟨vs, rv, pv, _⟩ := seqK inv qy
  obtain ⟨oe, he, ce, _⟩ := en.obj
  obtain ⟨_, _, _, zr⟩ := za.it
  have ne := fun c m => ap c m
  simp only [List.mem_cons, List.not_mem_nil, or_false, forall_eq_or_imp, forall_eq] at ne
  refine next_by ⟨oe, he, ce⟩ F.slot_enumerate_next F.entry_enumerate_next (F.args_enumerate_next_1 _)
    (enum_more (G := fun v h1 => v = .ref s.heap.objs.size ∧ ∃ u u', us.toArray[i]? = some u ∧ vs.toArray[i]? = some u' ∧ ZipAt h1 z TI TO i1 i2 ∧ ItK t1 h1 i1 a (i + 1) ∧ ItK t2 h1 i2 b (i + 1) ∧ IsTupOf2 h1 s.heap.objs.size u u' ∧ s.heap.objs.size < h1.objs.size ∧ Stays [z, TO, i1, i2] s.heap h1)
      en (fun {Q' E'} cont => nextOf_by (b := Builtin.«zip.__next__») ⟨_, zr, rfl⟩ F.slot_zip_next F.entry_zip_next (F.args_zip_next_1 _)
        (zip_more D (drawsK (prog := X.prog) (w := X.w) (A := X.A.in1.in1) hh i1 a na t1 us.toArray) (drawsK (prog := X.prog) (w := X.w) (A := X.A.in1.in1) hh i2 b nb t2 vs.toArray) za ⟨o1, pu⟩ ⟨o2, pv⟩ (lenT ru ex) (lenT rv ey)
          fun u u' h1 tk eu eu' za1 p1 p2 tup big st => cont _ h1 tk ⟨rfl, u, u', eu, eu', za1, p1.1, p2.1, tup, big, st⟩ fun o q => st e o (by simp [Ne.symm ne.1, Ne.symm ne.2.2.1, Ne.symm ne.2.2.2.1, Ne.symm ne.2.2.2.2]) q)) ?_)
  rintro _ h1 h' tk ⟨rfl, u, u', eu, eu', za1, p1, p2, tup1, big1, st1⟩ en' tup2 big2 st2
  refine ⟨_, rfl, enum_letgo en' fun h'' en'' sb => ?_⟩
  have st3 : Stays [e] h1 h'' := st2.trans (Stays.of sb (by simp))
  have tup3 : IsTupOf2 h'' h1.objs.size (.int i tk) (.ref s.heap.objs.size) := sb.extBut _ _ (Nat.ne_of_gt (Nat.lt_trans (small e (by simp)) big1)) tup2
  obtain ⟨J1, J2, J3⟩ := one_new (tk := tk) (us := [u, u']) (fp := [e, z, TI, TO, i1, i2]) (wr := [z, TO, i1, i2]) (h' := h1) inv fresh2 (by simp) st1 (Nat.le_refl _) (show h1.IsTuple _ _ from ⟨_, tup1, rfl, _, rfl⟩) (.cons (itemT ru ex eu) (.cons (itemT rv ey eu') .nil)) (show 2 ≤ sizeLine by decide)
  obtain ⟨L1, L2, L3⟩ := one_new (tk := tk + 1) (us := [.int i tk, .ref s.heap.objs.size]) (fp := [e, z, TI, TO, i1, i2]) (wr := [e]) (h' := h'') J1 (fun d m => ⟨⟨J3 d m, (fresh d m).2⟩, Nat.lt_trans (small d m) big1⟩) (by simp) st3 (Nat.le_refl _)
    (show h''.IsTuple _ _ from ⟨_, tup3, rfl, _, rfl⟩) (.cons (show RelV (.int (i : Nat)) (.int i tk) from ⟨_, rfl⟩) (.cons (show RelV (.ref s.heap.objs.size) (.ref s.heap.objs.size) from rfl) .nil)) (show 2 ≤ sizeLine by decide)
  have off : s.heap.objs.size ≠ h1.objs.size := Nat.ne_of_lt big1
  refine ⟨.ref h1.objs.size, _, L1, rfl, ⟨s.heap.objs.size, h1.objs.size, x, y, rfl, J2, ?_, off, rfl, fun l q => injK inv q qx ▸ ex, fun l q => injK inv q qy ▸ ey⟩, ⟨?_, za1.kept ?_, itK_at p1 fun o q => st3 _ o ?_ q, itK_at p2 fun o q => st3 _ o ?_ q⟩, L3⟩
  · have z2 : upd H s.heap.objs.size (.tup [x, y]) h1.objs.size = none := L2
    rwa [upd_ne off.symm] at z2
  · have en2 : EnumAt h'' e z ((i : Int) + 1) := en''
    rwa [← Int.natCast_succ] at en2
  · intro d m o q
    refine st3 d o ?_ q
    simp only [List.mem_cons, List.not_mem_nil, or_false] at m ⊢
    rcases m with rfl | rfl | rfl
    · exact ne.1
    · exact ne.2.1
    · exact ne.2.2.1
  · simpa using ne.2.2.2.1
  · simpa using ne.2.2.2.2
theorem turn_ez (D : ZipSep2 z TI TO i1 i2 [i1, a] [i2, b]) (ap : Apart e [z, TI, TO, i1, i2]) (na : a ≠ i1) (nb : b ≠ i2) : Turn P w K (.Tuple elts kk tpos) (ItEz K t1 t2 a b) [e, z, TI, TO, i1, i2] e (EzAt t1 t2 a b e z TI TO i1 i2) := by
  refine ⟨List.mem_cons_self, fun i h x => x.cells, fun i h h' x k => x.stay k, ?_, ?_, fun A i s Q E x q => enum_self x.1 q⟩
  · rintro X rfl rfl rfl calm i pins s σ H E inv fresh now go
    exact ez_item D ap na nb (show X.A.in1.handled = none from inv.ok.hd calm) inv fresh now go
  · rintro X rfl rfl rfl calm i pins s σ H E inv fresh ⟨en, za, o1, o2⟩ ⟨xs, ys, qx, qy, l1, l2, over⟩
    have hh : X.A.in1.handled = none := inv.ok.hd calm
    obtain ⟨us, ru, pu, _⟩ := seqK inv qx
    obtain ⟨vs, rv, pv, _⟩ := seqK inv qy
    obtain ⟨oe, he, ce, _⟩ := en.obj
    obtain ⟨_, _, _, zr⟩ := za.it
    have m1 : xs.length = us.toArray.size := by simp [ru.length]
    have m2 : ys.length = vs.toArray.size := by simp [rv.length]
    refine next_by ⟨oe, he, ce⟩ F.slot_enumerate_next F.entry_enumerate_next (F.args_enumerate_next_1 _) (enum_last en fun {Q'} => nextOf_by (b := Builtin.«zip.__next__») ⟨_, zr, rfl⟩ F.slot_zip_next F.entry_zip_next (F.args_zip_next_1 _)
      (zip_last D (drawsK (prog := X.prog) (w := X.w) (A := X.A.in1.in1) hh i1 a na t1 us.toArray) (drawsK (prog := X.prog) (w := X.w) (A := X.A.in1.in1) hh i2 b nb t2 vs.toArray) za ⟨o1, pu⟩ ⟨o2, pv⟩ (by omega) fun h' tk p st ⟨o, ho, hc⟩ => ⟨⟨p, o, rfl, ho, hc⟩, rfl, ?_⟩))
    exact inv.turnedL (t' := tk) (ch := [e, z, TI, TO, i1, i2]) (fun d o nd => st d o fun m => nd (by simp only [List.mem_cons, List.not_mem_nil, or_false] at m ⊢; rcases m with m | m | m | m <;> simp [m])) fresh
end
section
variable {X : Cx} {W : WX} {tg e e2 : Expr} {mas : MA} {p p2 pos pos2 tpos : Pos} {elts : List Expr} {kk : Nat}
theorem pi_ez {ta : TA} (hge : Gl X "enumerate") (hme : X.mg "enumerate" = none) (hg : Gl X "zip") (hm : X.mg "zip" = none) (ha : PA X [e, e2] ta) (hs : starEach (e :: [e2]) X.env = (false, eval e X.env) :: starEach [e2] X.env) (hpl : (backTo pos2 (starEach [e2] X.env)).any (·.1) = false)
    (na : starEach [.Call (.Name "zip" p2) [e, e2] [] pos2] X.env = (false, eval (.Call (.Name "zip" p2) [e, e2] [] pos2) X.env) :: starEach [] X.env) :
    PI X (.Tuple elts kk tpos) (.Call (.Name "enumerate" p) [.Call (.Name "zip" p2) [e, e2] [] pos2] [] pos) (fun σ H Rr => ta σ H fun vs H1 => ∃ a b t1 t2 xs ys, vs = [.ref a, .ref b] ∧ SqK X.K t1 H1 a xs ∧ SqK X.K t2 H1 b ys ∧ Rr (ItEz X.K t1 t2 a b) H1) where
  run pins s σ H Rr inv h := by
    refine Call_ (ld_blt inv hge hme boot_enumerate (callWith_type1 (args_cons (Call_ (ld_blt inv hg hm PyProof.Rows.boot_zip (callWith_type1 (thn (ha.run pos2 pins s σ H _ inv h) ?_) hs hpl))) na) na rfl))
    rintro us s1 ⟨_, H1, inv1, r, a, b, t1, t2, xs, ys, rfl, qx, qy, q⟩
    cases refs_of (as := [a, b]) r
    obtain ⟨ua, _, pa, la⟩ := seqK inv1 qx
    obtain ⟨ub, _, pb, lb⟩ := seqK inv1 qy
    refine zip_begins2 (beginsK a ua.toArray t1) (beginsK b ub.toArray t2) pa pb fun h' oz oI oO o1 o2 sz kept => args_nil ?_
    have iz : IterTo (.ref (s1.heap.objs.size + 4)) (.ref (s1.heap.objs.size + 4)) h' h' := fun prog w A E s' Q es q' => wpAny_pyIter_zip (s := s') (es ▸ oz) (by subst es; exact q')
    refine enum_call (s := { s1 with heap := h' }) iz ?_
    have up : ∀ {c o}, h'.get? c = some o → (h'.push (enumOb (.ref (s1.heap.objs.size + 4)))).get? c = some o := Heap.get?_push_of_some _
    have oe : IsEnum (h'.push (enumOb (.ref (s1.heap.objs.size + 4)))) h'.objs.size (s1.heap.objs.size + 4) 0 .none := Heap.get?_push_size _ rfl
    rw [sz] at oe ⊢
    have sep := zip_sep2 (N := s1.heap.objs.size) (fp1 := [a]) (fp2 := [b]) (by simpa using la) (by simpa using lb)
    refine wpAny_pyIter_enum oe ⟨_, _, _, _, H1, rfl, inv1.kept (t' := s1.toks) fun c o q => up (kept c o q), turn_ez sep (e := s1.heap.objs.size + 5) ?_ (Nat.ne_of_lt la) (Nat.ne_of_lt (Nat.lt_succ_of_lt lb)),
      ⟨⟨.none, false, .none, .inl rfl, oe⟩, ⟨⟨.none, false, .inl rfl, up oz⟩, up oI, _, _, up oO⟩, itK_new (up o1), itK_new (up o2)⟩, all_new inv1 (by simp [Nat.ble_eq]), q⟩
    intro c m z
    simp only [List.mem_cons, List.not_mem_nil, or_false] at m
    rcases m with rfl | rfl | rfl | rfl | rfl <;> (have zn : (_ : Nat) = (_ : Nat) := z; omega)
theorem src_ez {C0 : RC} {d e : MV} {xs ys : List MV} {a b : Addr} (hK : C0.K = X.K) (rv : RepV C0 d (.ref a)) (rv2 : RepV C0 e (.ref b)) : SrcW X (.ezp d xs e ys) (ItEz X.K (isT d) (isT e) a b) C0 := fun C S x r ok => by
  have ok' : seqOf S d = some xs ∧ seqOf S e = some ys := by simpa [Src.ok] using ok
  obtain ⟨a', vs, e1, sq, t⟩ := seqK_of r (rv.trn x) ok'.1
  obtain ⟨b', us, e2, sq2, t2⟩ := seqK_of r (rv2.trn x) ok'.2
  cases e1
  cases e2
  rw [x.K, hK] at sq sq2
  have l := t.length
  have l2 := t2.length
  have hl : (Src.ezp d xs e ys).items.length = min xs.length ys.length := by
    show (enmI 0 (zipI xs ys)).length = _
    rw [enmI_len, zipI_len]
  rw [hl]
  refine ⟨fun i hi => ⟨vs, us, vs[i]'(by omega), us[i]'(by omega), sq, sq2, by rw [List.getElem?_eq_getElem], by rw [List.getElem?_eq_getElem]⟩, ⟨vs, us, sq, sq2, by omega, by omega, by omega⟩, fun i z H' hi y => ?_⟩
  obtain ⟨T, U, x1, y1, rfl, hT, hU, hTU, rfl, f1, f2⟩ := y
  obtain ⟨d1, h1, h2⟩ := t.get' (f1 vs sq)
  obtain ⟨d2, h3, h4⟩ := t2.get' (f2 us sq2)
  have g1 : Grow C (C.put T (.tup [x1, y1])) := Grow.put hT
  have r1 := r.put (o := .tup [x1, y1]) hT
  have hU1 : (C.put T (.tup [x1, y1])).H U = none := by
    show upd C.H T _ U = none
    rw [upd_ne (Ne.symm hTU)]; exact hU
  have tT : RepV (C.put T (.tup [x1, y1])) (.tup [d1, d2]) (.ref T) := repTup put_same (.cons (h2.grow g1 r) (.cons (h4.grow g1 r) .nil))
  have hi0 := enmI_get (k := 0) (zipI_get h1 h3)
  rw [Nat.zero_add] at hi0
  exact ⟨(C.put T (.tup [x1, y1])).put U (.tup [.int (i : Nat), .ref T]), _, rfl, g1.trans (Grow.put hU1), r1.put hU1, hi0, repTup put_same (.cons (repI _) (.cons (tT.grow (Grow.put hU1) r1) .nil))⟩
def ezOf : List MV → Sto → R Src
  | [d, e], S => match seqOf S d, seqOf S e with
    | some xs, some ys => .ok (.ezp d xs e ys) S
    | _, _ => .stk
  | _, _ => .stk
def mEzip (m : MA) : Ev → Sto → R Src := fun ρ S => (m ρ S).bind ezOf
theorem si_ezip (hge : Gl X "enumerate") (hme : X.mg "enumerate" = none) (hg : Gl X "zip") (hm : X.mg "zip" = none) (ha : SA X W [e, e2] mas)
    (hs : starEach [e, e2] X.env = (false, eval e X.env) :: starEach [e2] X.env := by rfl) (hpl : (backTo pos2 (starEach [e2] X.env)).any (·.1) = false := by rfl)
    (na : starEach [.Call (.Name "zip" p2) [e, e2] [] pos2] X.env = (false, eval (.Call (.Name "zip" p2) [e, e2] [] pos2) X.env) :: starEach [] X.env := by rfl) :
    SI X W (.Tuple elts kk tpos) (.Call (.Name "enumerate" p) [.Call (.Name "zip" p2) [e, e2] [] pos2] [] pos) (mEzip mas) :=
  (pi_ez hge hme hg hm ha hs hpl na).imp fun σ H Q ⟨C, ρ, S, e, s, q⟩ => by
    subst e
    refine tA.bind s q fun ds S1 C1 vs s1 g1 r1 q1 => ?_
    unfold ezOf at q1
    split at q1
    · split at q1
      · rename_i e1 e2
        obtain ⟨v, u, rfl, rv, ru⟩ := two_of r1
        obtain ⟨a, vs, rfl, sq, t⟩ := seqK_of s1.rs rv e1
        obtain ⟨b, us, rfl, sq2, t2⟩ := seqK_of s1.rs ru e2
        rw [s1.K] at sq sq2
        exact ⟨a, b, _, _, vs, us, rfl, sq, sq2, q1.now s1.rs _ (src_ez s1.K rv ru)⟩
      · exact q1.elim
    · exact q1.elim
end
end Mi
set_option Elab.async false
set_option linter.all false
set_option maxRecDepth 100000
set_option maxHeartbeats 4000000
namespace Mi
open PySem PySem.Spec PyProof.Rows L2
theorem no_len : typeLookup (.type "enumerate") "__len__" = pure none := am_miss_of_fast (by decide +kernel)
theorem no_hint : typeLookup (.type "enumerate") "__length_hint__" = pure none := am_miss_of_fast (by decide +kernel)
abbrev listOb (vs : List Value) (c : Nat) : Obj := { cls := .type "list", data := .seq vs.toArray c }
section
variable {prog : Program} {w : World} {A : Around} {s : Shared} {E : Value → Shared → Prop} {I L : Addr}
/-- the turns of the filling: M at each turn, Z behind the last -/
theorem extend_by {R : Result → Shared → Prop} {n : Nat} {M : Nat → List Value → Shared → Prop} {Z : List Value → Shared → Prop} (hn : n ≤ sizeLine) (count : ∀ i vs s, M i vs s → vs.length = i)
    (more : ∀ i vs s (Q : Option Value → Shared → Prop) (E : Value → Shared → Prop), i < n → M i vs s → (∀ u s1 c, s1.heap.get? L = some (listOb vs c) → M (i + 1) (vs ++ [u]) { s1 with heap := s1.heap.update L (Obj.mapSeq (·.push u)) } → Q (some u) s1) → wpAny (model prog w) A.in1 (pyNext (.ref I)) Q E s)
    (last : ∀ vs s (Q : Option Value → Shared → Prop) (E : Value → Shared → Prop), M n vs s → (∀ s1, Z vs s1 → Q none s1) → wpAny (model prog w) A.in1 (pyNext (.ref I)) Q E s)
    (fin : ∀ vs s, Z vs s → R (.ok (.ret .none)) s) : ∀ k i vs s, i + k = n → M i vs s → codeAny (model prog w) A (.builtin "list.extend.loop" ⟨[.ref L, .ref I, .none], []⟩) R s
  | 0, i, vs, s, e, m => by
    obtain rfl : i = n := e
    exact codeAny_builtin F.entry_extend_loop (by
      rw [Around.under_plainId F.plain_extend_loop]
      exact wpAny_bind (last vs s _ _ m fun s1 z => wpAny_pure (fin vs s1 z)))
  | k + 1, i, vs, s, e, m => by
    have lt : i < n := by omega
    have len := count i vs s m
    apply codeAny_builtin F.entry_extend_loop
    rw [Around.under_plainId F.plain_extend_loop]
    refine wpAny_bind (more i vs s _ _ lt m fun u s1 c at1 m1 => ?_)
    refine wpAny_bind (wpAny_updateSeq at1 rfl (wpAny_pure ⟨plainId_quiet F.plain_extend_loop _, extend_by hn count more last fin k (i + 1) _ _ (by omega) m1⟩) ?_ ?_)
    · rw [List.size_toArray, len]; omega
    · simp only [Array.size_push, List.size_toArray, len]; omega
theorem put_items {f : Array Value → Array Value} {vs : Array Value} {c : Nat} {Q : Unit → Shared → Prop} (at0 : s.heap.get? L = some { cls := .type "list", data := .seq vs c }) (z : vs.size ≤ 1) (z' : (f vs).size ≤ 1)
    (k : ∀ h' c', h'.get? L = some { cls := .type "list", data := .seq (f vs) c' } → Heap.SameBut L s.heap h' → Q () { s with heap := h' }) : wpAny (model prog w) A (updateSeq L f) Q E s :=
  have one : 1 ≤ sizeLine := by decide
  wpAny_updateSeq at0 rfl (k _ _ (Heap.get?_update_self _ at0 rfl) (Heap.SameBut.update ..)) (Nat.le_trans z one) (Nat.le_trans z' (Nat.le_succ_of_le one))
theorem list_call {T : String} {Q : Value → Shared → Prop} (ty : s.TypeIs (.ref I) T) (nl : typeLookup (.type T) "__len__" = pure none) (nh : typeLookup (.type T) "__length_hint__" = pure none) (n1 : (Value.type T == Value.type "list") = false) (n2 : (Value.type T == Value.type "tuple") = false)
    (self : ∀ {A' : Around} {h' : Heap} {Q' E' : Value → Shared → Prop}, h'.get? I = s.heap.get? I → Q' (.ref I) { s with heap := h' } → wpAny (model prog w) A' (pyIter (.ref I)) Q' E' { s with heap := h' })
    (loop : ∀ h' c, h'.get? s.heap.objs.size = some (listOb [] c) → (∀ b o, s.heap.get? b = some o → h'.get? b = some o) →
      codeAny (model prog w) A.in1 (.builtin "list.extend.loop" ⟨[.ref s.heap.objs.size, .ref I, .none], []⟩) (wants (fun r s2 => r = .none ∧ Q (.ref s.heap.objs.size) s2) E) { s with heap := h' }) :
    wpAny (model prog w) A (call (.type "list") [Value.ref I]) Q E s := by
  obtain ⟨hp, gs, dr, tk, os⟩ := s
  refine callType_codes (Q₁ := fun o s1 => o = .ref hp.objs.size ∧ s1 = ⟨hp.push (listOb [] 0), gs, dr, tk, os⟩) F.called_list (F.typeCall_list_1 _) F.entry_list_init (code_list_new _ ⟨rfl, rfl⟩) ?_
  rintro _ _ ⟨rfl, rfl⟩
  have at0 : (hp.push (listOb [] 0)).get? hp.objs.size = some (listOb [] 0) := Heap.get?_push_size _ rfl
  refine ⟨⟨_, at0, rfl⟩, F.args_list_init_2 _ _, ?_⟩
  obtain ⟨oI, hI, cI⟩ := ty
  have ne : hp.objs.size ≠ I := Nat.ne_of_gt (Heap.lt_size hI)
  have up : ∀ {b o}, hp.get? b = some o → (hp.push (listOb [] 0)).get? b = some o := Heap.get?_push_of_some _
  refine wpAny_bind (wpAny_bind (wpAny_seqItems at0 rfl (wpAny_pure ?_)))
  refine wpAny_bind (put_items at0 (Nat.zero_le _) (Nat.zero_le _) fun h1 c1 at1 sb1 => wpAny_bind (wpAny_letGo ?_))
  have I1 : h1.get? I = hp.get? I := by rw [sb1.2 I ne.symm, hI]; exact up hI
  have t1 : (Shared.mk h1 gs dr tk os).TypeIs (.ref I) T := ⟨oI, I1.trans hI, cI⟩
  have s1 : Builtin.List.listSameRef (.ref hp.objs.size) (.ref I) = false := by simp [Builtin.List.listSameRef, ne]
  refine wpAny_bind (wpAny_typeOf t1 ?_)
  simp only [s1, n1, n2, Bool.or_self, Bool.false_eq_true, if_false]
  refine wpAny_bind (self I1 (wpAny_bind (wpAny_holding (wpAny_bind (wpAny_specialOf t1 nl ?_)))))
  refine wpAny_bind (wpAny_specialOf t1 nh (wpAny_pure ?_))
  refine wpAny_bind (wpAny_rule (wpAny_bind (wpAny_bind (put_items at1 (Nat.zero_le _) Nat.le.refl fun h2 c2 at2 sb2 => put_items at2 Nat.le.refl (Nat.zero_le _) fun h3 c3 at3 sb3 => ?_))))
  exact wpAny_pure ⟨plainId_quiet F.plain_extend_loop _, loop h3 c3 at3 fun b o q => by
    have nb : b ≠ hp.objs.size := Nat.ne_of_lt (Heap.lt_size q)
    exact sb3.extBut _ _ nb (sb2.extBut _ _ nb (sb1.extBut _ _ nb (up q)))⟩
end
end Mi
set_option Elab.async false
set_option linter.all false
set_option maxRecDepth 100000
set_option maxHeartbeats 4000000
namespace Mi
open PySem PySem.Spec PyProof.Rows L2
/-- what stands behind so many items -/
structure EnH (H0 : Hp) (xs : List V) (L : Addr) (i : Nat) (Ts : List Addr) (H : Hp) : Prop where
  keep : ∀ b o, H0 b = some o → H b = some o
  len : Ts.length = i
  at' : H L = some (.lst (Ts.map V.ref))
  tup : ∀ (j : Nat) (x : V) (T : Addr), xs[j]? = some x → Ts[j]? = some T → H T = some (.tup [.int (j : Nat), x])
theorem EnH.sq {H0 H : Hp} {xs ys : List V} {L a : Addr} {i : Nat} {Ts : List Addr} {K : PySem.W.Frag} (en : EnH H0 xs L i Ts H) : ∀ {t : Bool}, SqK K t H0 a ys → SqK K t H a ys
  | true, .inl (.inl q) => .inl (.inl (en.keep _ _ q))
  | true, .inl (.inr ⟨o, q⟩) => .inl (.inr ⟨o, en.keep _ _ q⟩)
  | true, .inr q => .inr q
  | false, .inl (.inl q) => .inl (.inl (en.keep _ _ q))
  | false, .inl (.inr ⟨o, q⟩) => .inl (.inr ⟨o, en.keep _ _ q⟩)
  | false, .inr q => .inr q
section
variable {X : Cx} {pins : List (Addr × Obj)} {σ : L2.St} {a e it L : Addr} {t : Bool} {xs : List V} {H0 : Hp}
/-- a turn of the filling -/
def EnTurn (X : Cx) (pins : List (Addr × Obj)) (σ : L2.St) (a e it L : Addr) (t : Bool) (xs : List V) (H0 : Hp) (i : Nat) (vs : List Value) (s : Shared) : Prop :=
  ∃ H Ts, vs = Ts.map Value.ref ∧ Inv X pins σ H s ∧ EnH H0 xs L i Ts H ∧ EnumAt s.heap e it (i : Nat) ∧ ItK t s.heap it a i ∧ ∀ b ∈ [e, it], FpOk X pins H b ∧ b < s.heap.objs.size
theorem en_more (hh : X.A.in1.handled = none) (na : a ≠ it) (ne : e ≠ it) (nea : e ≠ a) (neL : e ≠ L) (nL : it ≠ L) (hL0 : H0 L = none) (sq : SqK X.K t H0 a xs) (hz : xs.length ≤ sizeLine) {i : Nat} {vs : List Value} {s : Shared} {Q : Option Value → Shared → Prop} {E : Value → Shared → Prop} (lt : i < xs.length)
    (m : EnTurn X pins σ a e it L t xs H0 i vs s) (k : ∀ u s1 c, s1.heap.get? L = some (listOb vs c) → EnTurn X pins σ a e it L t xs H0 (i + 1) (vs ++ [u]) { s1 with heap := s1.heap.update L (Obj.mapSeq (·.push u)) } → Q (some u) s1) : wpAny (model X.prog X.w) X.A.in1.in1 (pyNext (.ref e)) Q E s := by
  obtain ⟨H, Ts, rfl, inv, en, ea, it1, fresh⟩ := m
  obtain ⟨us, ru, pu, _⟩ := seqK inv (en.sq sq)
  have hx : xs[i]? = some xs[i] := List.getElem?_eq_getElem lt
  obtain ⟨oe, he, ce, _⟩ := ea.obj
  refine next_by ⟨oe, he, ce⟩ F.slot_enumerate_next F.entry_enumerate_next (F.args_enumerate_next_1 _) (enum_more (G := fun v h1 => us.toArray[i]? = some v ∧ ItK t h1 it a (i + 1) ∧ Heap.SameBut it s.heap h1) ea
    (fun {Q' E'} cont => (drawsK (prog := X.prog) (w := X.w) (A := X.A.in1.in1.in1) hh it a na t us.toArray).item i s Q' E' (lenT ru hx) ⟨it1, pu⟩ fun u h1 tk hu st sb => cont u h1 tk ⟨hu, st.1, sb⟩ fun o q => sb.extBut _ _ ne q) ?_)
  rintro u h1 h' tk ⟨hu, it2, sb⟩ ea' tup big st2
  have far : Stays [e, it] s.heap h' := fun b o nb q => st2 b o (fun z => nb (by simp at z; simp [z])) (sb.extBut _ _ (fun z => nb (by simp [z])) q)
  obtain ⟨J1, J2, J3⟩ := one_new (tk := tk + 1) (us := [.int i tk, u]) (wr := [e, it]) (T := h1.objs.size) inv fresh (fun _ z => z) far (Nat.le_of_eq sb.1.symm) (show h'.IsTuple _ _ from ⟨_, tup, rfl, _, rfl⟩)
    (.cons (show RelV (.int (i : Nat)) (.int i tk) from ⟨_, rfl⟩) (.cons (itemT ru hx hu) .nil)) (show 2 ≤ sizeLine by decide)
  have LT : L ≠ h1.objs.size := fun z => by rw [← z, en.at'] at J2; cases J2
  have atL : upd H h1.objs.size (.tup [.int (i : Nat), xs[i]]) L = some (.lst (Ts.map V.ref)) := (upd_ne LT).trans en.at'
  obtain ⟨_, its, n, rL, getL⟩ := J1.hok L _ atL
  cases refs_of rL
  have full := Heap.get?_update_self (Obj.mapSeq (·.push (.ref h1.objs.size))) getL rfl
  have other : ∀ b o, b ≠ L → h'.get? b = some o → (h'.update L (Obj.mapSeq (·.push (.ref h1.objs.size)))).get? b = some o := fun b o nb q => (Heap.get?_update_other _ _ (Ne.symm nb)).trans q
  have lenTs : (Ts.map V.ref).length = i := (List.length_map ..).trans en.len
  have J4 := J1.write (t' := tk + 1) (x := L) (o := .lst (Ts.map V.ref ++ [.ref h1.objs.size])) (by rw [atL]; trivial) (.inl rfl) other ⟨_, full⟩
    ⟨by simp only [List.length_append, lenTs, List.length_singleton]; omega, Ts.map Value.ref ++ [.ref h1.objs.size], n + 1, rL.append (.cons (show RelV (.ref h1.objs.size) (.ref h1.objs.size) from rfl) .nil), by rw [full]; simp [Obj.mapSeq]⟩
  refine k _ ⟨h', s.gens, s.drawn, tk + 1, s.os⟩ n getL ⟨_, Ts ++ [h1.objs.size], by simp, J4, ⟨fun b o q => ?_, by simp [en.len], by rw [upd_same]; simp, fun j x T hj hT => ?_⟩, ?_, itK_at it2 fun o q => other it o nL (st2 it o (by simp [Ne.symm ne]) q), fun b hb => ?_⟩
  · have nbL : b ≠ L := fun z => by rw [z, hL0] at q; cases q
    have q2 := en.keep _ _ q
    rw [upd_ne nbL, upd_ne fun z => by rw [z, J2] at q2; cases q2]
    exact q2
  · rcases Nat.lt_or_ge j i with old | young
    · rw [List.getElem?_append_left (by rw [en.len]; exact old)] at hT
      have q2 := en.tup j x T hj hT
      rw [upd_ne (fun z => by rw [z, en.at'] at q2; cases q2), upd_ne (fun z => by rw [z, J2] at q2; cases q2)]
      exact q2
    · have jl := (List.getElem?_eq_some_iff.mp hT).1
      simp only [List.length_append, en.len, List.length_singleton] at jl
      obtain rfl : j = i := by omega
      rw [List.getElem?_append_right (by rw [en.len]; exact Nat.le.refl), en.len, Nat.sub_self] at hT
      cases hT
      cases hx.symm.trans hj
      rw [upd_ne (Ne.symm LT), upd_same]
  · have e2 : EnumAt h' e it ((i : Int) + 1) := ea'
    rw [← Int.natCast_succ] at e2
    exact e2.kept fun o q => other e o neL q
  · have nbL : b ≠ L := by
      rw [List.mem_cons, List.mem_singleton] at hb
      rcases hb with rfl | rfl <;> assumption
    obtain ⟨⟨_, f1⟩, f2⟩ := fresh b hb
    refine ⟨⟨(upd_ne nbL).trans (J3 b hb), f1⟩, ?_⟩
    obtain ⟨o, q⟩ : ∃ o, h'.get? b = some o := by
      rw [List.mem_cons, List.mem_singleton] at hb
      rcases hb with rfl | rfl
      · exact ea'.obj.imp fun _ z => z.1
      · obtain ⟨o, q, _⟩ := itK_obj it2
        exact ⟨o, st2 _ o (by simp [Ne.symm ne]) q⟩
    exact Heap.lt_size (other b o nbL q)
theorem en_last (hh : X.A.in1.handled = none) (na : a ≠ it) (sq : SqK X.K t H0 a xs) {vs : List Value} {s : Shared} {Q : Option Value → Shared → Prop} {E : Value → Shared → Prop} (m : EnTurn X pins σ a e it L t xs H0 xs.length vs s)
    (k : ∀ s1, (∃ H Ts, Inv X pins σ H s1 ∧ EnH H0 xs L xs.length Ts H) → Q none s1) : wpAny (model X.prog X.w) X.A.in1.in1 (pyNext (.ref e)) Q E s := by
  obtain ⟨H, Ts, rfl, inv, en, ea, it1, fresh⟩ := m
  obtain ⟨us, ru, pu, _⟩ := seqK inv (en.sq sq)
  obtain ⟨oe, he, ce, _⟩ := ea.obj
  have sz : us.toArray.size = xs.length := by simp [ru.length]
  refine next_by ⟨oe, he, ce⟩ F.slot_enumerate_next F.entry_enumerate_next (F.args_enumerate_next_1 _) (enum_last ea fun {Q'} => (drawsK (prog := X.prog) (w := X.w) (A := X.A.in1.in1.in1) hh it a na t us.toArray).done s Q' _ (by rw [sz]; exact ⟨it1, pu⟩) ?_)
  exact fun h' x eb ⟨o, ho, hc⟩ => ⟨⟨x, o, rfl, ho, hc⟩, k _ ⟨H, Ts, inv.turnedL (t' := s.toks) (ch := [e, it]) (fun b o nb q => eb b o (fun z => nb (by simp [z])) q) fun b hb => (fresh b hb).1, en⟩⟩
end
section
variable {X : Cx} {W : WX} {x : Expr} {p p2 pos pos2 : Pos} {mas : MA}
def tListE (X : Cx) (ta : TA) : TE := fun σ H Q => ta σ H fun vs H1 => ∃ a t xs, vs = [.ref a] ∧ SqK X.K t H1 a xs ∧ xs.length ≤ sizeLine ∧ ∀ L H2 Ts, H1 L = none → EnH H1 xs L xs.length Ts H2 → Q (.ref L) H2
theorem pe_listE {ta : TA} (hc : X.calm = true) (hg : Gl X "list") (hm : X.mg "list" = none) (hg2 : Gl X "enumerate") (hm2 : X.mg "enumerate" = none) (ha : PA X [x] ta) (hs : starEach (x :: []) X.env = (false, eval x X.env) :: starEach [] X.env)
    (he : starEach [.Call (.Name "enumerate" p2) [x] [] pos2] X.env = (false, eval (.Call (.Name "enumerate" p2) [x] [] pos2) X.env) :: starEach [] X.env) : PE X (.Call (.Name "list" p) [.Call (.Name "enumerate" p2) [x] [] pos2] [] pos) (tListE X ta) where
  run pins s σ H Q inv h := by
    refine Call_ (ld_blt inv hg hm bt_list (callWith_type1 (args_cons (Call_ (ld_blt inv hg2 hm2 boot_enumerate (callWith_type1 (thn (ha.run pos2 pins s σ H _ inv h) ?_) hs rfl))) he) he rfl))
    rintro us s1 ⟨_, H1, inv1, r, a, t, xs, rfl, sq, hz, q⟩
    cases refs_of (as := [a]) r
    obtain ⟨ua, _, pa, la⟩ := seqK inv1 sq
    refine enum_call (iterK pa) (args_nil ?_)
    have nf : (obK t a).isFreed = false := by cases t <;> rfl
    have sz : (s1.heap.push (obK t a)).objs.size = s1.heap.objs.size + 1 := Heap.size_push ..
    have oe : IsEnum ((s1.heap.push (obK t a)).push (enumOb (.ref s1.heap.objs.size))) (s1.heap.push (obK t a)).objs.size s1.heap.objs.size 0 .none := Heap.get?_push_size _ rfl
    have oi : ((s1.heap.push (obK t a)).push (enumOb (.ref s1.heap.objs.size))).get? s1.heap.objs.size = some (obK t a) := Heap.get?_push_of_some _ (Heap.get?_push_size _ nf)
    have old : ∀ b o, s1.heap.get? b = some o → ((s1.heap.push (obK t a)).push (enumOb (.ref s1.heap.objs.size))).get? b = some o := fun b o q => Heap.get?_push_of_some _ (Heap.get?_push_of_some _ q)
    have sz2 : ((s1.heap.push (obK t a)).push (enumOb (.ref s1.heap.objs.size))).objs.size = s1.heap.objs.size + 2 := by rw [Heap.size_push, sz]
    rw [sz] at oe ⊢
    generalize (s1.heap.push (obK t a)).push (enumOb (.ref s1.heap.objs.size)) = h2 at oe oi old sz2
    have ea : EnumAt h2 (s1.heap.objs.size + 1) s1.heap.objs.size ((0 : Nat) : Int) := ⟨.none, false, .none, .inl rfl, oe⟩
    refine list_call (s := { s1 with heap := h2 }) ⟨_, oe, rfl⟩ no_len no_hint (by decide) (by decide) (fun {A' h' Q' E'} same q => enum_self (s := { s1 with heap := h' }) (ea.kept fun o z => same.trans z) q) fun h' c atL kept => ?_
    have hLn : H1 h2.objs.size = none := inv1.hok.fresh (by omega)
    have nL : ∀ b, b ≤ s1.heap.objs.size + 1 → b ≠ h2.objs.size := fun b l z => by omega
    refine extend_by (n := xs.length) (M := EnTurn X pins σ a (s1.heap.objs.size + 1) s1.heap.objs.size h2.objs.size t xs H1) (Z := fun _ st => ∃ H Ts, Inv X pins σ H st ∧ EnH H1 xs h2.objs.size xs.length Ts H) hz ?_
      (fun i vs st Q' E' lt m k => en_more (inv1.ok.hd hc) (Nat.ne_of_lt la) (Nat.succ_ne_self _) (Nat.ne_of_gt (Nat.lt_succ_of_lt la)) (nL _ Nat.le.refl) (nL _ (Nat.le_succ _)) hLn sq hz lt m k) (fun vs st Q' E' m k => en_last (inv1.ok.hd hc) (Nat.ne_of_lt la) sq m fun s' z => k s' z)
      ?_ xs.length 0 [] _ (Nat.zero_add _) ⟨upd H1 h2.objs.size (.lst []), [], rfl, ?_, ?_, ea.kept fun o z => kept _ o z, itK_new (kept _ _ oi), ?_⟩
    · rintro i vs st ⟨_, Ts, rfl, _, en, _⟩
      rw [List.length_map]; exact en.len
    · rintro vs st ⟨H2, Ts, inv2, en⟩
      exact ⟨rfl, .ref h2.objs.size, H2, inv2, rfl, q _ H2 Ts hLn en⟩
    · exact inv1.laid (t' := s1.toks) (fun b o z => kept b o (old b o z)) (by omega) ⟨Nat.zero_le _, [], c, .nil, atL⟩
    · exact ⟨fun b o z => by rw [upd_ne fun y => by rw [y, hLn] at z; cases z]; exact z, rfl, upd_same, fun j y T _ hT => by simp at hT⟩
    · intro b hb
      have two : s1.heap.objs.size ≤ b ∧ b ≤ s1.heap.objs.size + 1 := by
        rw [List.mem_cons, List.mem_singleton] at hb
        rcases hb with rfl | rfl <;> (constructor <;> first | exact Nat.le.refl | exact Nat.le_succ _)
      obtain ⟨_, f1⟩ := inv1.fpOk two.1 (inv1.hok.fresh two.1)
      refine ⟨⟨(upd_ne (nL b two.2)).trans (inv1.hok.fresh two.1), f1⟩, ?_⟩
      have here : ∃ o, h'.get? b = some o := by
        rw [List.mem_cons, List.mem_singleton] at hb
        rcases hb with rfl | rfl
        · exact ⟨_, kept _ _ oe⟩
        · exact ⟨_, kept _ _ oi⟩
      exact here.elim fun o z => Heap.lt_size z
def lstE : List MV → Sto → R MV
  | [d], S => match seqOf S d with
    | some xs => if xs.length ≤ sizeLine then .ok (.lst (enmI 0 xs)) S else .stk
    | none => .stk
  | _, _ => .stk
theorem enm_rep {C : RC} {H : Hp} {K : PySem.W.Frag} (hK : C.K = K) : ∀ {ds : List MV} {vs : List V} (k : Nat) (Ts : List Addr), RepVs C ds vs → Ts.length = ds.length → (∀ (j : Nat) (x : V) (T : Addr), vs[j]? = some x → Ts[j]? = some T → C.H T = some (.tup [.int ((k + j : Nat) : Int), x])) → RepVs C (enmI k ds) (Ts.map V.ref)
  | [], vs, k, Ts, t, l, h => by
    cases Ts with
    | nil => exact .nil
    | cons T Ts => simp at l
  | d :: ds, vs, k, Ts, t, l, h => by
    obtain ⟨v, vr, rfl, h1, h2⟩ := t.cons_inv
    cases Ts with
    | nil => simp at l
    | cons T Ts =>
      rw [enmI]
      refine .cons (repTup (h 0 v T rfl rfl) (.cons (repI _) (.cons h1 .nil))) (enm_rep hK (H := H) (k + 1) Ts h2 (by simpa using l) fun j x T' e1 e2 => ?_)
      have := h (j + 1) x T' (by simpa using e1) (by simpa using e2)
      rw [show k + 1 + j = k + (j + 1) by omega]; exact this
theorem Grow.keepH {C : RC} {H' : Hp} (k : ∀ b o, C.H b = some o → H' b = some o) : Grow C { C with H := H' } :=
  ⟨rfl, rfl, fun _ h => .inl h, fun _ h => h, fun a u _ e => .inl (k a u e), fun a m => .inl m, rfl, Nat.le_refl _, Nat.le_refl _⟩
theorem RepS.keepH {C : RC} {S : Sto} {H' : Hp} (r : RepS C S) (k : ∀ b o, C.H b = some o → H' b = some o) : RepS { C with H := H' } S := by
  refine ⟨r.len, r.nd, fun a m => ⟨(r.bad a m).1, ?_⟩, fun n mo a e1 e2 => ?_⟩
  · cases e : C.H a with
    | none => exact absurd e (r.bad a m).2
    | some o => show H' a ≠ none; rw [k a o e]; simp
  · have ro := r.ob n mo a e1 e2
    refine ro.grow (Grow.keepH k) r ?_
    obtain ⟨u, hu, _⟩ := ro.kind
    rw [hu]; exact k a u hu
theorem se_listE (hc : X.calm = true) (hg : Gl X "list") (hm : X.mg "list" = none) (hg2 : Gl X "enumerate") (hm2 : X.mg "enumerate" = none) (ha : SA X W [x] mas) (hs : starEach (x :: []) X.env = (false, eval x X.env) :: starEach [] X.env := by rfl)
    (he : starEach [.Call (.Name "enumerate" p2) [x] [] pos2] X.env = (false, eval (.Call (.Name "enumerate" p2) [x] [] pos2) X.env) :: starEach [] X.env := by rfl) :
    SE X W (.Call (.Name "list" p) [.Call (.Name "enumerate" p2) [x] [] pos2] [] pos) (mCallF (lstE) mas) :=
  (pe_listE hc hg hm hg2 hm2 ha hs he).imp fun σ H Q ⟨C, ρ, S, e, s, q⟩ => by
    subst e
    refine tA.bind s q fun ds S1 C1 vs s1 g1 r1 q1 => ?_
    unfold lstE at q1
    split at q1
    · split at q1
      · rename_i xs e1
        split at q1
        · rename_i hsz
          obtain ⟨v, rfl, rv⟩ := one_of r1
          obtain ⟨a, vs, rfl, sq, t⟩ := seqK_of s1.rs rv e1
          rw [s1.K] at sq
          have hl := t.length
          refine ⟨a, _, vs, rfl, sq, by omega, fun L H2 Ts hL en => ?_⟩
          have hLn := s1.rs.notin hL
          have hLb : L ∉ C1.bad := fun m => (s1.rs.bad L m).2 hL
          have t2 : RepVs { C1 with H := H2 } (enmI 0 xs) (Ts.map V.ref) := by
            refine enm_rep (C := { C1 with H := H2 }) (K := X.K) (H := H2) s1.K 0 Ts (t.grow (Grow.keepH en.keep) s1.rs) (by rw [en.len]; omega) fun j x T e1 e2 => ?_
            rw [Nat.zero_add]
            exact en.tup j x T e1 e2
          exact q1 _ (Grow.keepH en.keep) (s1.rs.keepH en.keep) (.ref L) (repLst ⟨hLn, hLb⟩ en.at' t2)
        · exact q1.elim
      · exact q1.elim
    · exact q1.elim
end
end Mi
set_option Elab.async false
set_option linter.all false
set_option maxRecDepth 100000
set_option maxHeartbeats 4000000
namespace Mi
open PySem PySem.Spec PyProof.Rows L2
def truW (d : MV) (S : Sto) : R Bool := match d with
  | .bl b => .ok b S
  | .non => .ok false S
  | .int i => .ok (i != 0) S
  | .str x => if x.length ≤ sizeLine then .ok ((x.length : Int) != 0) S else .stk
  | d => (match seqOf S d with
    | some xs => .ok (!xs.isEmpty) S
    | none => (match d with
      | .ref n => (match S[n]? with
        | some (.dct ks _) => .ok (!ks.isEmpty) S
        | _ => .stk)
      | _ => .stk))
def mTruth (a : ME) : MT := fun ρ S => (a ρ S).bind truW
theorem isE_of {C : RC} {xs : List MV} {vs : List V} (t : RepVs C xs vs) : (!xs.isEmpty) = !vs.isEmpty := by
  cases xs with
  | nil => rw [t.nil_inv]; rfl
  | cons d ds => obtain ⟨v, vr, rfl, _, _⟩ := t.cons_inv; rfl
theorem truW_rep {C : RC} {S S' : Sto} {d : MV} {v : V} {b : Bool} (r : RepS C S) (h : RepV C d v) (e : truW d S = .ok b S') : TruV C.K v C.H b ∧ S' = S := by
  have seqs : ∀ d xs, RepV C d v → seqOf S d = some xs → TruV C.K v C.H (!xs.isEmpty) := fun d xs h e => by
    obtain ⟨a, vs, rfl, sq, t⟩ := seqOf_rep r h e
    rcases sq with sq | sq
    · exact .inl ⟨vs, sq, isE_of t⟩
    · exact .inr (.inl ⟨vs, sq, isE_of t⟩)
  have rest : ∀ d : MV, RepV C d v → (match seqOf S d with
    | some xs => R.ok (!xs.isEmpty) S
    | none => (match d with
      | .ref n => (match S[n]? with
        | some (.dct ks _) => R.ok (!ks.isEmpty) S
        | _ => R.stk)
      | _ => R.stk)) = .ok b S' → TruV C.K v C.H b ∧ S' = S := fun d h e => by
    cases q : seqOf S d with
    | some xs => rw [q] at e; cases e; exact ⟨seqs d xs h q, rfl⟩
    | none =>
      rw [q] at e
      cases d with
      | ref n =>
        dsimp only at e
        cases q2 : S[n]? with
        | none => rw [q2] at e; cases e
        | some o =>
          rw [q2] at e
          cases o with
          | dct ks ds =>
            cases e
            rw [RepV] at h
            obtain ⟨a, e1, e2⟩ := h
            obtain ⟨vs, h1, l, nd, h2⟩ := r.ob n _ a q2 e2
            subst e1
            refine ⟨.inr (.inr ⟨_, h1, ?_⟩), rfl⟩
            cases ks with
            | nil => rfl
            | cons k ks => cases vs with
              | nil => simp at l
              | cons v vs => rfl
          | _ => cases e
      | _ => cases e
  cases d with
  | bl x => cases e; rw [RepV] at h; subst h; exact ⟨rfl, rfl⟩
  | non => cases e; rw [RepV] at h; subst h; exact ⟨rfl, rfl⟩
  | int i => cases e; rw [RepV] at h; subst h; exact ⟨rfl, rfl⟩
  | str x =>
    rw [RepV] at h; subst h
    unfold truW at e
    dsimp only at e
    split at e
    · rename_i hl; cases e; exact ⟨⟨hl, rfl⟩, rfl⟩
    · cases e
  | tup xs => exact rest _ h e
  | lst xs => exact rest _ h e
  | dct ks xs => exact rest _ h e
  | dcT ks xs => exact rest _ h e
  | obj c f xs => exact rest _ h e
  | ref n => exact rest _ h e
  | kls xs => exact rest _ h e
  | ptp xs => exact rest _ h e
theorem truW_noexc {d : MV} {S : Sto} {c : Str} {x : MV} {S' : Sto} : truW d S ≠ .exc c x S' := by
  intro h
  unfold truW at h
  split at h <;> (first | (cases h; done) | skip)
  · split at h <;> cases h
  · split at h
    · cases h
    · split at h
      · split at h <;> cases h
      · cases h
section
variable {X : Cx} {W : WX} {e : Expr} {ma : ME}
theorem st_truth (h : SE X W e ma) (he : ∀ whole, isTrue e X.env whole = (do let v ← whole; standAt e.pos; holding [v] (truthy v)) := by intro _; rfl) : ST X W e (mTruth ma) :=
  (pt_truth h he).imp fun σ H Q ⟨C, ρ, S, e, s, q⟩ => by
    subst e
    refine tE.bind s q fun d S1 C1 v s1 g1 r1 q1 => ?_
    cases e1 : truW d S1 with
    | ok b S2 =>
      rw [e1] at q1
      obtain ⟨t, rfl⟩ := truW_rep s1.rs r1 e1
      rw [s1.K] at t
      exact ⟨b, t, q1.now s1.rs⟩
    | exc c x S2 => exact absurd e1 truW_noexc
    | stk => rw [e1] at q1; exact q1.elim
end
end Mi
set_option Elab.async false
set_option linter.all false
set_option maxRecDepth 100000
set_option maxHeartbeats 4000000
namespace Mi
open PySem PySem.Spec PyProof.Rows L2
theorem Tr.wrG {C : RC} {S : Sto} {D : Addr} {u o : HO} (r : RepS C S) (hb : D ∈ C.bad) (h : C.H D = some u) (h1 : ∀ xs, u ≠ .tup xs) (h2 : ∀ ob x, u ≠ .frz ob x) : Tr C.ι.length C (C.put D o) where
  w := rfl
  K := rfl
  seqT := fun a ws q => by
    rcases q with (q | ⟨o', q⟩) | q
    · exact .inl (.inl (by show upd C.H D o a = _; rw [upd_ne (fun z => by subst z; rw [h] at q; exact h1 _ (Option.some.inj q))]; exact q))
    · exact .inl (.inr ⟨o', by show upd C.H D o a = _; rw [upd_ne (fun z => by subst z; rw [h] at q; exact h2 _ _ (Option.some.inj q))]; exact q⟩)
    · exact .inr q
  froz := fun a u n q => ⟨n, .inl (by show upd C.H D o a = _; rw [upd_ne (fun z => n.2 (by rw [z]; exact hb))]; exact q)⟩
  frz := fun a o' u' q => by show upd C.H D o a = _; rw [upd_ne (fun z => by subst z; rw [h] at q; exact h2 _ _ (Option.some.inj q))]; exact q
  ref := fun n a _ q => q
theorem RepS.wrG {C : RC} {S : Sto} {D : Addr} {u o : HO} (r : RepS C S) (hb : D ∈ C.bad) (h : C.H D = some u) (h1 : ∀ xs, u ≠ .tup xs) (h2 : ∀ ob x, u ≠ .frz ob x) : RepS (C.put D o) S := by
  refine ⟨r.len, r.nd, fun a m => ⟨(r.bad a m).1, ?_⟩, fun n mo a e1 e2 => ?_⟩
  · show upd C.H D o a ≠ none
    by_cases q : a = D
    · subst q; rw [upd_same]; simp
    · rw [upd_ne q]; exact (r.bad a m).2
  · refine (r.ob n mo a e1 e2).trn (Tr.wrG r hb h h1 h2) ?_
    show upd C.H D o a = C.H a
    exact upd_ne fun z => (r.bad D hb).1 (by rw [← z]; exact List.mem_of_getElem? e2)
def RC.fillO (C : RC) (D : Addr) (o : HO) : RC := { C.put D o with bad := D :: C.bad }
theorem Grow.fillO {C : RC} {D : Addr} {o : HO} (h : C.H D = none) : Grow C (C.fillO D o) where
  w := rfl
  K := rfl
  bad := fun a m => by
    rcases List.mem_cons.mp (show a ∈ D :: C.bad from m) with z | z
    · subst z; exact .inr (.inr h)
    · exact .inl z
  bad' := fun a m => List.mem_cons_of_mem _ m
  kp := fun a o na e => .inl (by show upd C.H D _ a = _; rw [upd_ne (ne_of_none e h)]; exact e)
  new := fun a m => .inl m
  pre := rfl
  le := Nat.le_refl _
  le' := Nat.le_refl _
theorem RepS.fillO {C : RC} {S : Sto} {D : Addr} {o : HO} (r : RepS C S) (h : C.H D = none) : RepS (C.fillO D o) S := by
  refine ⟨r.len, r.nd, fun a m => ?_, fun n mo a e1 e2 => ?_⟩
  · rcases List.mem_cons.mp (show a ∈ D :: C.bad from m) with z | z
    · subst z; exact ⟨r.notin h, by show upd C.H a _ a ≠ none; rw [upd_same]; simp⟩
    · refine ⟨(r.bad a z).1, ?_⟩
      show upd C.H D _ a ≠ none
      rw [upd_ne (fun q => (r.bad a z).2 (by rw [q]; exact h))]
      exact (r.bad a z).2
  · refine (r.ob n mo a e1 e2).trn ((Grow.fillO h).tr r) ?_
    show upd C.H D _ a = C.H a
    exact upd_ne fun z => r.notin h (by rw [← z]; exact List.mem_of_getElem? e2)
theorem adopt_ok {C0 C : RC} {S0 S : Sto} {D : Addr} {mo : MO} (r0 : RepS C0 S0) (hD : C0.H D = none) (g : Grow C0 (C.rb C0)) (hb : ∀ a ∈ C0.bad, a ∈ C.bad) (rs : RepS C S) (hbD : D ∈ C.bad)
    (hmo : ∀ C', Tr C.ι.length C C' → C'.H D = C.H D → RepO C' D mo) : Grow C0 ((C.rb C0).adopt D) ∧ RepS ((C.rb C0).adopt D) (S ++ [mo]) ∧ RepV ((C.rb C0).adopt D) (.ref S.length) (.ref D) := by
  have nD : D ∉ C.ι := (rs.bad D hbD).1
  have nb : D ∉ C0.bad := fun m => (r0.bad D m).2 hD
  have tr : Tr C.ι.length C ((C.rb C0).adopt D) := by
    refine ⟨rfl, rfl, fun _ _ q => q, fun a u n q => ⟨⟨fun m => ?_, fun m => n.2 (hb a m)⟩, .inl q⟩, fun _ _ _ q => q, fun n a hn q => ?_⟩
    · rcases List.mem_append.mp (show a ∈ C.ι ++ [D] from m) with m | m
      · exact n.1 m
      · have e : a = D := by simpa using m
        exact n.2 (by rw [e]; exact hbD)
    · show (C.ι ++ [D])[n]? = some a
      rw [List.getElem?_append_left (by exact hn)]; exact q
  refine ⟨⟨g.w, g.K, fun a m => .inl m, fun a m => m, g.kp, fun a m => ?_, ?_, g.le, ?_⟩, ⟨by show (C.ι ++ [D]).length = _; simp [rs.len], ?_, fun a m => ⟨fun m2 => ?_, (rs.bad a (hb a m)).2⟩, fun n mo' a e1 e2 => ?_⟩, ?_⟩
  · rcases List.mem_append.mp (show a ∈ C.ι ++ [D] from m) with m | m
    · exact g.new a m
    · have e : a = D := by simpa using m
      exact .inr (by rw [e]; exact hD)
  · show (C.ι ++ [D]).take C0.ι.length = _
    rw [List.take_append_of_le_length (show C0.ι.length ≤ C.ι.length from g.le')]; exact g.pre
  · show C0.ι.length ≤ (C.ι ++ [D]).length
    rw [List.length_append]
    exact Nat.le_trans g.le' (Nat.le_add_right _ _)
  · show (C.ι ++ [D]).Nodup
    rw [List.nodup_append]
    refine ⟨rs.nd, by simp, fun a ha b hb => ?_⟩
    have e : b = D := by simpa using hb
    subst e
    intro e; subst e
    exact nD ha
  · rcases List.mem_append.mp (show a ∈ C.ι ++ [D] from m2) with m2 | m2
    · exact (rs.bad a (hb a m)).1 m2
    · have e : a = D := by simpa using m2
      subst e; exact nb m
  · have e2 : (C.ι ++ [D])[n]? = some a := e2
    by_cases hn : n < S.length
    · rw [List.getElem?_append_left hn] at e1
      rw [List.getElem?_append_left (by rw [rs.len]; exact hn)] at e2
      exact (rs.ob n mo' a e1 e2).trn tr rfl
    · rw [List.getElem?_append_right (by omega)] at e1
      rw [List.getElem?_append_right (by rw [rs.len]; omega), rs.len] at e2
      cases hz : n - S.length with
      | zero =>
        rw [hz] at e1 e2
        simp at e1 e2
        subst e1; subst e2
        exact hmo _ tr rfl
      | succ k => rw [hz] at e1; simp at e1
  · rw [RepV]
    exact ⟨D, rfl, by show (C.ι ++ [D])[S.length]? = some D; rw [← rs.len]; simp⟩
def mkD (fr : Bool) (ks : List Key) (ds : List MV) (S : Sto) : R MV := if fr then .ok (.dct ks ds) S else .ok (.ref S.length) (S ++ [.dct ks ds])
theorem repDct {C : RC} {p : Addr} {ks : List Key} {ds : List MV} {vs : List V} (n : Froz C p) (h : C.H p = some (.dK (ks.zip vs))) (l : ks.length = vs.length) (nd : ks.Nodup) (t : RepVs C ds vs) : RepV C (.dct ks ds) (.ref p) := by
  rw [RepV]; exact ⟨p, vs, rfl, n, .inl h, l, nd, t⟩
/-- the filled dict, told -/
theorem dict_end {W : WX} {σ : L2.St} {C0 C : RC} {S0 S : Sto} {D : Addr} {Q : VK} {fr : Bool} {ks : List Key} {ds : List MV} {vs : List V} (r0 : RepS C0 S0) (hD : C0.H D = none) (g : Grow C0 (C.rb C0)) (hb : ∀ a ∈ C0.bad, a ∈ C.bad) (rs : RepS C S) (hbD : D ∈ C.bad)
    (hv : C.H D = some (.dK (ks.zip vs))) (l : ks.length = vs.length) (nd : ks.Nodup) (rv : RepVs C ds vs) (h : Wants W σ C0 (mkD fr ks ds S) (fun d _ C' => ∀ v, RepV C' d v → Q v C'.H)) : Q (.ref D) C.H := by
  have nD : D ∉ C.ι := (rs.bad D hbD).1
  have nb : D ∉ C0.bad := fun m => (r0.bad D m).2 hD
  cases fr with
  | true =>
    have h : Wants W σ C0 (.ok (.dct ks ds) S) (fun d _ C' => ∀ v, RepV C' d v → Q v C'.H) := h
    exact h (C.rb C0) g (rs.rb hb) (.ref D) (repDct ⟨nD, nb⟩ hv l nd (rv.trn (Tr.rb (C0 := C0) hb)))
  | false =>
    have h : Wants W σ C0 (.ok (.ref S.length) (S ++ [.dct ks ds])) (fun d _ C' => ∀ v, RepV C' d v → Q v C'.H) := h
    obtain ⟨g2, rs2, rv2⟩ := adopt_ok (mo := .dct ks ds) r0 hD g hb rs hbD fun C' tr e => ⟨vs, by rw [e]; exact hv, l, nd, rv.trn tr⟩
    exact h _ g2 rs2 _ rv2
section
variable {X : Cx} {W : WX} {k v : Expr} {keys : List (Option Expr)} {values : List Expr} {ks : List Key} {mas : MA} {ma : ME} {pos : Pos}
structure SPs (X : Cx) (W : WX) (pos : Pos) (keys : List (Option Expr)) (values : List Expr) (ks : List Key) (m : MA) : Prop where
  tr : ∃ trs, PPs X pos keys values trs ∧ ∀ (σ : L2.St) (C : RC) (ρ : Ev) (S : Sto) (Q : List (V × V) → Hp → Prop), Sv X ρ σ S C → Wants W σ C (m ρ S) (fun ds _ C' => ∀ vs, RepVs C' ds vs → Q ((ks.map kV).zip vs) C'.H) → tPairs trs σ C.H Q
  all : keys.all (·.isSome) = true
  len : keys.length = values.length
  klen : ks.length = keys.length
theorem sp_nil : SPs X W pos [] [] [] mNil := ⟨⟨[], pps_nil, fun σ C ρ S Q s q => q.now s.rs [] .nil⟩, rfl, rfl, rfl⟩
theorem sp_cons {x : Str} {kp : Pos} {kk : Nat} (hv : SE X W v ma) (hr : SPs X W pos keys values ks mas) : SPs X W pos (some (.Constant (.str x) kk kp) :: keys) (v :: values) (.inr x :: ks) (mCons ma mas) := by
  obtain ⟨⟨trs, h1, h2⟩, a, l, kl⟩ := hr
  refine ⟨⟨_, pps_cons pe_str hv h1, fun σ C ρ S Q s q => ?_⟩, by simpa using a, by simpa using l, by simpa using kl⟩
  show tE X W ma σ C.H (fun y H2 => tPairs trs σ H2 fun ps H3 => Q ((V.str x, y) :: ps) H3)
  refine tE.bind s q fun d S1 C1 v s1 g1 r1 q1 => ?_
  refine h2 σ C1 ρ S1 _ s1 ((Wants.bind q1).mono fun ds S2 C2 g2 r2 _ q2 vs rv => ?_)
  exact q2.1.now r2 (v :: vs) (.cons (r1.grow g2 s1.rs) rv)
theorem zip_kV (ks : List Key) : ∀ vs : List V, (ks.map kV).zip vs = (ks.zip vs).map fun kv => (kV kv.1, kv.2) := by
  induction ks with
  | nil => intro vs; rfl
  | cons k ks ih =>
    intro vs
    cases vs with
    | nil => rfl
    | cons v vs => rw [List.map_cons, List.zip_cons_cons, List.zip_cons_cons, List.map_cons, ih]
theorem mergeK_new : ∀ (ks : List Key) (vs : List V) (ks0 : List Key) (vs0 : List V), ks0.length = vs0.length → (ks0 ++ ks).Nodup → ks.length = vs.length → mergeK (ks0.zip vs0) (ks.zip vs) = (ks0 ++ ks).zip (vs0 ++ vs)
  | [], vs, ks0, vs0, l0, nd, l => by
    cases vs with
    | nil => simp [mergeK]
    | cons v vs => simp at l
  | k :: ks, vs, ks0, vs0, l0, nd, l => by
    cases vs with
    | nil => simp at l
    | cons v vs =>
      show mergeK (putK (ks0.zip vs0) k v) (ks.zip vs) = _
      have hk : ¬ k ∈ ks0 := fun m => by
        rw [List.nodup_append] at nd
        exact nd.2.2 k m k List.mem_cons_self rfl
      have e : putK (ks0.zip vs0) k v = (ks0 ++ [k]).zip (vs0 ++ [v]) := by
        unfold putK
        rw [any_zip k ks0 vs0 l0, if_neg (by simp [hk]), List.zip_append l0]
        simp
      rw [e, mergeK_new ks vs (ks0 ++ [k]) (vs0 ++ [v]) (by simp [l0]) (by simpa using nd) (by simpa using l)]
      simp
def mDct (fr : Bool) (ks : List Key) (m : MA) : ME := fun ρ S => (m ρ S).bind fun ds S1 => mkD fr ks ds S1
theorem se_dict {fr : Bool} {n : Nat} (h : SPs X W pos keys values ks mas) (hl : LenA mas n) (hn : n = ks.length) (nd : ks.Nodup) (h0 : keys ≠ []) (h15 : ks.length ≤ 15) : SE X W (.Dict keys values pos) (mDct fr ks mas) := by
  obtain ⟨⟨trs, h1, h2⟩, a, l, kl⟩ := h
  refine (pe_disp h1 a l h0 (by omega)).imp fun σ H Q ⟨C, ρ, S, e, s, q⟩ p hp => ?_
  subst e
  refine h2 σ (C.fillO p (.dK [])) ρ S _ (s.grow (Grow.fillO hp) (s.rs.fillO hp)) ?_
  cases e1 : mas ρ S with
  | stk => unfold mDct at q; rw [e1] at q; exact q
  | exc c d S1 =>
    unfold mDct at q; rw [e1] at q
    exact fun C' cls dx g r x => q C' cls dx ((Grow.fillO hp).trans g) r x
  | ok ds S1 =>
    unfold mDct at q; rw [e1] at q
    intro C' g r vs rv
    have hds := hl _ _ _ _ e1
    have hlv := rv.length
    have hbp : p ∈ (C.fillO p (.dK [])).bad := List.mem_cons_self
    have z : C'.H p = some (.dK []) := (g.kp _ _ ((s.rs.fillO hp).bad p hbp).1 upd_same).exact (.inr hbp)
    have hb2 : p ∈ C'.bad := g.bad' p hbp
    refine ⟨z, ks.zip vs, zip_kV ks vs, by rw [List.length_zip]; omega, ?_⟩
    have em := mergeK_new ks vs [] [] rfl (by simpa using nd) (by omega)
    rw [show ([] : List Key).zip ([] : List V) = [] from rfl] at em
    rw [em]
    have wr := Tr.wrG (o := .dK (([] ++ ks).zip ([] ++ vs))) r hb2 z (by simp) (by simp)
    refine dict_end (C := C'.put p (.dK (([] ++ ks).zip ([] ++ vs)))) (fr := fr) (ks := ks) (ds := ds) (vs := vs) s.rs hp (rb_wr (rb_step (Grow.refl (C := C)) (fun _ m => m) ((Grow.fillO hp).trans g)) hp) (fun a m => g.bad' a (List.mem_cons_of_mem _ m)) (r.wrG hb2 z (by simp) (by simp)) hb2 (by rw [put_same]; rfl) (by omega) nd (rv.trn wr) q
/-- {} -/
theorem se_dnew {fr : Bool} : SE X W (.Dict [] [] pos) (fun _ S => mkD fr [] [] S) :=
  pe_dnewK.imp fun σ H Q ⟨C, ρ, S, e, s, q⟩ p hp => by
    subst e
    exact dict_end (C := C.fillO p (.dK [])) (fr := fr) (ks := []) (ds := []) (vs := []) s.rs hp (rb_step (Grow.refl (C := C)) (fun _ m => m) (Grow.fillO hp)) (fun a m => List.mem_cons_of_mem _ m) (s.rs.fillO hp) List.mem_cons_self upd_same rfl List.nodup_nil .nil q
end
def dcpM (fr : Bool) : List MV → Sto → R MV
  | [d], S => match dctOf S d with
    | some (ks, ds) => mkD fr ks ds S
    | none => .stk
  | _, _ => .stk
theorem pu_dcp {fr : Bool} : Pure1 (dcpM fr) := by
  intro ds S c d S' h
  unfold dcpM at h
  split at h
  · split at h
    · unfold mkD at h; split at h <;> cases h
    · cases h
  · cases h
theorem crM_dcp {X : Cx} (fr : Bool) : CallR X (.type "dict") (rCf X (dcpM fr)) := by
  intro pins s σ H vs us Q I rv h
  obtain ⟨C, S, ds, rfl, hw, hK, r, t, a, S', e, q⟩ := h
  unfold dcpM at e
  split at e
  · rename_i d
    obtain ⟨v, rfl, h1⟩ := one_of t
    cases hs : dctOf S d with
    | some p =>
      obtain ⟨ks, es⟩ := p
      rw [hs] at e
      dsimp only at e
      obtain ⟨p, ws, rfl, rd, l, nd, tt⟩ := dctOf_rep r h1 hs
      refine call_dictD pins s σ C.H _ us Q I rv ⟨p, _, rfl, rd, fun p' hp => ?_⟩
      refine dict_end (C := C.fillO p' (.dK (ks.zip ws))) (W := WNo) (σ := σ) (fr := fr) (ks := ks) (ds := es) (vs := ws) r hp (rb_step (Grow.refl (C := C)) (fun _ m => m) (Grow.fillO hp)) (fun a m => List.mem_cons_of_mem _ m) (r.fillO hp) List.mem_cons_self upd_same l nd (tt.grow (Grow.fillO hp) r) ?_
      rw [e]
      exact q
    | none => rw [hs] at e; cases e
  · cases e
end Mi
set_option Elab.async false
set_option linter.all false
set_option maxRecDepth 100000
set_option maxHeartbeats 4000000
namespace Mi
open PySem PySem.Spec PyProof.Rows L2
def dcGo (ok : Sto → Bool) (g : Tg) (tt : MT) (tk tv : ME) (ρ : Ev) : List MV → List Key → List MV → Sto → R (List Key × List MV)
  | [], ks, ds, S => if ok S then .ok (ks, ds) S else .stk
  | x :: xs, ks, ds, S => if ok S then (match g.f x ρ with
    | some ρ1 => (tt ρ1 S).calm.bind fun b S1 => if b then (tk ρ1 S1).calm.bind fun kd S2 => (match keyV kd with
        | some k => (tv ρ1 S2).calm.bind fun y S3 => dcGo ok g tt tk tv ρ xs (dput ks ds k y).1 (dput ks ds k y).2 S3
        | none => .stk) else dcGo ok g tt tk tv ρ xs ks ds S1
    | none => .stk) else .stk
def mDc (fr : Bool) (vs : List Nat) (mi : Ev → Sto → R Src) (g : Tg) (tt : MT) (tk tv : ME) : ME := fun ρ S => (mi ρ S).bind fun src S1 =>
  if src.items.length ≤ sizeLine then (dcGo (fun S => src.ok S) g tt tk tv (wipeE ρ vs) src.items [] [] S1).bind fun p S2 => mkD fr p.1 p.2 S2 else .stk
/-- what is wanted of the filled dict -/
def DW (D : Addr) (Q : VK) (C0 : RC) : R (List Key × List MV) → Prop
  | .ok p S => ∀ C, Grow C0 (C.rb C0) → (∀ a ∈ C0.bad, a ∈ C.bad) → RepS C S → D ∈ C.bad → ∀ vs, C.H D = some (.dK (p.1.zip vs)) → p.1.length = vs.length → p.1.Nodup → RepVs C p.2 vs → Q (.ref D) C.H
  | _ => False
theorem dcGo_noexc {ok : Sto → Bool} {g : Tg} {tt : MT} {tk tv : ME} {ρ : Ev} : ∀ (xs : List MV) (ks : List Key) (acc : List MV) (S : Sto) (c : Str) (d : MV) (S' : Sto), dcGo ok g tt tk tv ρ xs ks acc S ≠ .exc c d S'
  | [], ks, acc, S, c, d, S', h => by
    unfold dcGo at h
    split at h <;> cases h
  | x :: xs, ks, acc, S, c, d, S', h => by
    unfold dcGo at h
    split at h
    · split at h
      · rename_i ρ1 e1
        cases e : tt ρ1 S with
        | ok b S1 =>
          rw [e] at h
          simp only [R.calm_ok, R.bind_ok] at h
          split at h
          · cases e2 : tk ρ1 S1 with
            | ok y S2 =>
              rw [e2] at h
              simp only [R.calm_ok, R.bind_ok] at h
              split at h
              · cases e3 : tv ρ1 S2 with
                | ok z S3 =>
                  rw [e3] at h
                  simp only [R.calm_ok, R.bind_ok] at h
                  exact dcGo_noexc xs _ _ S3 c d S' h
                | exc c' d' S2 => rw [e3] at h; cases h
                | stk => rw [e3] at h; cases h
              · cases h
            | exc c' d' S2 => rw [e2] at h; cases h
            | stk => rw [e2] at h; cases h
          · exact dcGo_noexc xs _ _ S1 c d S' h
        | exc c' d' S1 => rw [e] at h; cases h
        | stk => rw [e] at h; cases h
      · cases h
    · cases h
theorem dw_end {W : WX} {σ : L2.St} {C0 : RC} {D : Addr} {Q : VK} {fr : Bool} {S0 : Sto} {r : R (List Key × List MV)} (r0 : RepS C0 S0) (hD : C0.H D = none) (hr : ∀ c d S, r ≠ .exc c d S) (h : Wants W σ C0 (r.bind fun p S2 => mkD fr p.1 p.2 S2) (fun d _ C' => ∀ v, RepV C' d v → Q v C'.H)) : DW D Q C0 r := by
  cases r with
  | exc c d S => exact absurd rfl (hr c d S)
  | stk => exact h
  | ok p S => exact fun C g hb rs hbD vs hv l nd rv => dict_end r0 hD g hb rs hbD hv l nd rv h
section
variable {X : Cx} {W : WX} {tg iter kx vx : Expr} {ifs : List Expr} {scope : Scope} {own : List (Str × Nat)} {mi : Ev → Sto → R Src} {g : Tg} {tt : MT} {tk tv : ME} {pos : Pos} {fr : Bool}
theorem dc_imp {σ : L2.St} {H : Hp} {Q : VK} {vs : List Nat} (hix : ∀ i ∈ g.ix, i ∈ vs) (h : tE X W (mDc fr vs mi g tt tk tv) σ H Q) : tDc (tI X W mi) (tG X g) (tT X WNo tt) (tE X WNo tk) (tE X WNo tv) vs σ H Q := by
  obtain ⟨C, ρ, S, e, s, q⟩ := h
  subst e
  refine ⟨C, ρ, S, rfl, s, (Wants.bind q).mono fun src S1 C0 g0 r0 _ q0 J sw D hD => ?_⟩
  have q0 := q0.1
  split at q0
  case isFalse => exact q0.elim
  rename_i hsz
  have lw : DW D Q C0 (dcGo (fun S => src.ok S) g tt tk tv (wipeE ρ vs) src.items [] [] S1) := dw_end r0 hD (dcGo_noexc _ _ _ _) q0
  have s0 : Sv X ρ σ S1 C0 := s.grow g0 r0
  refine ⟨fun i m H' => m = src.items.length - i ∧ i ≤ src.items.length ∧ ∃ C' S' ks acc accv, C'.H = H' ∧ Tr C0.ι.length C0 C' ∧ Grow C0 (C'.rb C0) ∧ (∀ a ∈ C0.bad, a ∈ C'.bad) ∧ RepS C' S' ∧ D ∈ C'.bad ∧ C'.H D = some (.dK (ks.zip accv)) ∧ ks.length = accv.length ∧ ks.Nodup ∧ RepVs C' acc accv ∧ ks.length ≤ i ∧
      DW D Q C0 (dcGo (fun S => src.ok S) g tt tk tv (wipeE ρ vs) (src.items.drop i) ks acc S'), ⟨src.items.length, by simp, Nat.zero_le _, C0.fillO D (.dK []), S1, [], [], [], rfl, (Grow.fillO hD).tr r0, ?_, fun a m => List.mem_cons_of_mem _ m, r0.fillO hD, List.mem_cons_self, (show (C0.fillO D (HO.dK [])).H D = some (.dK (([] : List Key).zip ([] : List V))) from upd_same), rfl, List.nodup_nil, .nil, Nat.le_refl _, lw⟩, ?_⟩
  · exact rb_wr Grow.refl hD
  rintro i m H' ⟨rfl, hi, C1, S', ks, acc, accv, rfl, tr, gr, hb, rs, hbD, hv, hkl, hnd, rv, hl, w⟩
  by_cases hlt : i < src.items.length
  · have ed : src.items.drop i = src.items[i] :: src.items.drop (i + 1) := List.drop_eq_getElem_cons hlt
    rw [ed, dcGo] at w
    by_cases hok : src.ok S' = true
    · rw [if_pos hok] at w
      obtain ⟨k1, k2, k3⟩ := sw C1 S' tr rs hok
      refine .inr ⟨k1 i hlt, fun H'' => (fun i m H' => m = src.items.length - i ∧ i ≤ src.items.length ∧ ∃ C' S' ks acc accv, C'.H = H' ∧ Tr C0.ι.length C0 C' ∧ Grow C0 (C'.rb C0) ∧ (∀ a ∈ C0.bad, a ∈ C'.bad) ∧ RepS C' S' ∧ D ∈ C'.bad ∧ C'.H D = some (.dK (ks.zip accv)) ∧ ks.length = accv.length ∧ ks.Nodup ∧ RepVs C' acc accv ∧ ks.length ≤ i ∧
        DW D Q C0 (dcGo (fun S => src.ok S) g tt tk tv (wipeE ρ vs) (src.items.drop i) ks acc S')) (i + 1) (src.items.length - (i + 1)) H'', fun H'' h => ⟨_, by omega, h⟩, fun x H'' y => ?_⟩
      obtain ⟨C2, d, rfl, g2, r2, e2, rd⟩ := k3 i x H'' hlt y
      rw [List.getElem?_eq_getElem hlt] at e2
      have e3 : src.items[i] = d := Option.some.inj e2
      have g01 : C0.ι.length ≤ C1.ι.length := gr.le'
      have tr2 : Tr C0.ι.length C0 C2 := tr.trans (g2.tr rs) g01
      have ew : EnvR C2 (wipeE ρ vs) (wipe σ vs) := (env_wipe s0.ev s0.ln vs).trn tr2
      have sv2 : Sv X (wipeE ρ vs) (wipe σ vs) S' C2 := ⟨tr2.w.trans s0.w, tr2.K.trans s0.K, r2, ew, by rw [wipeE_len, wipe_length]; exact s0.ln⟩
      have hvn : ∀ {Ca Cb : RC} {Sa : Sto} {us : List (Key × V)}, Grow Ca Cb → RepS Ca Sa → D ∈ Ca.bad → Ca.H D = some (.dK us) → Cb.H D = some (.dK us) ∧ D ∈ Cb.bad := fun {Ca Cb Sa us} x r hb h => ⟨(x.kp _ _ (r.bad D hb).1 h).exact (.inr hb), x.bad' D hb⟩
      cases e4 : g.f src.items[i] (wipeE ρ vs) with
      | none => rw [e4] at w; exact w.elim
      | some ρ1 =>
        rw [e4] at w
        dsimp only at w
        refine ⟨C2, wipeE ρ vs, S', d, ρ1, rfl, sv2, rd, by rw [← e3]; exact e4, fun σ1 ev1 l1 l1' w1 => ⟨by rw [w1 vs hix, wipe_wipe], ?_⟩⟩
        have sv3 : Sv X ρ1 σ1 S' C2 := ⟨sv2.w, sv2.K, r2, ev1, l1⟩
        refine ⟨C2, ρ1, S', rfl, sv3, ?_⟩
        cases e5 : tt ρ1 S' with
        | exc c d S2 => rw [e5] at w; exact w.elim
        | stk => rw [e5] at w; exact w.elim
        | ok b S2 =>
          rw [e5] at w
          simp only [R.calm_ok, R.bind_ok] at w
          intro C3 g3 r3
          have sv4 := sv3.grow g3 r3
          have gr3 : Grow C0 (C3.rb C0) := rb_step (rb_step gr hb g2) (fun a m => g2.bad' a (hb a m)) g3
          have hb3 : ∀ a ∈ C0.bad, a ∈ C3.bad := fun a m => g3.bad' a (g2.bad' a (hb a m))
          have z2 := hvn g2 rs hbD hv
          have z3 := hvn g3 r2 z2.2 z2.1
          have tr3 : Tr C0.ι.length C0 C3 := tr2.trans (g3.tr r2) (Nat.le_trans g01 g2.le')
          have rv3 : RepVs C3 acc accv := (rv.grow g2 rs).grow g3 r2
          cases b with
          | false =>
            rw [if_neg (by decide)] at w
            dsimp only
            rw [if_neg (by decide)]
            exact ⟨rfl, hlt, C3, S2, ks, acc, accv, rfl, tr3, gr3, hb3, r3, z3.2, z3.1, hkl, hnd, rv3, by omega, w⟩
          | true =>
            rw [if_pos rfl] at w
            dsimp only
            rw [if_pos rfl]
            refine ⟨C3, ρ1, S2, rfl, sv4, ?_⟩
            cases e6 : tk ρ1 S2 with
            | exc c d S2 => rw [e6] at w; exact w.elim
            | stk => rw [e6] at w; exact w.elim
            | ok kd S3 =>
              rw [e6] at w
              simp only [R.calm_ok, R.bind_ok] at w
              intro C4 g4 r4 v rvk
              have sv5 := sv4.grow g4 r4
              have z4 := hvn g4 r3 z3.2 z3.1
              have gr4 := rb_step gr3 hb3 g4
              have hb4 : ∀ a ∈ C0.bad, a ∈ C4.bad := fun a m => g4.bad' a (hb3 a m)
              have tr4 : Tr C0.ι.length C0 C4 := tr3.trans (g4.tr r3) (Nat.le_trans g01 (Nat.le_trans g2.le' g3.le'))
              have rv4 : RepVs C4 acc accv := rv3.grow g4 r3
              cases e7 : keyV kd with
              | none => rw [e7] at w; exact w.elim
              | some k =>
                rw [e7] at w
                dsimp only at w
                have ek := keyV_rep rvk e7
                refine ⟨C4, ρ1, S3, rfl, sv5, ?_⟩
                cases e8 : tv ρ1 S3 with
                | exc c d S2 => rw [e8] at w; exact w.elim
                | stk => rw [e8] at w; exact w.elim
                | ok yv S4 =>
                  rw [e8] at w
                  simp only [R.calm_ok, R.bind_ok] at w
                  intro C5 g5 r5 v5 rvv
                  have z5 := hvn g5 r4 z4.2 z4.1
                  have hb5 : ∀ a ∈ C0.bad, a ∈ C5.bad := fun a m => g5.bad' a (hb4 a m)
                  have tr5 : Tr C0.ι.length C0 C5 := tr4.trans (g5.tr r4) (Nat.le_trans g01 (Nat.le_trans g2.le' (Nat.le_trans g3.le' g4.le')))
                  have l5 : C0.ι.length ≤ C5.ι.length := Nat.le_trans g01 (Nat.le_trans g2.le' (Nat.le_trans g3.le' (Nat.le_trans g4.le' g5.le')))
                  have rv5 : RepVs C5 acc accv := rv4.grow g5 r4
                  have wr := Tr.wrG (o := .dK (putK (ks.zip accv) k v5)) r5 z5.2 z5.1 (by simp) (by simp)
                  obtain ⟨accv', ep, hl', nd', rv'⟩ := dput_rep (ks' := (dput ks acc k yv).1) (ds' := (dput ks acc k yv).2) (rv5.trn wr) hkl hnd (rvv.trn wr) rfl
                  have hlp := dput_len (C := C5) (ks := ks) (ds := acc) (k := k) (d := yv) (ks' := (dput ks acc k yv).1) (ds' := (dput ks acc k yv).2) rfl
                  refine ⟨ks.zip accv, k, ek, z5.1, by rw [List.length_zip]; omega, rfl, hlt, C5.put D (.dK (putK (ks.zip accv) k v5)), S4, (dput ks acc k yv).1, (dput ks acc k yv).2, accv', rfl, tr5.trans wr l5, rb_wr (rb_step gr4 hb4 g5) hD, hb5, r5.wrG z5.2 z5.1 (by simp) (by simp), z5.2, by rw [put_same, ep], hl', nd', rv', by omega, w⟩
    · rw [if_neg hok] at w; exact w.elim
  · have e : i = src.items.length := by omega
    subst e
    rw [List.drop_length, dcGo] at w
    by_cases hok : src.ok S' = true
    · rw [if_pos hok] at w
      obtain ⟨k1, k2, k3⟩ := sw C1 S' tr rs hok
      exact .inl ⟨k2, w C1 gr hb rs hbD accv hv hkl hnd rv⟩
    · rw [if_neg hok] at w; exact w.elim
theorem se_dc (hc : X.calm = true) (hN : X.N.Nodup) (hi : SI X W tg iter mi) (ok : BlkOk X.N X.env.scope scope own)
    (hg : ∀ (s : Shared) (H : Hp) (C : Addr) (cl : List (Str × Addr)) (fp : List Addr), SG (X.blk s H scope (compEnvC scope cl C X.env) fp) tg g) (ht : ∀ (s : Shared) (H : Hp) (C : Addr) (cl : List (Str × Addr)) (fp : List Addr), STs (X.blk s H scope (compEnvC scope cl C X.env) fp) WNo ifs tt)
    (hk : ∀ (s : Shared) (H : Hp) (C : Addr) (cl : List (Str × Addr)) (fp : List Addr), SE (X.blk s H scope (compEnvC scope cl C X.env) fp) WNo kx tk)
    (he : ∀ (s : Shared) (H : Hp) (C : Addr) (cl : List (Str × Addr)) (fp : List Addr), SE (X.blk s H scope (compEnvC scope cl C X.env) fp) WNo vx tv) (hix : ∀ i ∈ g.ix, i ∈ own.map (·.2)) (hs : ∀ x, foldedSetIterable iter X.env x = pure x := by intro _; rfl) :
    SE X W (.DictComp kx vx [⟨tg, iter, ifs, 0⟩] scope pos) (mDc fr (own.map (·.2)) mi g tt tk tv) :=
  (pe_dc hc hN hi ok (g := tG X g) (fun s H C cl fp => (hg s H C cl fp).imp fun v σ H Q h => tG.blk h) (fun s H C cl fp => (ht s H C cl fp).imp fun σ H Q h => tT.blk h) (fun s H C cl fp => (hk s H C cl fp).imp fun σ H Q h => tE.blk h) (fun s H C cl fp => (he s H C cl fp).imp fun σ H Q h => tE.blk h) hs).imp fun σ H Q h => dc_imp hix h
end
def lc2Go (ok : Sto → Bool) (g : Tg) (tt : MT) (mi1 : Ev → Sto → R Src) (vs1 : List Nat) (g1 : Tg) (tt1 : MT) (te : ME) (ρ : Ev) : List MV → List MV → Sto → R (List MV)
  | [], acc, S => if ok S then .ok acc S else .stk
  | x :: xs, acc, S => if ok S then (match g.f x ρ with
    | some ρ1 => (tt ρ1 S).calm.bind fun b S1 => if b then (mi1 ρ1 S1).calm.bind fun src1 S2 =>
        if acc.length + src1.items.length ≤ sizeLine then (lcGo (fun S => src1.ok S) g1 tt1 te (wipeE ρ1 vs1) src1.items acc S2).bind fun acc' S3 => lc2Go ok g tt mi1 vs1 g1 tt1 te ρ xs acc' S3 else .stk
      else lc2Go ok g tt mi1 vs1 g1 tt1 te ρ xs acc S1
    | none => .stk) else .stk
def mLc2 (fr : Bool) (vs vs1 : List Nat) (mi : Ev → Sto → R Src) (g : Tg) (tt : MT) (mi1 : Ev → Sto → R Src) (g1 : Tg) (tt1 : MT) (te : ME) : ME := fun ρ S => (mi ρ S).bind fun src S1 =>
  (lc2Go (fun S => src.ok S) g tt mi1 vs1 g1 tt1 te (wipeE ρ vs) src.items [] S1).bind (mkL fr)
theorem lc2Go_noexc {ok : Sto → Bool} {g : Tg} {tt : MT} {mi1 : Ev → Sto → R Src} {vs1 : List Nat} {g1 : Tg} {tt1 : MT} {te : ME} {ρ : Ev} : ∀ (xs acc : List MV) (S : Sto) (c : Str) (d : MV) (S' : Sto), lc2Go ok g tt mi1 vs1 g1 tt1 te ρ xs acc S ≠ .exc c d S'
  | [], acc, S, c, d, S', h => by
    unfold lc2Go at h
    split at h <;> cases h
  | x :: xs, acc, S, c, d, S', h => by
    unfold lc2Go at h
    split at h
    · split at h
      · rename_i ρ1 e1
        cases e : tt ρ1 S with
        | ok b S1 =>
          rw [e] at h
          simp only [R.calm_ok, R.bind_ok] at h
          split at h
          · cases e2 : mi1 ρ1 S1 with
            | ok src S2 =>
              rw [e2] at h
              simp only [R.calm_ok, R.bind_ok] at h
              split at h
              · cases e3 : lcGo (fun S => src.ok S) g1 tt1 te (wipeE ρ1 vs1) src.items acc S2 with
                | ok acc' S3 =>
                  rw [e3] at h
                  exact lc2Go_noexc xs _ S3 c d S' h
                | exc c' d' S3 => exact lcGo_noexc _ _ _ _ _ _ e3
                | stk => rw [e3] at h; cases h
              · cases h
            | exc c' d' S2 => rw [e2] at h; cases h
            | stk => rw [e2] at h; cases h
          · exact lc2Go_noexc xs _ S1 c d S' h
        | exc c' d' S1 => rw [e] at h; cases h
        | stk => rw [e] at h; cases h
      · cases h
    · cases h
theorem Tr.le {C C' : RC} (x : Tr C.ι.length C C') : C.ι.length ≤ C'.ι.length := by
  by_cases h : C.ι.length = 0
  · omega
  · have hl : C.ι.length - 1 < C.ι.length := by omega
    have := (List.getElem?_eq_some_iff.mp (x.ref (C.ι.length - 1) _ hl (List.getElem?_eq_getElem hl))).1
    omega
/-- the list D is being filled, C0 the state at its start -/
structure Fl (C0 : RC) (D : Addr) (C : RC) (S : Sto) (acc : List MV) (accv : List V) : Prop where
  tr : Tr C0.ι.length C0 C
  gr : Grow C0 (C.rb C0)
  hb : ∀ a ∈ C0.bad, a ∈ C.bad
  rs : RepS C S
  hbD : D ∈ C.bad
  hv : C.H D = some (.lst accv)
  rv : RepVs C acc accv
theorem Fl.grow {C0 C C' : RC} {D : Addr} {S S' : Sto} {acc : List MV} {accv : List V} (f : Fl C0 D C S acc accv) (g : Grow C C') (r : RepS C' S') : Fl C0 D C' S' acc accv where
  tr := f.tr.trans (g.tr f.rs) f.gr.le'
  gr := rb_step f.gr f.hb g
  hb := fun a m => g.bad' a (f.hb a m)
  rs := r
  hbD := g.bad' D f.hbD
  hv := (g.kp _ _ (f.rs.bad D f.hbD).1 f.hv).exact (.inr f.hbD)
  rv := f.rv.grow g f.rs
theorem Fl.app {C0 C : RC} {D : Addr} {S : Sto} {acc : List MV} {accv : List V} {d : MV} {v : V} (f : Fl C0 D C S acc accv) (hD : C0.H D = none) (rv : RepV C d v) : Fl C0 D (C.put D (.lst (accv ++ [v]))) S (acc ++ [d]) (accv ++ [v]) := by
  have wr := Tr.wr (vs := accv ++ [v]) f.rs f.hbD f.hv
  exact ⟨f.tr.trans wr f.gr.le', rb_wr f.gr hD, f.hb, f.rs.wr f.hbD f.hv, f.hbD, put_same, (f.rv.trn wr).append (.cons (rv.trn wr) .nil)⟩
theorem Fl.le {C0 C : RC} {D : Addr} {S : Sto} {acc : List MV} {accv : List V} (f : Fl C0 D C S acc accv) : C0.ι.length ≤ C.ι.length := f.gr.le'
section
variable {X : Cx} {W : WX} {tg iter tg1 iter1 elt : Expr} {ifs ifs1 : List Expr} {scope : Scope} {own : List (Str × Nat)} {mi mi1 : Ev → Sto → R Src} {g g1 : Tg} {tt tt1 : MT} {te : ME} {pos : Pos} {fr : Bool} {vs1 : List Nat}
/-- the inner loop: C0 the state at the list's start, Cb that at this loop's -/
theorem in_imp {C0 Cb : RC} {D : Addr} {ρ1 : Ev} {σ1 : L2.St} {src : Src} {J : It} {S2 : Sto} {acc : List MV} {accv : List V} {Nx : Hp → Prop} (sw : SrcW X src J Cb) (sb : Sv X ρ1 σ1 S2 Cb) (f : Fl C0 D Cb S2 acc accv) (hD : C0.H D = none)
    (hsz : acc.length + src.items.length ≤ sizeLine) (hix : ∀ i ∈ g1.ix, i ∈ vs1)
    (w : match lcGo (fun S => src.ok S) g1 tt1 te (wipeE ρ1 vs1) src.items acc S2 with
      | .ok acc' S' => ∀ C' accv', Fl C0 D C' S' acc' accv' → acc'.length ≤ sizeLine → Nx C'.H
      | _ => False) :
    ∃ W1 : Nat → Nat → Hp → Prop, (∃ m, W1 0 m Cb.H) ∧ ∀ j k H, W1 j k H → (J.stop j H ∧ Nx H) ∨ (J.go j H ∧ ∃ Nx1 : Hp → Prop, (∀ H', Nx1 H' → ∃ k', k' < k ∧ W1 (j + 1) k' H') ∧ ∀ x H', J.yld j H x H' → tG X g1 x (wipe σ1 vs1) H' fun σ3 H5 => wipe σ3 vs1 = wipe σ1 vs1 ∧ tT X WNo tt1 σ3 H5 fun b H6 =>
      if b = true then tE X WNo te σ3 H6 fun y H7 => ∃ acc, H7 D = some (.lst acc) ∧ acc.length < sizeLine ∧ Nx1 (upd H7 D (.lst (acc ++ [y]))) else Nx1 H6) := by
  refine ⟨fun i m H' => m = src.items.length - i ∧ i ≤ src.items.length ∧ ∃ C' S' acc' accv', C'.H = H' ∧ Tr Cb.ι.length Cb C' ∧ Fl C0 D C' S' acc' accv' ∧ acc'.length ≤ acc.length + i ∧
      (match lcGo (fun S => src.ok S) g1 tt1 te (wipeE ρ1 vs1) (src.items.drop i) acc' S' with
        | .ok acc' S' => ∀ C' accv', Fl C0 D C' S' acc' accv' → acc'.length ≤ sizeLine → Nx C'.H
        | _ => False), ⟨src.items.length, by simp, Nat.zero_le _, Cb, S2, acc, accv, rfl, Tr.refl, f, Nat.le_refl _, w⟩, ?_⟩
  rintro i m H' ⟨rfl, hi, C1, S', acc', accv', rfl, tr, f1, hl, w⟩
  by_cases hlt : i < src.items.length
  · have ed : src.items.drop i = src.items[i] :: src.items.drop (i + 1) := List.drop_eq_getElem_cons hlt
    rw [ed, lcGo] at w
    by_cases hok : src.ok S' = true
    · rw [if_pos hok] at w
      obtain ⟨k1, k2, k3⟩ := sw C1 S' tr f1.rs hok
      refine .inr ⟨k1 i hlt, fun H'' => (fun i m H' => m = src.items.length - i ∧ i ≤ src.items.length ∧ ∃ C' S' acc' accv', C'.H = H' ∧ Tr Cb.ι.length Cb C' ∧ Fl C0 D C' S' acc' accv' ∧ acc'.length ≤ acc.length + i ∧
        (match lcGo (fun S => src.ok S) g1 tt1 te (wipeE ρ1 vs1) (src.items.drop i) acc' S' with
          | .ok acc' S' => ∀ C' accv', Fl C0 D C' S' acc' accv' → acc'.length ≤ sizeLine → Nx C'.H
          | _ => False)) (i + 1) (src.items.length - (i + 1)) H'', fun H'' h => ⟨_, by omega, h⟩, fun x H'' y => ?_⟩
      obtain ⟨C2, d, rfl, g2, r2, e2, rd⟩ := k3 i x H'' hlt y
      rw [List.getElem?_eq_getElem hlt] at e2
      have e3 : src.items[i] = d := Option.some.inj e2
      have f2 := f1.grow g2 r2
      have l01 : Cb.ι.length ≤ C1.ι.length := tr.le
      have tr2 : Tr Cb.ι.length Cb C2 := tr.trans (g2.tr f1.rs) l01
      have ew : EnvR C2 (wipeE ρ1 vs1) (wipe σ1 vs1) := (env_wipe sb.ev sb.ln vs1).trn tr2
      have sv2 : Sv X (wipeE ρ1 vs1) (wipe σ1 vs1) S' C2 := ⟨tr2.w.trans sb.w, tr2.K.trans sb.K, r2, ew, by rw [wipeE_len, wipe_length]; exact sb.ln⟩
      cases e4 : g1.f src.items[i] (wipeE ρ1 vs1) with
      | none => rw [e4] at w; exact w.elim
      | some ρ2 =>
        rw [e4] at w
        dsimp only at w
        refine ⟨C2, wipeE ρ1 vs1, S', d, ρ2, rfl, sv2, rd, by rw [← e3]; exact e4, fun σ2 ev2 l2 l2' w2 => ⟨by rw [w2 vs1 hix, wipe_wipe], ?_⟩⟩
        have sv3 : Sv X ρ2 σ2 S' C2 := ⟨sv2.w, sv2.K, r2, ev2, l2⟩
        refine ⟨C2, ρ2, S', rfl, sv3, ?_⟩
        cases e5 : tt1 ρ2 S' with
        | exc c d S2 => rw [e5] at w; exact w.elim
        | stk => rw [e5] at w; exact w.elim
        | ok b S2 =>
          rw [e5] at w
          simp only [R.calm_ok, R.bind_ok] at w
          intro C3 g3 r3
          have sv4 := sv3.grow g3 r3
          have f3 := f2.grow g3 r3
          have tr3 : Tr Cb.ι.length Cb C3 := tr2.trans (g3.tr r2) (Nat.le_trans l01 g2.le')
          cases b with
          | false =>
            rw [if_neg (by decide)] at w
            dsimp only
            rw [if_neg (by decide)]
            exact ⟨rfl, hlt, C3, S2, acc', accv', rfl, tr3, f3, by omega, w⟩
          | true =>
            rw [if_pos rfl] at w
            dsimp only
            rw [if_pos rfl]
            refine ⟨C3, ρ2, S2, rfl, sv4, ?_⟩
            cases e6 : te ρ2 S2 with
            | exc c d S2 => rw [e6] at w; exact w.elim
            | stk => rw [e6] at w; exact w.elim
            | ok yv S3 =>
              rw [e6] at w
              simp only [R.calm_ok, R.bind_ok] at w
              intro C4 g4 r4 v rvv
              have f4 := f3.grow g4 r4
              have tr4 : Tr Cb.ι.length Cb C4 := tr3.trans (g4.tr r3) (Nat.le_trans l01 (Nat.le_trans g2.le' g3.le'))
              have wr := Tr.wr (vs := accv' ++ [v]) f4.rs f4.hbD f4.hv
              refine ⟨accv', f4.hv, by rw [← f4.rv.length]; omega, rfl, hlt, C4.put D (.lst (accv' ++ [v])), S3, acc' ++ [yv], accv' ++ [v], rfl, tr4.trans wr (Nat.le_trans l01 (Nat.le_trans g2.le' (Nat.le_trans g3.le' g4.le'))), f4.app hD rvv, by simp; omega, w⟩
    · rw [if_neg hok] at w; exact w.elim
  · have e : i = src.items.length := by omega
    subst e
    rw [List.drop_length, lcGo] at w
    by_cases hok : src.ok S' = true
    · rw [if_pos hok] at w
      obtain ⟨k1, k2, k3⟩ := sw C1 S' tr f1.rs hok
      exact .inl ⟨k2, w C1 accv' f1 (by omega)⟩
    · rw [if_neg hok] at w; exact w.elim
theorem tI.blk {s0 : Shared} {H0 : Hp} {sc : Scope} {ce : Env} {fp : List Addr} {m : Ev → Sto → R Src} {σ : L2.St} {H : Hp} {Q : It → Hp → Prop} (h : tI X W m σ H Q) : tI (X.blk s0 H0 sc ce fp) W m σ H Q := by
  obtain ⟨C, ρ, S, e, s, q⟩ := h
  exact ⟨C, ρ, S, e, ⟨s.w, s.K, s.rs, s.ev, s.ln⟩, q⟩
theorem lc2_imp {σ : L2.St} {H : Hp} {Q : VK} {vs : List Nat} (hix : ∀ i ∈ g.ix, i ∈ vs) (hix1 : ∀ i ∈ g1.ix, i ∈ vs1) (h : tE X W (mLc2 fr vs vs1 mi g tt mi1 g1 tt1 te) σ H Q) : tLc2 (tI X W mi) (tG X g) (tT X WNo tt) (tI X WNo mi1) (tG X g1) (tT X WNo tt1) (tE X WNo te) vs vs1 σ H Q := by
  obtain ⟨C, ρ, S, e, s, q⟩ := h
  subst e
  refine ⟨C, ρ, S, rfl, s, (Wants.bind q).mono fun src S1 C0 g0 r0 _ q0 J sw D hD => ?_⟩
  have q0 := q0.1
  have lw : LW D Q fr C0 (lc2Go (fun S => src.ok S) g tt mi1 vs1 g1 tt1 te (wipeE ρ vs) src.items [] S1) := lw_end r0 hD (lc2Go_noexc _ _ _) q0
  have s0 : Sv X ρ σ S1 C0 := s.grow g0 r0
  refine ⟨fun i m H' => m = src.items.length - i ∧ i ≤ src.items.length ∧ ∃ C' S' acc accv, C'.H = H' ∧ Fl C0 D C' S' acc accv ∧ acc.length ≤ sizeLine ∧
      LW D Q fr C0 (lc2Go (fun S => src.ok S) g tt mi1 vs1 g1 tt1 te (wipeE ρ vs) (src.items.drop i) acc S'), ⟨src.items.length, by simp, Nat.zero_le _, C0.fill D, S1, [], [], rfl, ⟨(Grow.fill hD).tr r0, ?_, fun a m => List.mem_cons_of_mem _ m, r0.fill hD, List.mem_cons_self, upd_same, .nil⟩, Nat.zero_le _, lw⟩, ?_⟩
  · exact rb_wr Grow.refl hD
  rintro i m H' ⟨rfl, hi, C1, S', acc, accv, rfl, f1, hl, w⟩
  by_cases hlt : i < src.items.length
  · have ed : src.items.drop i = src.items[i] :: src.items.drop (i + 1) := List.drop_eq_getElem_cons hlt
    rw [ed, lc2Go] at w
    by_cases hok : src.ok S' = true
    · rw [if_pos hok] at w
      obtain ⟨k1, k2, k3⟩ := sw C1 S' f1.tr f1.rs hok
      refine .inr ⟨k1 i hlt, fun H'' => (fun i m H' => m = src.items.length - i ∧ i ≤ src.items.length ∧ ∃ C' S' acc accv, C'.H = H' ∧ Fl C0 D C' S' acc accv ∧ acc.length ≤ sizeLine ∧
        LW D Q fr C0 (lc2Go (fun S => src.ok S) g tt mi1 vs1 g1 tt1 te (wipeE ρ vs) (src.items.drop i) acc S')) (i + 1) (src.items.length - (i + 1)) H'', fun H'' h => ⟨_, by omega, h⟩, fun x H'' y => ?_⟩
      obtain ⟨C2, d, rfl, g2, r2, e2, rd⟩ := k3 i x H'' hlt y
      rw [List.getElem?_eq_getElem hlt] at e2
      have e3 : src.items[i] = d := Option.some.inj e2
      have f2 := f1.grow g2 r2
      have ew : EnvR C2 (wipeE ρ vs) (wipe σ vs) := (env_wipe s0.ev s0.ln vs).trn f2.tr
      have sv2 : Sv X (wipeE ρ vs) (wipe σ vs) S' C2 := ⟨f2.tr.w.trans s0.w, f2.tr.K.trans s0.K, r2, ew, by rw [wipeE_len, wipe_length]; exact s0.ln⟩
      cases e4 : g.f src.items[i] (wipeE ρ vs) with
      | none => rw [e4] at w; exact w.elim
      | some ρ1 =>
        rw [e4] at w
        dsimp only at w
        refine ⟨C2, wipeE ρ vs, S', d, ρ1, rfl, sv2, rd, by rw [← e3]; exact e4, fun σ1 ev1 l1 l1' w1 => ⟨by rw [w1 vs hix, wipe_wipe], ?_⟩⟩
        have sv3 : Sv X ρ1 σ1 S' C2 := ⟨sv2.w, sv2.K, r2, ev1, l1⟩
        refine ⟨C2, ρ1, S', rfl, sv3, ?_⟩
        cases e5 : tt ρ1 S' with
        | exc c d S2 => rw [e5] at w; exact w.elim
        | stk => rw [e5] at w; exact w.elim
        | ok b S2 =>
          rw [e5] at w
          simp only [R.calm_ok, R.bind_ok] at w
          intro C3 g3 r3
          have sv4 := sv3.grow g3 r3
          have f3 := f2.grow g3 r3
          cases b with
          | false =>
            rw [if_neg (by decide)] at w
            dsimp only
            rw [if_neg (by decide)]
            exact ⟨rfl, hlt, C3, S2, acc, accv, rfl, f3, hl, w⟩
          | true =>
            rw [if_pos rfl] at w
            dsimp only
            rw [if_pos rfl]
            refine ⟨C3, ρ1, S2, rfl, sv4, ?_⟩
            cases e6 : mi1 ρ1 S2 with
            | exc c d S2 => rw [e6] at w; exact w.elim
            | stk => rw [e6] at w; exact w.elim
            | ok src1 S3 =>
              rw [e6] at w
              simp only [R.calm_ok, R.bind_ok] at w
              intro C4 g4 r4 J1 sw1
              have f4 := f3.grow g4 r4
              have sv5 := sv4.grow g4 r4
              by_cases hsz : acc.length + src1.items.length ≤ sizeLine
              · rw [if_pos hsz] at w
                refine in_imp sw1 sv5 f4 hD hsz hix1 ?_
                cases e7 : lcGo (fun S => src1.ok S) g1 tt1 te (wipeE ρ1 vs1) src1.items acc S3 with
                | exc c d S2 => exact absurd e7 (lcGo_noexc _ _ _ _ _ _)
                | stk => rw [e7] at w; exact w.elim
                | ok acc' S4 =>
                  rw [e7] at w
                  simp only [R.bind_ok] at w
                  exact fun C' accv' f' hl' => ⟨rfl, hlt, C', S4, acc', accv', rfl, f', hl', w⟩
              · rw [if_neg hsz] at w; exact w.elim
    · rw [if_neg hok] at w; exact w.elim
  · have e : i = src.items.length := by omega
    subst e
    rw [List.drop_length, lc2Go] at w
    by_cases hok : src.ok S' = true
    · rw [if_pos hok] at w
      obtain ⟨k1, k2, k3⟩ := sw C1 S' f1.tr f1.rs hok
      exact .inl ⟨k2, w C1 f1.gr f1.hb f1.rs f1.hbD accv f1.hv f1.rv⟩
    · rw [if_neg hok] at w; exact w.elim
theorem se_lc2 (hc : X.calm = true) (hN : X.N.Nodup) (hi : SI X W tg iter mi) (ok : BlkOk X.N X.env.scope scope own) (hv : ∀ i ∈ vs1, i ∈ own.map (·.2))
    (hg : ∀ (s : Shared) (H : Hp) (C : Addr) (cl : List (Str × Addr)) (fp : List Addr), SG (X.blk s H scope (compEnvC scope cl C X.env) fp) tg g) (ht : ∀ (s : Shared) (H : Hp) (C : Addr) (cl : List (Str × Addr)) (fp : List Addr), STs (X.blk s H scope (compEnvC scope cl C X.env) fp) WNo ifs tt)
    (hi1 : ∀ (s : Shared) (H : Hp) (C : Addr) (cl : List (Str × Addr)) (fp : List Addr), SI (X.blk s H scope (compEnvC scope cl C X.env) fp) WNo tg1 iter1 mi1)
    (hg1 : ∀ (s : Shared) (H : Hp) (C : Addr) (cl : List (Str × Addr)) (fp : List Addr), SG (X.blk s H scope (compEnvC scope cl C X.env) fp) tg1 g1) (ht1 : ∀ (s : Shared) (H : Hp) (C : Addr) (cl : List (Str × Addr)) (fp : List Addr), STs (X.blk s H scope (compEnvC scope cl C X.env) fp) WNo ifs1 tt1)
    (he : ∀ (s : Shared) (H : Hp) (C : Addr) (cl : List (Str × Addr)) (fp : List Addr), SE (X.blk s H scope (compEnvC scope cl C X.env) fp) WNo elt te) (hix : ∀ i ∈ g.ix, i ∈ own.map (·.2)) (hix1 : ∀ i ∈ g1.ix, i ∈ vs1) (hs : ∀ x, foldedSetIterable iter X.env x = pure x := by intro _; rfl) (hs1 : ∀ env x, foldedSetIterable iter1 env x = pure x := by intro _ _; rfl) :
    SE X W (.ListComp elt [⟨tg, iter, ifs, 0⟩, ⟨tg1, iter1, ifs1, 0⟩] scope pos) (mLc2 fr (own.map (·.2)) vs1 mi g tt mi1 g1 tt1 te) :=
  (pe_lc2 hc hN hi ok hv (g := tG X g) (g1 := tG X g1) (wi1 := tI X WNo mi1) (fun s H C cl fp => (hg s H C cl fp).imp fun v σ H Q h => tG.blk h) (fun s H C cl fp => (ht s H C cl fp).imp fun σ H Q h => tT.blk h)
    (fun s H C cl fp => (hi1 s H C cl fp).imp fun σ H Q h => tI.blk h) (fun s H C cl fp => (hg1 s H C cl fp).imp fun v σ H Q h => tG.blk h) (fun s H C cl fp => (ht1 s H C cl fp).imp fun σ H Q h => tT.blk h) (fun s H C cl fp => (he s H C cl fp).imp fun σ H Q h => tE.blk h) hs hs1).imp fun σ H Q h => lc2_imp hix hix1 h
end
end Mi
set_option Elab.async false
set_option linter.all false
set_option maxRecDepth 100000
set_option maxHeartbeats 4000000
namespace Mi
open PySem PySem.Spec PyProof.Rows L2
theorem sss_stk {X : Cx} {W : WX} {sts : List Stmt} : SSs X W sts mStk := pss_never.imp fun D σ H ⟨C, ρ, S, e, s, q⟩ => q.elim
theorem pu_over {f : List Bool → Bool} : Pure1 (overBl f) := by
  intro ds S c d S' h
  unfold overBl at h
  split at h
  · split at h
    · split at h
      · cases h
      · cases h
    · cases h
  · cases h
theorem pu_any : Pure1 anyM := pu_over
theorem pu_all : Pure1 allM := pu_over
theorem pu_sum : Pure1 sumM := by
  intro ds S c d S' h
  unfold sumM at h
  split at h
  · split at h
    · split at h
      · cases h
      · cases h
    · cases h
  · cases h
theorem pu_max : Pure1 maxM := by
  intro ds S c d S' h
  unfold maxM at h
  split at h <;> cases h
end Mi
set_option Elab.async false
set_option linter.all false
set_option maxRecDepth 100000
set_option maxHeartbeats 2000000
namespace Mi
open PySem PySem.Spec PyProof.Rows L2
end Mi
set_option Elab.async false
set_option linter.all false
set_option maxRecDepth 100000
set_option maxHeartbeats 2000000
namespace Mi
open PySem PySem.Spec PyProof.Rows L2
mutual
def nk : MV → NestedKey
  | .bl b => .num (if b then 1 else 0)
  | .int i => .num i
  | .str x => .text x
  | .tup xs => .tup (nks xs)
  | _ => .none
def nks : List MV → List NestedKey
  | [] => []
  | x :: xs => nk x :: nks xs
end
theorem nks_map : ∀ xs : List MV, nks xs = xs.map nk
  | [] => rfl
  | x :: xs => by rw [nks, nks_map xs]; rfl
mutual
def unk : NestedKey → MV
  | .none => .non
  | .num i => .int i
  | .text x => .str x
  | .tup ks => .tup (unks ks)
def unks : List NestedKey → List MV
  | [] => []
  | x :: xs => unk x :: unks xs
end
mutual
theorem unk_nk : ∀ k : MV, keyOk k = true → unk (nk k) = canon k
  | .non, _ => rfl
  | .bl _, _ => rfl
  | .int _, _ => rfl
  | .str _, _ => rfl
  | .tup xs, h => by rw [nk, unk, canon, unks_nks xs (by simpa [keyOk] using h)]
  | .lst _, h => by simp [keyOk] at h
  | .dct _ _, h => by simp [keyOk] at h
  | .dcT _ _, h => by simp [keyOk] at h
  | .obj _ _ _, h => by simp [keyOk] at h
  | .ref _, h => by simp [keyOk] at h
  | .kls _, h => by simp [keyOk] at h
  | .ptp _, h => by simp [keyOk] at h
theorem unks_nks : ∀ ks : List MV, keyOks ks = true → unks (nks ks) = canons ks
  | [], _ => rfl
  | k :: ks, h => by
    rw [keyOks, Bool.and_eq_true] at h
    rw [nks, unks, canons, unk_nk k h.1, unks_nks ks h.2]
end
mutual
theorem nk_canon : ∀ k : MV, nk (canon k) = nk k
  | .bl _ => rfl
  | .non => rfl
  | .int _ => rfl
  | .str _ => rfl
  | .tup xs => by rw [canon, nk, nk, nks_canons xs]
  | .lst _ => rfl
  | .dct _ _ => rfl
  | .dcT _ _ => rfl
  | .obj _ _ _ => rfl
  | .ref _ => rfl
  | .kls _ => rfl
  | .ptp _ => rfl
theorem nks_canons : ∀ ks : List MV, nks (canons ks) = nks ks
  | [] => rfl
  | k :: ks => by rw [canons, nks, nks, nk_canon k, nks_canons ks]
end
theorem nk_eq {a b : MV} (ha : keyOk a = true) (hb : keyOk b = true) : nk a = nk b ↔ canon a = canon b := by
  constructor
  · intro h; rw [← unk_nk a ha, ← unk_nk b hb, h]
  · intro h; rw [← nk_canon a, ← nk_canon b, h]
mutual
theorem hash_nk (w : World) : ∀ k : MV, keyOk k = true → hashK w k = (nk k).hash w
  | .non, _ => by show hashK w .non = NestedKey.hash w .none; rfl
  | .bl _, _ => rfl
  | .int _, _ => rfl
  | .str _, _ => rfl
  | .tup xs, h => by rw [hashK, nk, NestedKey.hash, hashes_nks w xs (by simpa [keyOk] using h)]
  | .lst _, h => by simp [keyOk] at h
  | .dct _ _, h => by simp [keyOk] at h
  | .dcT _ _, h => by simp [keyOk] at h
  | .obj _ _ _, h => by simp [keyOk] at h
  | .ref _, h => by simp [keyOk] at h
  | .kls _, h => by simp [keyOk] at h
  | .ptp _, h => by simp [keyOk] at h
theorem hashes_nks (w : World) : ∀ ks : List MV, keyOks ks = true → hashKs w ks = NestedKey.hashes w (nks ks)
  | [], _ => rfl
  | k :: ks, h => by
    rw [keyOks, Bool.and_eq_true] at h
    rw [hashKs, nks, NestedKey.hashes, hash_nk w k h.1, hashes_nks w ks h.2]
end
mutual
theorem dep_nk : ∀ k : MV, (nk k).depth = kdep k
  | .bl _ => rfl
  | .non => rfl
  | .int _ => rfl
  | .str _ => rfl
  | .tup xs => by rw [nk, NestedKey.depth, kdep, deps_nks xs]
  | .lst _ => rfl
  | .dct _ _ => rfl
  | .dcT _ _ => rfl
  | .obj _ _ _ => rfl
  | .ref _ => rfl
  | .kls _ => rfl
  | .ptp _ => rfl
theorem deps_nks : ∀ ks : List MV, NestedKey.depthAll (nks ks) = kdeps ks
  | [] => rfl
  | k :: ks => by rw [nks, NestedKey.depthAll, kdeps, dep_nk k, deps_nks ks]
end
section
variable {X : Cx} {pins : List (Addr × Obj)} {s : Shared} {σ : L2.St} {C : RC}
mutual
theorem nis_of (I : Inv X pins σ C.H s) (hK : C.K = X.K) : ∀ (k : MV) (v : V) (u : Value), keyOk k = true → RepV C k v → RelV v u → NestedIs s.heap (nk k) u
  | .non, v, u, _, h, r => by rw [RepV] at h; subst h; cases r; exact .none
  | .bl b, v, u, _, h, r => by rw [RepV] at h; subst h; cases r; exact .bool rfl
  | .int i, v, u, _, h, r => by
    rw [RepV] at h; subst h
    obtain ⟨t, rfl⟩ := r
    exact .int i t
  | .str x, v, u, _, h, r => by
    rw [RepV] at h; subst h
    obtain ⟨t, rfl⟩ := r
    exact .text x t
  | .tup xs, v, u, hk, h, r => by
    rw [RepV] at h
    obtain ⟨a, vs, rfl, hq, t⟩ := h
    cases r
    rw [hK] at hq
    obtain ⟨its, rv, ht, _⟩ := I.tuple hq
    obtain ⟨o, ho, hc, n, hd⟩ := (show s.heap.IsTuple a its.toArray from ht)
    rw [nk]
    exact .tup ho hc hd (by simpa using nall_of I hK xs vs its (by simpa [keyOk] using hk) t rv)
  | .lst _, _, _, h, _, _ => by simp [keyOk] at h
  | .dct _ _, _, _, h, _, _ => by simp [keyOk] at h
  | .dcT _ _, _, _, h, _, _ => by simp [keyOk] at h
  | .obj _ _ _, _, _, h, _, _ => by simp [keyOk] at h
  | .ref _, _, _, h, _, _ => by simp [keyOk] at h
  | .kls _, _, _, h, _, _ => by simp [keyOk] at h
  | .ptp _, _, _, h, _, _ => by simp [keyOk] at h
theorem nall_of (I : Inv X pins σ C.H s) (hK : C.K = X.K) : ∀ (ks : List MV) (vs : List V) (us : List Value), keyOks ks = true → RepVs C ks vs → Vals vs us → NestedAll s.heap (nks ks) us
  | [], vs, us, _, h, r => by rw [h.nil_inv] at r; cases r; exact .nil
  | k :: ks, vs, us, hk, h, r => by
    obtain ⟨v, vr, rfl, h1, h2⟩ := h.cons_inv
    cases r with
    | cons r rr =>
      rw [keyOks, Bool.and_eq_true] at hk
      exact .cons (nis_of I hK k v _ hk.1 h1 r) (nall_of I hK ks vr _ hk.2 h2 rr)
end
end
def zipH : List MV → List Addr → List Value → List (NestedKey × Addr × Value)
  | k :: ks, p :: ps, u :: us => (nk k, p, u) :: zipH ks ps us
  | _, _, _ => []
theorem ents_zip {P : Program} {w : World} : ∀ (ks : List MV) (ps : List Addr) (us : List Value), keyOks ks = true → entsOf w ks ps us = (zipH ks ps us).map (entryOfKey (nestedKind P w))
  | [], ps, us, _ => rfl
  | _ :: _, [], us, _ => rfl
  | _ :: _, _ :: _, [], _ => rfl
  | k :: ks, p :: ps, u :: us, h => by
    rw [keyOks, Bool.and_eq_true] at h
    rw [entsOf, zipH, List.map_cons, ents_zip ks ps us h.2, hash_nk w k h.1]; rfl
theorem zip_keys : ∀ (ks : List MV) (ps : List Addr) (us : List Value), ks.length = ps.length → ks.length = us.length → (zipH ks ps us).map (·.1) = nks ks
  | [], ps, us, _, _ => by cases ps <;> rfl
  | _ :: _, [], us, h, _ => by simp at h
  | _ :: _, _ :: _, [], _, h => by simp at h
  | k :: ks, p :: ps, u :: us, h, h' => by
    rw [zipH, List.map_cons, nks, zip_keys ks ps us (by simpa using h) (by simpa using h')]
theorem nodup_nks {ks : List MV} (h : keyOks ks = true) (nd : (canons ks).Nodup) : (nks ks).Nodup := by
  have : ∀ ks : List MV, keyOks ks = true → (canons ks).Nodup → (nks ks).Nodup := by
    intro ks
    induction ks with
    | nil => intro _ _; exact List.nodup_nil
    | cons k ks ih =>
      intro h nd
      rw [keyOks, Bool.and_eq_true] at h
      rw [canons, List.nodup_cons] at nd
      rw [nks, List.nodup_cons]
      refine ⟨fun hm => nd.1 ?_, ih h.2 nd.2⟩
      rw [nks_map, List.mem_map] at hm
      obtain ⟨x, hx, e⟩ := hm
      have hxk : keyOk x = true := by
        have : ∀ ks : List MV, keyOks ks = true → ∀ x ∈ ks, keyOk x = true := by
          intro ks
          induction ks with
          | nil => intro _ x hx; cases hx
          | cons y ys ih =>
            intro h x hx
            rw [keyOks, Bool.and_eq_true] at h
            obtain e | e := List.mem_cons.mp hx
            · rw [e]; exact h.1
            · exact ih h.2 x e
        exact this ks h.2 x hx
      rw [← (nk_eq hxk h.1).mp e, canons_map]
      exact List.mem_map_of_mem hx
  exact this ks h nd
section
variable {X : Cx} {pins : List (Addr × Obj)} {s : Shared} {σ : L2.St} {C : RC}
theorem is_zip (I : Inv X pins σ C.H s) (hK : C.K = X.K) : ∀ (ks : List MV) (ps : List Addr) (us : List Value), keyOks ks = true → kdeps ks ≤ 8 → RepVs C ks (ps.map V.ref) → ∀ x ∈ zipH ks ps us, (nestedKind X.prog X.w).is s.heap x.1 x.2.1
  | [], ps, us, _, _, _, x, hx => by cases hx
  | _ :: _, [], us, _, _, _, x, hx => by cases hx
  | _ :: _, _ :: _, [], _, _, _, x, hx => by cases hx
  | k :: ks, p :: ps, u :: us, h, hd, r, x, hx => by
    rw [keyOks, Bool.and_eq_true] at h
    rw [kdeps] at hd
    obtain ⟨v, vr, e, r1, r2⟩ := r.cons_inv
    rw [List.map_cons] at e
    cases e
    obtain e | e := List.mem_cons.mp hx
    · subst e
      exact ⟨nis_of I hK k (.ref p) (.ref p) h.1 r1 rfl, by show (nk k).depth ≤ 8; rw [dep_nk]; omega⟩
    · exact is_zip I hK ks ps us h.2 (by omega) r2 x e
/-- the dict as the kit's rules see it -/
theorem dct_H {a : Addr} {ob : Obj} {es : Array DictEntry} {ep : Nat} {ks : List MV} {ps : List Addr} {us : List Value} (I : Inv X pins σ C.H s) (hw : C.w = X.w) (hK : C.K = X.K) (ha : C.H a = some (.ext fun h => h.get? a = some ob)) (ex : ob.ExactDict) (hd : ob.data = .dict es ep)
    (he : es.toList = entsOf C.w ks ps us) (ko : keyTs ks = true) (nd : (canons ks).Nodup) (rk : RepVs C ks (ps.map V.ref)) (lu : ks.length = us.length) : s.heap.DictOfH (nestedKind X.prog X.w) a (zipH ks ps us) := by
  rw [keyTs, Bool.and_eq_true] at ko
  have hg : s.heap.get? a = some ob := (I.hok a _ ha).1
  have lp : ks.length = ps.length := by have := rk.length; simpa using this
  refine ⟨ob, es, ep, hg, ex, hd, by rw [he, hw, ents_zip (P := X.prog) ks ps us ko.1], is_zip I hK ks ps us ko.1 (of_decide_eq_true ko.2) rk, ?_⟩
  rw [zip_keys ks ps us lp lu]
  exact nodup_nks ko.1 nd
end
theorem at_cons {K : Type} [DecidableEq K] {x : K × Addr × Value} {xs : List (K × Addr × Value)} {k : K} : atKey (x :: xs) k = if x.1 = k then some x.2 else atKey xs k := by
  unfold atKey
  rw [List.find?_cons]
  by_cases h : x.1 = k <;> simp [h]
theorem at_zip {C : RC} {k : MV} (hk : keyOk k = true) : ∀ (ks : List MV) (ps : List Addr) (us : List Value) (ds : List MV) (vs : List V), keyOks ks = true → ks.length = ps.length → RepVs C ds vs → Vals vs us → ks.length = ds.length →
    (match dlook (canons ks) ds (canon k) with
      | some d => ∃ p u v, atKey (zipH ks ps us) (nk k) = some (p, u) ∧ RelV v u ∧ RepV C d v
      | none => atKey (zipH ks ps us) (nk k) = none)
  | [], ps, us, ds, vs, _, _, _, _, _ => by
    have : zipH [] ps us = [] := by cases ps <;> rfl
    rw [this]; rfl
  | _ :: _, [], us, ds, vs, _, h, _, _, _ => by simp at h
  | k' :: ks, p :: ps, us, ds, vs, h, lp, r, rv, ld => by
    cases ds with
    | nil => simp at ld
    | cons d ds =>
      obtain ⟨v, vr, rfl, r1, r2⟩ := r.cons_inv
      cases rv with
      | cons q qq =>
        rename_i u us
        rw [keyOks, Bool.and_eq_true] at h
        rw [canons, dlook, zipH, at_cons]
        by_cases e : canon k' = canon k
        · have e' : nk k' = nk k := (nk_eq h.1 hk).mpr e
          simp only [e, if_true, e']
          exact ⟨p, u, v, rfl, q, r1⟩
        · have e' : ¬ nk k' = nk k := fun z => e ((nk_eq h.1 hk).mp z)
          have e2 : ¬ canon k' = canon k := e
          simp only [e', if_false]
          rw [if_neg (by exact e2)]
          exact at_zip hk ks ps us ds vr h.2 (by simpa using lp) r2 qq (by simpa using ld)
end Mi
set_option Elab.async false
set_option linter.all false
set_option maxRecDepth 100000
set_option maxHeartbeats 2000000
namespace Mi
open PySem PySem.Spec PyProof.Rows L2
def dcTOf (S : Sto) : MV → Option (List MV × List MV)
  | .dcT ks vs => some (ks, vs)
  | .ref n => (match S[n]? with
    | some (.dcT ks vs) => some (ks, vs)
    | _ => none)
  | _ => none
/-- a dict with tuple keys, and what stands for it -/
def RepT (C : RC) (a : Addr) (ks ds : List MV) : Prop := (a == sysModules) = false ∧ keyTs ks = true ∧ ((canons ks).Nodup) ∧ ks.length = ds.length ∧ ks.length ≤ sizeLine ∧
  ∃ (ob : Obj) (es : Array DictEntry) (ep : Nat) (ps : List Addr) (us : List Value) (kvs vs : List V),
    C.H a = some (.ext fun h => h.get? a = some ob) ∧ ob.ExactDict ∧ ob.data = .dict es ep ∧ es.toList = entsOf C.w ks ps us ∧ kvs = ps.map V.ref ∧ RepVs C ks kvs ∧ Vals vs us ∧ RepVs C ds vs
theorem dcTOf_rep {C : RC} {S : Sto} {d : MV} {v : V} {ks ds : List MV} (r : RepS C S) (h : RepV C d v) (e : dcTOf S d = some (ks, ds)) : ∃ a, v = .ref a ∧ RepT C a ks ds := by
  cases d with
  | dcT ks' ds' =>
    cases e
    rw [RepV] at h
    obtain ⟨a, rfl, fz, rest⟩ := h
    exact ⟨a, rfl, rest⟩
  | ref n =>
    rw [RepV] at h
    obtain ⟨a, rfl, ha⟩ := h
    have e : (match S[n]? with
      | some (.dcT ks vs) => some (ks, vs)
      | _ => none) = some (ks, ds) := e
    cases e0 : S[n]? with
    | none => rw [e0] at e; cases e
    | some mo =>
      rw [e0] at e
      have ro := r.ob n mo a e0 ha
      cases mo with
      | dcT ks' ds' => cases e; exact ⟨a, rfl, ro⟩
      | _ => cases e
  | _ => cases e
/-- a key of such a dict -/
def keyT : MV → Bool
  | .tup xs => keyOks xs && decide (kdeps xs + 1 ≤ 8)
  | _ => false
theorem keyT_ok {k : MV} (h : keyT k = true) : keyOk k = true ∧ kdep k ≤ 8 ∧ ∃ xs, k = .tup xs := by
  cases k with
  | tup xs =>
    rw [keyT, Bool.and_eq_true] at h
    exact ⟨h.1, of_decide_eq_true h.2, xs, rfl⟩
  | _ => cases h
section
variable {X : Cx}
theorem room_n {A : Around} (hu : A.units + 65 < cLine) : (nestedKind P w).room A.in1 := by
  show A.units + 1 + 8 < cLine
  omega
def ninTM (x c : MV) (S : Sto) : R MV := match dcTOf S c with
  | some (ks, ds) => if keyT x then .ok (.bl (!(dlook (canons ks) ds (canon x)).isSome)) S else .stk
  | none => .stk
theorem pu_ninT : Pure2 ninTM := by intro a b S c d S' h; unfold ninTM at h; split at h; (split at h <;> cases h); cases h
/-- the key and the dict in the heap -/
theorem look_T {pins : List (Addr × Obj)} {s : Shared} {σ : L2.St} {C : RC} {S : Sto} {x y : V} {v u : Value} {d1 d2 : MV} {ks ds : List MV} (I : Inv X pins σ C.H s) (rx : RelV x v) (ry : RelV y u) (hw : C.w = X.w) (hK : C.K = X.K) (r : RepS C S) (h1 : RepV C d1 x) (h2 : RepV C d2 y) (e : dcTOf S d2 = some (ks, ds)) (hk : keyT d1 = true) :
    ∃ (a b : Addr) (ps : List Addr) (us : List Value) (vs : List V), v = .ref a ∧ u = .ref b ∧ x = .ref a ∧ y = .ref b ∧ (b == sysModules) = false ∧ (nestedKind X.prog X.w).is s.heap (nk d1) a ∧ s.heap.DictOfH (nestedKind X.prog X.w) b (zipH ks ps us) ∧
      (match dlook (canons ks) ds (canon d1) with
        | some d => ∃ p u v, atKey (zipH ks ps us) (nk d1) = some (p, u) ∧ RelV v u ∧ RepV C d v
        | none => atKey (zipH ks ps us) (nk d1) = none) := by
  obtain ⟨k1, k2, xs, rfl⟩ := keyT_ok hk
  obtain ⟨b, rfl, sm, ko, nd, ll, lz, ob, es, ep, ps, us, kvs, vs, ha, ex, hd, he, hkv, rk, rv, rd⟩ := dcTOf_rep r h2 e
  have h1' := h1
  rw [RepV] at h1'
  obtain ⟨a, ws, rfl, _⟩ := h1'
  cases rx
  cases ry
  subst hkv
  have lu : ks.length = us.length := by rw [ll, rd.length, rv.length]
  refine ⟨a, b, ps, us, vs, rfl, rfl, rfl, rfl, sm, ⟨nis_of I hK _ _ _ k1 h1 rfl, by show (nk (MV.tup xs)).depth ≤ 8; rw [dep_nk]; exact k2⟩, dct_H I hw hK ha ex hd he ko nd rk lu, ?_⟩
  rw [keyTs, Bool.and_eq_true] at ko
  exact at_zip k1 ks ps us ds vs ko.1 (by have := rk.length; simpa using this) rd rv ll
theorem opM_ninT (hu : X.A.units + 65 < cLine) : OpR X (compareOp .NotIn) (rOf X ninTM) := by
  intro pins s σ H x y v u Q I rx ry rof
  obtain ⟨C, S, d1, d2, rfl, hw, hK, r, h1, h2, a, S', e, q⟩ := rof
  unfold ninTM at e
  split at e
  · rename_i ks ds e0
    split at e
    · rename_i hk
      cases e
      obtain ⟨a, b, ps, us, vs, rfl, rfl, rfl, rfl, sm, ik, hm, at'⟩ := look_T I rx ry hw hK r h1 h2 e0 hk
      refine notIn_keyed (kvs := pairsH (zipH ks ps us)) (room_n hu) ik sm ⟨_, hm, rfl⟩ ?_
      have : (valueAt (pairsH (zipH ks ps us)) (nk d1)).isSome = (dlook (canons ks) ds (canon d1)).isSome := by
        rw [valueAt_pairsH, Option.isSome_map]
        cases ed : dlook (canons ks) ds (canon d1) with
        | none => rw [ed] at at'; rw [at']; rfl
        | some d => rw [ed] at at'; obtain ⟨p, u, v, z, _⟩ := at'; rw [z]; rfl
      rw [this]
      exact ⟨.bl _, C.H, I.tok _, rfl, q C Grow.refl r _ (repB _)⟩
    · cases e
  · cases e
/-- d[k] -/
def idxTM (c x : MV) (S : Sto) : R MV := match dcTOf S c with
  | some (ks, ds) => if keyT x then (match dlook (canons ks) ds (canon x) with
    | some d => .ok d S
    | none => .stk) else .stk
  | none => .stk
theorem pu_ixT : Pure2 idxTM := by
  intro a b S c d S' h
  unfold idxTM at h
  split at h
  · split at h
    · split at h <;> cases h
    · cases h
  · cases h
theorem ixTM (hu : X.A.units + 65 < cLine) : IxR X (rOf X idxTM) := by
  intro value slice pins s σ H x y v u Q I rx ry rof hs
  obtain ⟨C, S, d1, d2, rfl, hw, hK, r, h1, h2, a, S', e, q⟩ := rof
  unfold idxTM at e
  split at e
  · rename_i ks ds e0
    split at e
    · rename_i hk
      split at e
      · rename_i d ed
        cases e
        obtain ⟨a, b, ps, us, vs, rfl, rfl, rfl, rfl, sm, ik, hm, at'⟩ := look_T I ry rx hw hK r h2 h1 e0 hk
        rw [ed] at at'
        obtain ⟨p, u, w', hp, rw', rd⟩ := at'
        exact tail_any hm.typeIs PySem.F.slot_dict_getitem.lookup (wpAny_getItem_heap (room_n hu) ik hm hp ⟨w', C.H, I.tok _, rw', q C Grow.refl r w' rd⟩) hs
      · cases e
    · cases e
  · cases e
end
end Mi
set_option Elab.async false
set_option linter.all false
set_option maxRecDepth 100000
set_option maxHeartbeats 2000000
namespace Mi
open PySem PySem.Spec PyProof.Rows L2
def gset {κ α : Type} [DecidableEq κ] : List κ → List α → κ → α → List α
  | k' :: ks, v :: vs, k, d => (if k' = k then d else v) :: gset ks vs k d
  | _, vs, _, _ => vs
def dputT (ks vs : List MV) (k d : MV) : List MV × List MV := if canon k ∈ canons ks then (ks, dsetV (canons ks) vs (canon k) d) else (ks ++ [k], vs ++ [d])
theorem gset_vals {κ : Type} [DecidableEq κ] {k : κ} {v : V} {u : Value} (q : RelV v u) : ∀ (ks : List κ) {vs : List V} {us : List Value}, Vals vs us → Vals (vsetV ks vs k v) (gset ks us k u)
  | [], vs, us, h => by
    have e1 : vsetV ([] : List κ) vs k v = vs := by cases vs <;> rfl
    have e2 : gset ([] : List κ) us k u = us := by cases us <;> rfl
    rw [e1, e2]; exact h
  | _ :: _, _, _, .nil => .nil
  | k' :: ks, _, _, .cons r rr => by
    rw [vsetV, gset]
    by_cases e : k' = k
    · rw [if_pos e, if_pos e]; exact .cons q (gset_vals q ks rr)
    · rw [if_neg e, if_neg e]; exact .cons r (gset_vals q ks rr)
theorem zip_put {k : MV} (hk : keyOk k = true) {u : Value} : ∀ (ks : List MV) (ps : List Addr) (us : List Value), keyOks ks = true → (zipH ks ps us).map (putAt (nk k) u) = zipH ks ps (gset (canons ks) us (canon k) u)
  | [], ps, us, _ => by
    have e2 : gset ([] : List MV) us (canon k) u = us := by cases us <;> rfl
    rw [canons, e2]
    cases ps <;> rfl
  | _ :: _, [], us, _ => by cases us <;> simp [zipH]
  | _ :: _, _ :: _, [], _ => by simp [zipH, canons, gset]
  | k' :: ks, p :: ps, u' :: us, h => by
    rw [keyOks, Bool.and_eq_true] at h
    rw [canons, gset, zipH, zipH, List.map_cons, zip_put hk ks ps us h.2]
    congr 1
    unfold putAt
    by_cases e : canon k' = canon k
    · rw [if_pos ((nk_eq h.1 hk).mpr e), if_pos e]
    · rw [if_neg (fun z => e ((nk_eq h.1 hk).mp z)), if_neg e]
theorem zip_app {k : MV} {a : Addr} {u : Value} : ∀ (ks : List MV) (ps : List Addr) (us : List Value), ks.length = ps.length → ks.length = us.length → zipH ks ps us ++ [(nk k, a, u)] = zipH (ks ++ [k]) (ps ++ [a]) (us ++ [u])
  | [], ps, us, h, h' => by
    have : ps = [] := List.eq_nil_of_length_eq_zero (by simpa using h.symm)
    have : us = [] := List.eq_nil_of_length_eq_zero (by simpa using h'.symm)
    subst_vars; rfl
  | _ :: _, [], us, h, _ => by simp at h
  | _ :: _, _ :: _, [], _, h => by simp at h
  | k' :: ks, p :: ps, u' :: us, h, h' => by
    rw [zipH, List.cons_append, zip_app ks ps us (by simpa using h) (by simpa using h')]; rfl
theorem keyOks_app : ∀ (ks : List MV) (k : MV), keyOks (ks ++ [k]) = (keyOks ks && keyOk k)
  | [], k => by simp [keyOks]
  | x :: ks, k => by rw [List.cons_append, keyOks, keyOks_app ks k, keyOks, Bool.and_assoc]
theorem kdeps_app : ∀ (ks : List MV) (k : MV), kdeps (ks ++ [k]) = max (kdeps ks) (kdep k)
  | [], k => by simp [kdeps]
  | x :: ks, k => by rw [List.cons_append, kdeps, kdeps_app ks k, kdeps]; omega
theorem canons_app (ks : List MV) (k : MV) : canons (ks ++ [k]) = canons ks ++ [canon k] := by rw [canons_map, canons_map, List.map_append]; rfl
theorem canons_len (ks : List MV) : (canons ks).length = ks.length := by rw [canons_map, List.length_map]
theorem dlook_mem {κ : Type} [DecidableEq κ] {k : κ} : ∀ (ks : List κ) (ds : List MV), ks.length = ds.length → ((dlook ks ds k).isSome ↔ k ∈ ks)
  | [], ds, _ => by cases ds <;> simp [dlook]
  | _ :: _, [], bad => by simp at bad
  | k' :: ks, d :: ds, h => by
    rw [dlook]
    by_cases e : k' = k
    · rw [if_pos e]; simp [e]
    · rw [if_neg e, dlook_mem ks ds (by simpa using h)]; simp [Ne.symm e]
def setTM (o i d : MV) (S : Sto) : Option Sto := match o with
  | .ref n => (match S[n]? with
    | some (.dcT ks vs) => if keyT i && decide (ks.length < sizeLine) then some (S.set n (.dcT (dputT ks vs i d).1 (dputT ks vs i d).2)) else none
    | _ => none)
  | _ => none
def rSetT (X : Cx) : TSet := fun o i v H Q => ∃ C S d1 d2 d3, C.H = H ∧ C.w = X.w ∧ C.K = X.K ∧ RepS C S ∧ RepV C d1 o ∧ RepV C d2 i ∧ RepV C d3 v ∧ ∃ S', setTM d1 d2 d3 S = some S' ∧ ∀ C', Grow C C' → RepS C' S' → Q C'.H
theorem psetTM {X : Cx} (hu : X.A.units + 65 < cLine) : PSet X (rSetT X) := by
  intro pins s σ H o i v ov iv u Q I ro ri rv rof
  obtain ⟨C, S, d1, d2, d3, rfl, hw, hK, r, h1, h2, h3, S', e, q⟩ := rof
  cases d1 with
  | ref n =>
    have h1' := h1
    rw [RepV] at h1'
    obtain ⟨b0, eo, hb⟩ := h1'
    unfold setTM at e
    dsimp only at e
    cases e0 : S[n]? with
    | none => rw [e0] at e; cases e
    | some mo =>
      rw [e0] at e
      cases mo with
      | dcT ks ds =>
        dsimp only at e
        split at e
        · rename_i hh
          rw [Bool.and_eq_true] at hh
          obtain ⟨hk, hz⟩ := hh
          have hz : ks.length < sizeLine := of_decide_eq_true hz
          cases e
          obtain ⟨k1, k2, xs, ed⟩ := keyT_ok hk
          have hd2 : dcTOf S (.ref n) = some (ks, ds) := by
            show (match S[n]? with
              | some (.dcT ks vs) => some (ks, vs)
              | _ => none) = _
            rw [e0]
          obtain ⟨b, rfl, sm, ko, nd, ll, lz, ob, es, ep, ps, us, kvs, vs, ha, ex, hd, he, hkv, rk, rvs, rd⟩ := dcTOf_rep r h1 hd2
          have : b0 = b := by cases eo; rfl
          subst this
          subst hkv
          have h2' := h2
          rw [ed, RepV] at h2'
          obtain ⟨a, ws, rfl, _⟩ := h2'
          cases ro
          cases ri
          have lu : ks.length = us.length := by rw [ll, rd.length, rvs.length]
          have lp : ks.length = ps.length := by have := rk.length; simpa using this
          have ko' := ko
          rw [keyTs, Bool.and_eq_true] at ko'
          have ik : (nestedKind X.prog X.w).is s.heap (nk d2) a := ⟨nis_of I hK _ _ _ k1 h2 rfl, by show (nk d2).depth ≤ 8; rw [dep_nk]; exact k2⟩
          have hm := dct_H I hw hK ha ex hd he ko nd rk lu
          have lenz : (zipH ks ps us).length = ks.length := by
            have := congrArg List.length (zip_keys ks ps us lp lu)
            rw [List.length_map, nks_map, List.length_map] at this; exact this
          have at' := at_zip k1 ks ps us ds vs ko'.1 lp rd rvs ll
          refine wpAny_setItem_heap (hsz := by rw [lenz]; omega) (room_n hu) ik hm fun h' hm' hs => ?_
          obtain ⟨ob', es', ep', ho', ex', hd', he', _, _⟩ := hm'
          -- the entries behind
          have new : ∃ (ks' : List MV) (ps' : List Addr) (us' : List Value) (ds' : List MV) (vs' : List V), dputT ks ds d2 d3 = (ks', ds') ∧ storedH (zipH ks ps us) (nk d2) a u = zipH ks' ps' us' ∧ keyTs ks' = true ∧ (canons ks').Nodup ∧ ks'.length = ds'.length ∧ ks'.length ≤ sizeLine ∧
              RepVs C ks' (ps'.map V.ref) ∧ Vals vs' us' ∧ RepVs C ds' vs' := by
            cases ed' : dlook (canons ks) ds (canon d2) with
            | some d =>
              rw [ed'] at at'
              obtain ⟨p, u', w', hp, _, _⟩ := at'
              have hmem : canon d2 ∈ canons ks := (dlook_mem (canons ks) ds (by rw [canons_len]; exact ll)).mp (by rw [ed']; rfl)
              have lds : (dsetV (canons ks) ds (canon d2) d3).length = ds.length := by
                have := (dsetV_rep (k := canon d2) h3 (ks := canons ks) rd).length
                rw [vsetV_len] at this
                rw [this, rd.length]
              refine ⟨ks, ps, gset (canons ks) us (canon d2) u, dsetV (canons ks) ds (canon d2) d3, vsetV (canons ks) vs (canon d2) v, by unfold dputT; rw [if_pos hmem], ?_, ko, nd, by rw [lds]; exact ll, lz, rk, gset_vals rv (canons ks) rvs, dsetV_rep h3 rd⟩
              rw [storedH_old hp, zip_put k1 ks ps us ko'.1]
            | none =>
              rw [ed'] at at'
              have hmem : canon d2 ∉ canons ks := fun z => by
                have := (dlook_mem (canons ks) ds (by rw [canons_len]; exact ll)).mpr z
                rw [ed'] at this; cases this
              refine ⟨ks ++ [d2], ps ++ [a], us ++ [u], ds ++ [d3], vs ++ [v], by unfold dputT; rw [if_neg hmem], ?_, ?_, ?_, by simp [ll], by simp; omega, ?_, rvs.append (.cons rv .nil), rd.append (.cons h3 .nil)⟩
              · rw [storedH_new at', zip_app ks ps us lp lu]
              · rw [keyTs, keyOks_app, ko'.1, k1, kdeps_app]
                have := of_decide_eq_true ko'.2
                simp; omega
              · rw [canons_app, List.nodup_append]
                refine ⟨nd, by simp, fun x hx y hy => ?_⟩
                have e : y = canon d2 := by simpa using hy
                subst e
                intro z; subst z; exact hmem hx
              · rw [List.map_append]
                exact rk.append (.cons h2 .nil)
          obtain ⟨ks', ps', us', ds', vs', n1, n2, n3, n4, n5, n6, n7, n8, n9⟩ := new
          have gw : ∀ {o : HO}, Grow C (C.put b0 o) := Grow.write (List.mem_of_getElem? hb)
          have n3' := n3
          rw [keyTs, Bool.and_eq_true] at n3'
          refine ⟨upd C.H b0 (.ext fun h => h.get? b0 = some ob'), I.write (e := b0) (by rw [ha]; trivial) (.inl rfl) (fun c u' hc hu' => (hs.2 c hc).trans hu') ⟨ob', ho'⟩ ⟨ho', ⟨ob', ho'⟩, fun h1 h2 p k => k _ p⟩, ?_⟩
          rw [n1] at q
          refine write_ok (mo := .dcT ks' ds') r hb ?_ q
          exact ⟨sm, n3, n4, n5, n6, ob', es', ep', ps', us', _, vs', put_same, ex', hd', by show es'.toList = entsOf C.w ks' ps' us'; rw [he', n2, hw, ents_zip (P := X.prog) ks' ps' us' n3'.1], rfl, n7.grow gw r, n8, n9.grow gw r⟩
        · cases e
      | _ => cases e
  | _ => cases e
end Mi
set_option Elab.async false
set_option linter.all false
set_option maxRecDepth 100000
set_option maxHeartbeats 4000000
namespace Mi
open PySem PySem.Spec PyProof.Rows L2
def mSubT (e o i : ME) : MS := fun ρ S => (e ρ S).thn ρ fun d S1 => (o ρ S1).thn ρ fun od S2 => (i ρ S2).thn ρ fun id S3 => match setTM od id d S3 with
  | some S4 => .nx ρ S4
  | none => .stk
section
variable {X : Cx} {W : WX} {e o i : Expr} {me mo mi : ME} {pos tpos apos : Pos}
theorem ss_subT (hu : X.A.units + 65 < cLine) (he : SE X W e me) (ho : SE X W o mo) (hi : SE X W i mi) (ha : SubAs X o i tpos := by intro _; rfl) (hs : swapsWithSole [.Subscript o i tpos] e pos.line X.env = pure false := by rfl) (hw : swappedStores [.Subscript o i tpos] e X.env = pure none := by rfl)
    (h1 : (assignEach [.Subscript o i tpos] X.env).map (·.2) = [assign (.Subscript o i tpos) X.env] := by rfl) : SS X W (.Assign [.Subscript o i tpos] e pos) (mSubT me mo mi) :=
  (ps_asg he (pg_sub ho hi (psetTM hu) ha) hs hw h1).imp fun D σ H ⟨C, ρ, S, e, s, q⟩ => by
    subst e
    refine tE.thn s q fun d S1 C1 v s1 g1 r1 q1 => ?_
    refine tE.thn s1 q1 fun od S2 C2 ov s2 g2 r2 q2 => ?_
    refine tE.thn s2 q2 fun id S3 C3 iv s3 g3 r3 q3 => ?_
    refine ⟨C3, S3, od, id, d, rfl, s3.w, s3.K, s3.rs, r2.grow g3 s2.rs, r3, (r1.grow g2 s1.rs).grow g3 s2.rs, ?_⟩
    cases e : setTM od id d S3 with
    | none => rw [e] at q3; exact q3.elim
    | some S4 =>
      rw [e] at q3
      exact ⟨S4, rfl, fun C' g r => q3 C' σ g r (s3.ev.grow g s3.rs) s3.ln⟩
end
def mWhile (c : MT) (b : MS) : Nat → MS
  | 0, _, _ => .stk
  | n + 1, ρ, S => (c ρ S).thn ρ fun x S1 => if x then (match b ρ S1 with
    | .nx ρ2 S2 => mWhile c b n ρ2 S2
    | r => r) else .nx ρ S1
section
variable {X : Cx} {W : WX} {c : Expr} {body : List Stmt} {mc : MT} {mb : MS} {pos : Pos}
theorem ss_while (n : Nat) (hp : PassesOwn (model X.prog X.w) X.A X.env X.xe) (hc : ST X W c mc) (hb : SSs X W body mb) : SS X W (.While c body [] pos) (mWhile mc mb n) :=
  (ps_while hp hc hb).imp fun D σ H ⟨C, ρ, S, e, s, q⟩ => by
    subst e
    refine ⟨fun m σ' H' => ∃ C' ρ' S', C'.H = H' ∧ Sv X ρ' σ' S' C' ∧ WantS W D C' (mWhile mc mb m ρ' S'), ⟨n, C, ρ, S, rfl, s, q⟩, ?_⟩
    rintro m σ' H' ⟨C', ρ', S', rfl, s', w⟩
    cases m with
    | zero => exact w.elim
    | succ m =>
      rw [mWhile] at w
      refine tT.thn s' w fun x S1 C1 s1 g1 q1 => ?_
      cases x with
      | false =>
        rw [if_neg (by decide)] at q1 ⊢
        exact q1 C1 σ' Grow.refl s1.rs s1.ev s1.ln
      | true =>
        rw [if_pos rfl] at q1 ⊢
        refine ⟨fun σ'' H'' => ∃ C' ρ' S', C'.H = H'' ∧ Sv X ρ' σ'' S' C' ∧ WantS W D C' (mWhile mc mb m ρ' S'), fun σ'' H'' h => ⟨m, Nat.lt_succ_self _, h⟩, C1, ρ', S1, rfl, s1, ?_⟩
        cases e : mb ρ' S1 with
        | nx ρ2 S2 =>
          rw [e] at q1
          exact fun C3 σ3 g3 r3 ev3 l3 => ⟨C3, ρ2, S2, rfl, ⟨g3.w.trans s1.w, g3.K.trans s1.K, r3, ev3, l3⟩, q1.grow g3⟩
        | rt d S2 => rw [e] at q1; exact q1
        | exc c d ρ2 S2 => rw [e] at q1; exact q1
        | stk => rw [e] at q1; exact q1
end
def mAugI (i : Nat) (e : ME) : MS := fun ρ S => match ρ[i]? with
  | some (some (.int a)) => (e ρ S).thn ρ fun d S1 => (match d with
    | .int b => .nx (ρ.set i (some (.int (a + b)))) S1
    | _ => .stk)
  | _ => .stk
section
variable {X : Cx} {W : WX} {e : Expr} {me : ME} {pos : Pos}
theorem ss_augI {i : Nat} {x : Str} {pos' : Pos} (hN : X.N.Nodup) (hi : X.N[i]? = some x) (hx : Loc X.env.scope x) (he : SE X W e me) (hf : X.fn x = true ∨ X.env.scope.names.lookup x = some .local := by first | exact .inl rfl | exact .inr rfl | assumption) :
    SS X W (.AugAssign (.Name x pos') .Add e pos) (mAugI i me) :=
  (ps_aug hN hi hx he ip_add hf).imp fun D σ H ⟨C, ρ, S, e, s, q⟩ => by
    subst e
    unfold mAugI at q
    split at q
    · rename_i a e1
      obtain ⟨v, e2, rv⟩ := s.ev i _ e1
      have ev := vInt rv
      subst ev
      refine ⟨.int a, e2, ?_⟩
      refine tE.thn s q fun d S1 C1 v s1 g1 r1 q1 => ?_
      split at q1
      · rename_i b
        have := vInt r1
        subst this
        exact ⟨a, b, rfl, rfl, q1 C1 _ Grow.refl s1.rs (s1.ev.set s1.ln (repI _)) (by simp [s1.ln])⟩
      · exact q1.elim
    · exact q.elim
end
end Mi
set_option Elab.async false
set_option linter.all false
set_option maxRecDepth 100000
set_option maxHeartbeats 4000000
namespace Mi
open PySem PySem.Spec PyProof.Rows L2
def mkDT (fr : Bool) (ks ds : List MV) (S : Sto) : R MV := if fr then .ok (.dcT ks ds) S else .ok (.ref S.length) (S ++ [.dcT ks ds])
def ob0 : Obj := { cls := .type "dict", data := .dict #[] }
/-- a display of one pair: what the pair is, then the dict that holds it -/
theorem disp1T {P : Program} {w : World} {κ : Type} [DecidableEq κ] {kn : HeapKind P w κ} {A : Around} {E : Value → Shared → Prop} {s : Shared} {env : Env} {k v : Expr} {pos : Pos} {Q : Value → Shared → Prop} (room : kn.room A)
    (pair : wpAny (model P w) A (evalPairs (pairTrees [some k] [v] env pos)) (fun vs s1 => ∃ ps, CarriesH kn s1.heap vs ps ∧ s1.heap.DictOfH kn s.heap.objs.size [] ∧
      ∀ g t, g.DictOfH kn s.heap.objs.size (storedAllH [] ps) → Heap.SameBut s.heap.objs.size s1.heap g → Q (.ref s.heap.objs.size) { s1 with heap := g, toks := t }) E { s with heap := s.heap.push ob0 }) :
    wpAny (model P w) A (eval (.Dict [some k] [v] pos) env) Q E s := by
  have sh : (evalEachOpt [some k] env).zip ((evalEach [v] env).map fun u => do let x ← u; standAt pos; pure x) = (pairTrees [some k] [v] env pos).map fun p => (some p.1, p.2) := rfl
  rw [arm_eval_Dict, sh, dictDisplay_pairs (pairTrees [some k] [v] env pos) (fun z => nomatch z) (Nat.le_of_ble_eq_true rfl)]
  apply wpAny_bind; apply wpAny_standAt; apply wpAny_bind
  refine wpAny_subDictH (Q := fun d t => wpAny (model P w) A (pure (.ref d)) Q E t) room (Nat.le_of_ble_eq_true rfl) (wpAny_mono pair ?_ fun _ _ z => z)
  rintro vs s1 ⟨ps, c1, c2, c3⟩
  exact ⟨ps, c1, c2, fun g t b1 b2 => wpAny_pure (c3 g t b1 b2)⟩
/-- the filled dict, told -/
theorem dictT_end {W : WX} {σ : L2.St} {C0 C : RC} {S0 S : Sto} {D : Addr} {Q : VK} {fr : Bool} {ks ds : List MV} (r0 : RepS C0 S0) (hD : C0.H D = none) (g : Grow C0 (C.rb C0)) (hb : ∀ a ∈ C0.bad, a ∈ C.bad) (rs : RepS C S) (hbD : D ∈ C.bad)
    (rt : RepT C D ks ds) (h : Wants W σ C0 (mkDT fr ks ds S) (fun d _ C' => ∀ v, RepV C' d v → Q v C'.H)) : Q (.ref D) C.H := by
  have nD : D ∉ C.ι := (rs.bad D hbD).1
  have nb : D ∉ C0.bad := fun m => (r0.bad D m).2 hD
  obtain ⟨sm, ko, nd, l, z, ob, es, ep, ps, us, kvs, vs, q, ex, hd, he, hk, tk, rv, t⟩ := rt
  cases fr with
  | true =>
    have h : Wants W σ C0 (.ok (.dcT ks ds) S) (fun d _ C' => ∀ v, RepV C' d v → Q v C'.H) := h
    refine h (C.rb C0) g (rs.rb hb) (.ref D) ?_
    rw [RepV]
    exact ⟨D, rfl, ⟨nD, nb⟩, sm, ko, nd, l, z, ob, es, ep, ps, us, kvs, vs, q, ex, hd, he, hk, tk.trn (Tr.rb (C0 := C0) hb), rv, t.trn (Tr.rb (C0 := C0) hb)⟩
  | false =>
    have h : Wants W σ C0 (.ok (.ref S.length) (S ++ [.dcT ks ds])) (fun d _ C' => ∀ v, RepV C' d v → Q v C'.H) := h
    obtain ⟨g2, rs2, rv2⟩ := adopt_ok (mo := .dcT ks ds) r0 hD g hb rs hbD fun C' tr e =>
      ⟨sm, ko, nd, l, z, ob, es, ep, ps, us, kvs, vs, e.trans q, ex, hd, by rw [tr.w]; exact he, hk, tk.trn tr, rv, t.trn tr⟩
    exact h _ g2 rs2 _ rv2
theorem ext0 {P : Program} {w : World} {H : Hp} {h : Heap} {p : Addr} {ob : Obj} (e : h.get? p = some ob) : ObjOk P w H h p (.ext fun h => h.get? p = some ob) := ⟨e, ⟨_, e⟩, fun _ _ q k => k _ q⟩
section
variable {X : Cx} {W : WX} {k v : Expr} {mk mv : ME} {pos : Pos}
/-- {k: v} with a tuple k -/
def mDct1T (fr : Bool) (mk mv : ME) : ME := fun ρ S => (mk ρ S).bind fun kd S1 => (mv ρ S1).bind fun d S2 => if keyT kd then mkDT fr [kd] [d] S2 else .stk
theorem se_dict1T {fr : Bool} (hu : X.A.units + 65 < cLine) (hk : SE X W k mk) (hv : SE X W v mv) : SE X W (.Dict [some k] [v] pos) (mDct1T fr mk mv) := by
  refine ⟨fun pins s σ H Q I ⟨C, ρ, S, e, sv, q⟩ => ?_⟩
  subst e
  have hn : C.H s.heap.objs.size = none := I.hok.fresh Nat.le.refl
  have sm : (s.heap.objs.size == sysModules) = false := beq_eq_false_iff_ne.mpr (Ne.symm (Nat.ne_of_lt I.big))
  generalize hp : s.heap.objs.size = p at hn sm
  have hg : (s.heap.push ob0).get? p = some ob0 := by rw [← hp]; exact Heap.get?_push_size _ rfl
  have I1 := I.laid (a := p) (o := .ext fun h => h.get? p = some ob0) (h' := s.heap.push ob0) (t' := s.toks) (fun _ _ q => Heap.get?_push_of_some _ q) (Nat.le_of_eq hp) (ext0 hg)
  refine disp1T (kn := nestedKind X.prog X.w) (show X.A.units + 8 < cLine by omega) ?_
  rw [hp]
  have g1 : Grow C (C.fillO p (.ext fun h => h.get? p = some ob0)) := Grow.fillO hn
  have sv1 := sv.grow g1 (sv.rs.fillO hn)
  have hbp : p ∈ (C.fillO p (.ext fun h => h.get? p = some ob0)).bad := List.mem_cons_self
  refine thn ((pps_cons (pos := pos) hk hv pps_nil).run pins { s with heap := s.heap.push ob0 } σ _ (fun pr H2 => ∃ C2 S2 kd d x y, C2.H = H2 ∧ pr = [(x, y)] ∧ Grow (C.fillO p (.ext fun h => h.get? p = some ob0)) C2 ∧ RepS C2 S2 ∧ RepV C2 kd x ∧ RepV C2 d y ∧ keyT kd = true ∧ Wants W σ C (mkDT fr [kd] [d] S2) (fun d _ C' => ∀ v, RepV C' d v → Q v C'.H)) I1 ?_) fun vs s2 ⟨pr, H2, I2, rel, C2, S2, kd, d, x, y, e2, epr, g2, r2, rk, rv, hkt, q2⟩ => ?_
  · -- the pair
    show tE X W mk σ (C.fillO p (.ext fun h => h.get? p = some ob0)).H _
    unfold mDct1T at q
    have q' : Wants W σ (C.fillO p (.ext fun h => h.get? p = some ob0)) (mk ρ S) (fun kd S1 C1 => Wants W σ C ((mv ρ S1).bind fun d S2 => if keyT kd then mkDT fr [kd] [d] S2 else .stk) (fun d _ C' => ∀ v, RepV C' d v → Q v C'.H)) := by
      cases e1 : mk ρ S with
      | stk => rw [e1] at q; exact q
      | exc c d S1 =>
        rw [e1] at q
        exact fun C' cls dx g r x => q C' cls dx (g1.trans g) r x
      | ok kd S1 =>
        rw [e1] at q
        exact fun C1 g r => q
    refine ⟨_, ρ, S, rfl, sv1, q'.mono fun kd S1 C1 gg rr _ q1 x rx => ?_⟩
    have sv2 := sv1.grow gg rr
    have q'' : Wants W σ C1 (mv ρ S1) (fun d S2 C2 => keyT kd = true ∧ Wants W σ C (mkDT fr [kd] [d] S2) (fun d _ C' => ∀ v, RepV C' d v → Q v C'.H)) := by
      cases e1 : mv ρ S1 with
      | stk => rw [e1] at q1; exact q1
      | exc c d S2 =>
        rw [e1] at q1
        exact fun C' cls dx g r x => q1 C' cls dx (g1.trans (gg.trans g)) r x
      | ok d S2 =>
        rw [e1] at q1
        have q1 : Wants W σ C (if keyT kd then mkDT fr [kd] [d] S2 else .stk) (fun d _ C' => ∀ v, RepV C' d v → Q v C'.H) := q1
        intro C2 g r
        by_cases hk : keyT kd = true
        · rw [if_pos hk] at q1; exact ⟨hk, q1⟩
        · rw [if_neg hk] at q1; exact q1.elim
    show tE X W mv σ C1.H _
    refine ⟨C1, ρ, S1, rfl, sv2, q''.mono fun d S2 C2 g3 r3 _ q2 y ry => ?_⟩
    exact ⟨C2, S2, kd, d, x, y, rfl, rfl, gg.trans g3, r3, rx.grow g3 rr, ry, q2.1, q2.2⟩
  · subst e2
    subst epr
    cases rel with
    | @cons a b as bs hr t =>
      cases t
      obtain ⟨ru, rw'⟩ := hr
      obtain ⟨u, w2⟩ := b
      obtain ⟨k1, k2, xs, ekd⟩ := keyT_ok hkt
      have hK2 : C2.K = X.K := g2.K.trans sv1.K
      have hw2 : C2.w = X.w := g2.w.trans sv1.w
      have rk' := rk
      rw [ekd, RepV] at rk'
      obtain ⟨a, ws, rfl, _⟩ := rk'
      have eu : u = .ref a := by cases ru; rfl
      subst eu
      have ik : (nestedKind X.prog X.w).is s2.heap (nk kd) a := ⟨nis_of I2 hK2 _ _ _ k1 rk rfl, by show (nk kd).depth ≤ 8; rw [dep_nk]; exact k2⟩
      have z : C2.H p = some (.ext fun h => h.get? p = some ob0) := (g2.kp _ _ ((sv.rs.fillO hn).bad p hbp).1 upd_same).exact (.inl fun _ z => by cases z)
      have hb2 : p ∈ C2.bad := g2.bad' p hbp
      have hg2 : s2.heap.get? p = some ob0 := (I2.hok p _ z).1
      refine ⟨[(nk kd, a, w2)], ⟨rfl, rfl, ik, trivial⟩, ⟨ob0, #[], 0, hg2, ⟨rfl, rfl, rfl⟩, rfl, rfl, fun x hx => (by cases hx), List.nodup_nil⟩, fun h' tk hm' hs => ?_⟩
      obtain ⟨ob', es', ep', ho', ex', hd', he', _, _⟩ := hm'
      refine ⟨.ref p, upd C2.H p (.ext fun h => h.get? p = some ob'), I2.write (e := p) (by rw [z]; trivial) (.inl rfl) (fun c u' hc hu' => (hs.2 c hc).trans hu') ⟨ob', ho'⟩ ⟨ho', ⟨ob', ho'⟩, fun h1 h2 p k => k _ p⟩, rfl, ?_⟩
      have wr := Tr.wrG (o := .ext fun h => h.get? p = some ob') r2 hb2 z (by simp) (by simp)
      refine dictT_end (C := C2.put p (.ext fun h => h.get? p = some ob')) (fr := fr) (ks := [kd]) (ds := [d]) sv.rs hn (rb_wr (rb_step (Grow.refl (C := C)) (fun _ m => m) (g1.trans g2)) hn) (fun a m => g2.bad' a (List.mem_cons_of_mem _ m)) (r2.wrG hb2 z (by simp) (by simp)) hb2 ?_ q2
      refine ⟨sm, ?_, by rw [canons, canons]; simp, rfl, by simp [sizeLine_eq], ob', es', ep', [a], [w2], [.ref a], [_], put_same, ex', hd', ?_, rfl, (RepVs.cons rk .nil).trn wr, .cons rw' .nil, (RepVs.cons rv .nil).trn wr⟩
      · rw [keyTs, keyOks, keyOks, k1, kdeps, kdeps]
        simp; exact k2
      · rw [he', show storedAllH ([] : List (NestedKey × Addr × Value)) [(nk kd, a, w2)] = zipH [kd] [a] [w2] from rfl, ← ents_zip (P := X.prog) (w := X.w) [kd] [a] [w2] (by rw [keyOks, keyOks, k1]; rfl)]
        show _ = entsOf C2.w [kd] [a] [w2]
        rw [hw2]
end
end Mi
set_option Elab.async false
set_option linter.all false
set_option maxRecDepth 100000
set_option maxHeartbeats 4000000
namespace Mi
open PySem PySem.Spec PyProof.Rows L2
section
variable {X : Cx} {W : WX} {a b e : Expr} {ma mb me : ME} {pos : Pos} {x : Str}
theorem se_ixT (hu : X.A.units + 65 < cLine) (hs : PlainIx b) (ha : SE X W a ma) (hb : SE X W b mb) (hf : Pure2 idxTM) : SE X W (.Subscript a b pos) (mOp idxTM ma mb) :=
  (pe_ix (ixTM hu) ha hb hs).imp fun σ H Q h => op_imp hf h
theorem saug (i : Nat) {e : Expr} {me : ME} {pos' : Pos} (nd : X.N.Nodup) (he : SE X W e me) (hN : X.N[i]? = some x := by rfl) (hx : Loc X.env.scope x := by first | exact .inl rfl | exact .inr rfl) (hf : X.fn x = true ∨ X.env.scope.names.lookup x = some .local := by first | exact .inl rfl | exact .inr rfl | assumption) :
    SS X W (.AugAssign (.Name x pos') .Add e pos) (mAugI i me) := ss_augI nd hN hx he hf
end
end Mi
set_option Elab.async false
set_option linter.all false
set_option maxRecDepth 100000
set_option maxHeartbeats 4000000
namespace Mi
open PySem PySem.Spec PyProof.Rows L2
theorem key_rep {C : RC} : ∀ k : Key, RepV C (keyMV k) (kV k)
  | .inl i => repI i
  | .inr x => repS x
theorem keys_rep {C : RC} : ∀ ks : List Key, RepVs C (ks.map keyMV) (ks.map kV)
  | [] => .nil
  | k :: ks => .cons (key_rep k) (keys_rep ks)
def lstDM : List MV → Sto → R MV
  | [d], S => match dctOf S d with
    | some (ks, _) => .ok (.lst (ks.map keyMV)) S
    | none => .stk
  | _, _ => .stk
theorem pu_listD : Pure1 lstDM := by
  intro ds S c d S' h
  unfold lstDM at h
  split at h
  · split at h <;> cases h
  · cases h
theorem zip_fst {α β : Type} : ∀ (ks : List α) (vs : List β), ks.length = vs.length → (ks.zip vs).map (·.1) = ks
  | [], _, _ => by simp
  | k :: ks, [], h => by simp at h
  | k :: ks, v :: vs, h => by simp [zip_fst ks vs (by simpa using h)]
theorem crM_listD {X : Cx} (hc : X.calm = true) : CallR X (.type "list") (rCf X lstDM) := by
  intro pins s σ H vs us Q I rv h
  obtain ⟨C, S, ds, rfl, hw, hK, r, t, a, S', e, q⟩ := h
  unfold lstDM at e
  split at e
  · rename_i d
    obtain ⟨v, rfl, h1⟩ := one_of t
    cases hs : dctOf S d with
    | none => rw [hs] at e; cases e
    | some z =>
      obtain ⟨ks, xs⟩ := z
      rw [hs] at e
      cases e
      obtain ⟨p, ws, rfl, rd, l, nd, tt⟩ := dctOf_rep r h1 hs
      refine call_listD hc pins s σ C.H _ us Q I rv ⟨p, _, rfl, rd, ?_⟩
      have em : ((ks.zip ws).map fun kv => kV kv.1) = ks.map kV := by
        conv => rhs; rw [← zip_fst ks ws l, List.map_map]
        rfl
      rw [em]
      exact newLst r (keys_rep ks) q
  · cases e
end Mi
set_option Elab.async false
set_option linter.all false
set_option maxRecDepth 100000
set_option maxHeartbeats 4000000
namespace Mi
open PySem PySem.Spec PyProof.Rows L2
end Mi
set_option Elab.async false
set_option linter.all false
set_option maxRecDepth 100000
set_option maxHeartbeats 4000000
namespace Mi
open PySem PySem.Spec PyProof.Rows L2
end Mi
set_option Elab.async false
set_option linter.all false
set_option maxRecDepth 100000
set_option maxHeartbeats 4000000
namespace Mi
open PySem PySem.Spec PyProof.Rows L2
end Mi
set_option Elab.async false
set_option linter.all false
set_option maxRecDepth 100000
set_option maxHeartbeats 4000000
namespace Mi
open PySem PySem.Spec PyProof.Rows L2
end Mi
set_option Elab.async false
set_option linter.all false
set_option maxRecDepth 100000
set_option maxHeartbeats 4000000
namespace Mi
open PySem PySem.Spec PyProof.Rows L2
end Mi
set_option Elab.async false
set_option linter.all false
set_option maxRecDepth 100000
set_option maxHeartbeats 4000000
namespace Mi
open PySem PySem.Spec PyProof.Rows L2
end Mi
set_option Elab.async false
set_option linter.all false
set_option maxRecDepth 100000
set_option maxHeartbeats 4000000
namespace Mi
open PySem PySem.Spec PyProof.Rows L2
/-- of that type, with no dict of its own -/
def IsX (X : Cx) (H : Hp) (x : V) (T : String) : Prop := ∀ (pins : List (Addr × Obj)) (s : Shared) (σ : L2.St) (v : Value), Inv X pins σ H s → RelV x v → s.TypeIs v T ∧ ∀ b, v = .ref b → ∃ ob, s.heap.get? b = some ob ∧ ob.dict = none
def tBx (X : Cx) (T : String) (r : V → List V → Hp → VK → Prop) (to : TE) (t : TA) : TE := fun σ H Q => to σ H fun x H1 => IsX X H1 x T ∧ t σ H1 fun xs H2 => r x xs H2 Q
/-- the call o.m(..) written plainly -/
structure Mth (X : Cx) (o : Expr) (name : Str) (apos : Pos) (es : List Expr) (cpos : Pos) : Prop where
  base : attributeBase o name X.env (eval o X.env) = eval o X.env
  few : ((backTo cpos (starEach es X.env)).all (fun x => !x.1) && (backToKw cpos (keywordEach [] X.env)).all (fun x => x.1.isSome) &&
    decide (es.length + ([] : List Keyword).length + (if ([] : List Keyword).isEmpty then 0 else 1) < 30)) = true
  line : (apos.endLine == cpos.line : Bool) = true
section
variable {X : Cx} {o e : Expr} {es : List Expr} {to : TE} {t : TA} {name : Str} {apos cpos : Pos} {T id : String} {r : V → List V → Hp → VK → Prop}
theorem pe_bx (pa : PlainAttrs T) (slot : Slot T name id) (hty : typeOf (.builtin id) = pure (.type "method_descriptor")) (hm : MtR X id r) (ho : PE X o to) (ha : PA X (e :: es) t) (M : Mth X o name apos (e :: es) cpos)
    (hs : starEach (e :: es) X.env = (false, eval e X.env) :: starEach es X.env) (hp : (backTo cpos (starEach es X.env)).any (·.1) = false) :
    PE X (.Call (.Attribute o name apos) (e :: es) [] cpos) (tBx X T r to t) := by
  refine ⟨fun pins s σ H Q J g => ?_⟩
  refine wpAny_Call_method_late M.base M.few M.line rfl (thn (ho.run pins s σ H _ J g) fun v s1 q => ?_)
  obtain ⟨x, H1, I1, r1, ix, q1⟩ := q
  have k := ix pins s1 σ v I1 r1
  refine ⟨T, id, pa, slot, hty, k.1, k.2, ?_⟩
  have run := ha.run cpos pins s1 σ H1 _ I1 q1
  rw [hs] at run ⊢
  refine Calls.callWith_builtin (by show (false || (backTo cpos (starEach es X.env)).any (·.1)) = false; rw [hp]; rfl) (Calls.evalArgs_plain (thn run fun us s2 q => ?_))
  obtain ⟨vs, H2, I2, r2, q2⟩ := q
  exact hm pins s2 σ H2 x vs v us Q I2 r1 r2 q2
end
/-- a method over data and the store -/
abbrev MM := MV → List MV → Sto → R MV
def rMM (X : Cx) (f : MM) : V → List V → Hp → VK → Prop := fun x xs H Q => ∃ C S d ds, C.H = H ∧ C.w = X.w ∧ C.K = X.K ∧ RepS C S ∧ RepV C d x ∧ RepVs C ds xs ∧ ∃ a S', f d ds S = .ok a S' ∧ ∀ C', Grow C C' → RepS C' S' → ∀ v, RepV C' a v → Q v C'.H
def PureM (f : MM) : Prop := ∀ d ds S c e S', f d ds S ≠ .exc c e S'
/-- the receiver's kind, seen on the data -/
def KindM (X : Cx) (kind : Sto → MV → Bool) (T : String) : Prop := ∀ (C : RC) (S : Sto) (d : MV) (v : V), C.w = X.w → C.K = X.K → RepS C S → RepV C d v → kind S d = true → IsX X C.H v T
def mBM (kind : Sto → MV → Bool) (f : MM) (o : ME) (m : MA) : ME := fun ρ S => (o ρ S).bind fun d S1 => if kind S1 d then (m ρ S1).bind fun ds S2 => f d ds S2 else .stk
section
variable {X : Cx} {W : WX} {o e : Expr} {es : List Expr} {mo : ME} {ma : MA} {name : Str} {apos cpos : Pos} {T id : String} {f : MM} {kind : Sto → MV → Bool}
theorem mm_end {C : RC} {S : Sto} {σ : L2.St} {d : MV} {ds : List MV} {Q : VK} (hf : PureM f) (q : Wants W σ C (f d ds S) fun a _ C' => ∀ v, RepV C' a v → Q v C'.H) :
    ∃ a S', f d ds S = .ok a S' ∧ ∀ C', Grow C C' → RepS C' S' → ∀ v, RepV C' a v → Q v C'.H := by
  cases e : f d ds S with
  | ok a S' => rw [e] at q; exact ⟨a, S', rfl, q⟩
  | exc c x S' => exact absurd e (hf _ _ _ _ _ _)
  | stk => rw [e] at q; exact q.elim
theorem se_bx (pa : PlainAttrs T) (slot : Slot T name id) (hty : typeOf (.builtin id) = pure (.type "method_descriptor")) (hm : MtR X id (rMM X f)) (hf : PureM f) (hk : KindM X kind T) (ho : SE X W o mo) (ha : SA X W (e :: es) ma) (M : Mth X o name apos (e :: es) cpos)
    (hs : starEach (e :: es) X.env = (false, eval e X.env) :: starEach es X.env := by rfl) (hp : (backTo cpos (starEach es X.env)).any (·.1) = false := by rfl) :
    SE X W (.Call (.Attribute o name apos) (e :: es) [] cpos) (mBM kind f mo ma) :=
  (pe_bx pa slot hty hm ho ha M hs hp).imp fun σ H Q ⟨C, ρ, S, e, s, q⟩ => by
    subst e
    refine tE.bind s q fun d S1 C1 v s1 g1 r1 q1 => ?_
    split at q1
    · rename_i hkd
      refine ⟨hk C1 S1 d v s1.w s1.K s1.rs r1 hkd, ?_⟩
      refine tA.bind s1 q1 fun ds S2 C2 vs s2 g2 r2 q2 => ?_
      exact ⟨C2, S2, d, ds, rfl, s2.w, s2.K, s2.rs, r1.grow g2 s1.rs, r2, mm_end hf q2⟩
    · exact q1.elim
def kLst (S : Sto) (d : MV) : Bool := (lstOf S d).isSome
theorem kd_lst : KindM X kLst "list" := fun C S d v hw hK r h e pins s σ u I ru => by
  obtain ⟨xs, hx⟩ := Option.isSome_iff_exists.mp e
  obtain ⟨a, vs, rfl, ha, t⟩ := lstOf_rep r h hx
  exact tyV_is I ru (.inl ⟨rfl, vs, .of ha⟩)
end
end Mi
set_option Elab.async false
set_option linter.all false
set_option maxRecDepth 100000
set_option maxHeartbeats 4000000
namespace Mi
open PySem PySem.Spec PyProof.Rows L2
end Mi
set_option Elab.async false
set_option linter.all false
set_option maxRecDepth 100000
set_option maxHeartbeats 4000000
namespace Mi
open PySem PySem.Spec PyProof.Rows L2
theorem newPtp {C : RC} {S : Sto} {Q : VK} {ds : List MV} {vs : List V} (r : RepS C S) (t : RepVs C ds vs) (q : ∀ C', Grow C C' → RepS C' S → ∀ v, RepV C' (.ptp ds) v → Q v C'.H) :
    ∀ (p : Addr) (o : Obj), C.H p = none → o.dict = none → Q (.ref p) (upd C.H p (.frz o (.tup vs))) := fun p o hp hd =>
  q (C.put p (.frz o (.tup vs))) (Grow.put hp) (r.put hp) (.ref p) (by rw [RepV]; exact ⟨p, vs, rfl, ⟨o, put_same, hd⟩, t.grow (Grow.put hp) r⟩)
def tPtp (t : TA) : TE := fun σ H Q => t σ H fun xs H1 => xs.length ≤ sizeLine ∧ ∀ (p : Addr) (o : Obj), H1 p = none → o.dict = none → Q (.ref p) (upd H1 p (.frz o (.tup xs)))
section
variable {X : Cx} {W : WX} {es : List Expr} {t : TA} {mas : MA} {pos : Pos} {k : Nat}
/-- a new tuple at the end of the heap -/
theorem ptp_laid {pins : List (Addr × Obj)} {σ : L2.St} {H : Hp} {s : Shared} {xs : List V} {us : List Value} (I : Inv X pins σ H s) (r : Vals xs us) (z : xs.length ≤ sizeLine) :
    Inv X pins σ (upd H s.heap.objs.size (.frz { cls := .type "tuple", data := .seq us.toArray } (.tup xs))) { s with heap := s.heap.push { cls := .type "tuple", data := .seq us.toArray } } :=
  I.laid (t' := s.toks) (o := .frz { cls := .type "tuple", data := .seq us.toArray } (.tup xs)) (fun b u e => Heap.get?_push_of_some _ e) (Nat.le_refl _)
    ⟨Heap.get?_push_size _ rfl, z, us, r, ⟨_, Heap.get?_push_size _ rfl, rfl, _, rfl⟩⟩
theorem pe_ptp (h : PA X es t) : PE X (.Tuple es k pos) (tPtp t) := by
  refine ⟨fun pins s σ H Q I hq => wpAny_Tuple_spliced (thn (h.run pos pins s σ H _ I hq) fun us s1 ⟨xs, H1, I1, r, z, q⟩ => ?_)⟩
  exact ⟨by rw [← r.length]; exact z, .ref _, _, ptp_laid I1 r z, rfl, q _ _ (I1.hok.fresh (Nat.le_refl _)) rfl⟩
def mPtp (ma : MA) : ME := fun ρ S => (ma ρ S).bind fun ds S1 => .ok (.ptp ds) S1
theorem se_ptp {n : Nat} (h : SA X W es mas) (hl : LenA mas n) (hn : n ≤ 1000) : SE X W (.Tuple es k pos) (mPtp mas) :=
  (pe_ptp h).imp fun σ H Q ⟨C, ρ, S, e, s, q⟩ => by
    subst e
    refine ⟨C, ρ, S, rfl, s, Wants.mono (Wants.bind q) fun ds S1 C1 g r1 e1 q1 vs rv => ?_⟩
    exact ⟨by rw [← rv.length, hl _ _ _ _ e1, sizeLine_eq]; omega, newPtp r1 rv fun C' g' r' v rv' => q1.1.here g' r' v rv'⟩
end
def addPM : MV → MV → Sto → R MV
  | .ptp xs, .ptp ys, S => if xs.length + ys.length ≤ sizeLine then .ok (.ptp (xs ++ ys)) S else .stk
  | _, _, _ => .stk
theorem pu_addP : Pure2 addPM := by
  intro a b S c d S' h
  unfold addPM at h
  repeat' split at h
  all_goals cases h
theorem ptp_rep {C : RC} {xs : List MV} {v : V} (h : RepV C (.ptp xs) v) : ∃ a vs o, v = .ref a ∧ C.H a = some (.frz o (.tup vs)) ∧ o.dict = none ∧ RepVs C xs vs := by
  rw [RepV] at h
  obtain ⟨a, vs, e, ⟨o, q, z⟩, t⟩ := h
  exact ⟨a, vs, o, e, q, z, t⟩
theorem opM_addP {X : Cx} : OpR X (binaryOp .Add) (rOf X addPM) := by
  intro pins s σ H x y v u Q I rx ry rof
  obtain ⟨C, S, d1, d2, rfl, hw, hK, r, h1, h2, a, S', e, q⟩ := rof
  unfold addPM at e
  split at e
  · rename_i xs ys
    split at e
    · rename_i hl
      cases e
      have h1' := h1
      have h2' := h2
      obtain ⟨p1, vs1, o1, rfl, q1, z1, t1⟩ := ptp_rep h1
      obtain ⟨p2, vs2, o2, rfl, q2, z2, t2⟩ := ptp_rep h2
      cases rx
      cases ry
      have l1 := t1.length
      have l2 := t2.length
      obtain ⟨i1, r1, k1, _⟩ := I.tuple (.inl (.inr ⟨o1, q1⟩) : SqT X.K C.H p1 vs1)
      obtain ⟨i2, r2, k2, _⟩ := I.tuple (.inl (.inr ⟨o2, q2⟩) : SqT X.K C.H p2 vs2)
      by_cases n1 : xs = []
      · subst n1
        have : vs1 = [] := List.eq_nil_of_length_eq_zero l1.symm
        subst this
        cases r1
        exact cat_tup0 k1 k2 ⟨.ref p2, C.H, I, rfl, q C Grow.refl r _ h2'⟩
      · have m1 : i1 ≠ [] := fun z => n1 (List.eq_nil_of_length_eq_zero (by rw [l1, r1.length, z]; rfl))
        refine HT.cat_tup k1 k2 m1 (fun z => ?_) (fun z => ?_) (by rw [← r1.length, ← r2.length, ← l1, ← l2]; exact hl)
        · have : ys = [] := List.eq_nil_of_length_eq_zero (by rw [l2, r2.length, z]; rfl)
          subst this
          exact ⟨.ref p1, C.H, I, rfl, by
            have := q C Grow.refl r (.ref p1) (by rw [List.append_nil]; exact h1')
            exact this⟩
        · have rr := r1.append r2
          exact ⟨.ref _, _, ptp_laid I rr (by rw [List.length_append, ← l1, ← l2]; exact hl), rfl, newPtp r (t1.append t2) q _ _ (I.hok.fresh (Nat.le_refl _)) rfl⟩
    · cases e
  · cases e
def pairM : MV → Option (Key × MV)
  | .tup [k, v] => (keyV k).map fun x => (x, v)
  | _ => none
def dctPM : List MV → Sto → R MV
  | [.ptp xs], S => match xs.mapM pairM with
    | some ps => if (ps.map (·.1)).Nodup ∧ ps.length ≤ 1000 then .ok (.dct (ps.map (·.1)) (ps.map (·.2))) S else .stk
    | none => .stk
  | _, _ => .stk
theorem pu_dctP : Pure1 dctPM := by
  intro ds S c d S' h
  unfold dctPM at h
  repeat' split at h
  all_goals cases h
theorem pairs_rep {X : Cx} {C : RC} (hK : C.K = X.K) : ∀ {xs : List MV} {ps : List (Key × MV)} {vs : List V}, RepVs C xs vs → xs.mapM pairM = some ps →
    ∃ (as : List Addr) (ws : List V), vs = as.map V.ref ∧ ws.length = ps.length ∧ RepVs C (ps.map (·.2)) ws ∧ Paired (fun p kv => SqT X.K C.H p [kV kv.1, kv.2]) as ((ps.map (·.1)).zip ws)
  | [], ps, vs, t, e => by
    simp at e; subst e
    rw [t.nil_inv]
    exact ⟨[], [], rfl, rfl, .nil, .nil⟩
  | x :: xs, ps, vs, t, e => by
    obtain ⟨v, vr, rfl, r, tl⟩ := t.cons_inv
    rw [List.mapM_cons] at e
    cases e1 : pairM x with
    | none => rw [e1] at e; cases e
    | some y =>
      rw [e1] at e
      cases e2 : xs.mapM pairM with
      | none => rw [e2] at e; cases e
      | some zs =>
        rw [e2] at e
        have e : some (y :: zs) = some ps := e
        cases e
        unfold pairM at e1
        split at e1
        · rename_i k d
          cases e3 : keyV k with
          | none => rw [e3] at e1; cases e1
          | some kk =>
            rw [e3] at e1
            cases e1
            rw [RepV] at r
            obtain ⟨a, us, rfl, sq, t2⟩ := r
            obtain ⟨u1, ur, rfl, r1, t3⟩ := t2.cons_inv
            obtain ⟨u2, ur2, rfl, r2, t4⟩ := t3.cons_inv
            rw [t4.nil_inv] at sq
            have ek := keyV_rep r1 e3
            subst ek
            obtain ⟨as, ws, h1, h2, h3, h4⟩ := pairs_rep hK tl e2
            rw [hK] at sq
            exact ⟨a :: as, u2 :: ws, by rw [h1]; rfl, by simp [h2], .cons r2 h3, .cons sq h4⟩
        · cases e1
theorem putK_new {kvs : List (Key × V)} {k : Key} {v : V} (h : k ∉ kvs.map (·.1)) : putK kvs k v = kvs ++ [(k, v)] := by
  unfold putK
  rw [if_neg]
  intro z
  obtain ⟨x, hx, e⟩ := List.any_eq_true.mp z
  exact h (List.mem_map.mpr ⟨x, hx, of_decide_eq_true e⟩)
theorem merge_new : ∀ (more kvs : List (Key × V)), ((kvs ++ more).map (·.1)).Nodup → mergeK kvs more = kvs ++ more
  | [], kvs, _ => by simp [mergeK]
  | x :: more, kvs, h => by
    have hx : x.1 ∉ kvs.map (·.1) := fun m => by
      rw [List.map_append, List.nodup_append] at h
      exact h.2.2 _ m _ (by simp) rfl
    show mergeK (putK kvs x.1 x.2) more = _
    rw [putK_new hx, merge_new more _ (by simpa using h)]
    simp
theorem crM_dctP {X : Cx} (hcalm : X.calm = true) : CallR X (.type "dict") (rCf X dctPM) := by
  intro pins s σ H vs us Q I rv h
  obtain ⟨C, S, ds, rfl, hw, hK, r, t, a, S', e, q⟩ := h
  unfold dctPM at e
  split at e
  · rename_i xs
    split at e
    · rename_i ps hp
      split at e
      · rename_i hh
        obtain ⟨nd, hz⟩ := hh
        cases e
        obtain ⟨v, rfl, h1⟩ := one_of t
        obtain ⟨p, vs, o, rfl, hq, od, tt⟩ := ptp_rep h1
        obtain ⟨as, ws, rfl, hl, tw, pr⟩ := pairs_rep hK tt hp
        obtain ⟨u, rfl, ru⟩ := vals1 rv
        cases ru
        have oo := (show ObjOk X.prog X.w C.H s.heap p (.frz o (.tup (as.map V.ref))) from I.hok p _ hq)
        obtain ⟨ho, _, its, r1, ⟨o', ho', hc, n, hd⟩⟩ := oo
        rw [ho] at ho'
        cases ho'
        have ei := refs_at r1
        subst ei
        obtain ⟨prs, rel, hpl, hpr⟩ := pairs_of I pr
        have la : prs.length = as.length := hpl
        have hzl : prs.length ≤ sizeLine := by
          have := rel.length
          rw [List.length_zip, List.length_map, hl] at this
          rw [sizeLine_eq]; omega
        have kk : ∀ (j : Nat) (q : Key × Value), prs[j]? = some q → ∃ (b : Addr) (u : Value), as[j]? = some b ∧ IsTup s.heap b #[u, q.2] ∧ keyIs q.1 u = true := hpr
        -- the pairs, as they stand in the heap
        let kv : Nat → Value × Value := fun j => match s.heap.get? (as.getD j 0) with
          | some ⟨_, _, .seq xs _, _⟩ => (xs.getD 0 .none, xs.getD 1 .none)
          | _ => (.none, .none)
        have at_ : ∀ (j : Nat) (q : Key × Value), prs[j]? = some q → ∃ b u, as[j]? = some b ∧ IsTup s.heap b #[u, q.2] ∧ keyIs q.1 u = true ∧ kv j = (u, q.2) := fun j q e => by
          obtain ⟨b, u, e1, e2, e3⟩ := kk j q e
          refine ⟨b, u, e1, e2, e3, ?_⟩
          obtain ⟨⟨c1, c2, c3, c4⟩, g1, g2, m, g3⟩ := e2
          have eb : as.getD j 0 = b := by rw [List.getD_eq_getElem?_getD, e1]; rfl
          show (match s.heap.get? (as.getD j 0) with
            | some ⟨_, _, .seq xs _, _⟩ => (xs.getD 0 .none, xs.getD 1 .none)
            | _ => (.none, .none)) = _
          rw [eb, g1]
          have g3 : c3 = .seq #[u, q.2] m := g3
          subst g3
          rfl
        refine PySem.call_dict_pairs (knd := mixKind X.prog X.w) (kvs := prs) (PairArg.tuple p (as.map Value.ref).toArray (fun j => as.getD j 0) ((List.range prs.length).map kv)) (I.ok.hd hcalm)
          ⟨⟨o, n, ho, hc, od, hd⟩, by simp [la], fun j k v ej => ?_⟩ ⟨by simp, fun i key v hrel => ?_⟩ (by simpa using hzl) fun h' tk hd' k => ?_
        · rw [List.getElem?_map] at ej
          obtain ⟨i, ei, ekv⟩ := Option.map_eq_some_iff.mp ej
          have hj : j < prs.length := by
            have := (List.getElem?_eq_some_iff.mp ei).1
            simpa using this
          rw [List.getElem?_range hj] at ei
          cases ei
          obtain ⟨b, u, e1, e2, e3, e4⟩ := at_ j _ (List.getElem?_eq_getElem hj)
          rw [e4] at ekv
          cases ekv
          refine ⟨?_, .inl ?_⟩
          · simp [e1]
          · have eb : as.getD j 0 = b := by rw [List.getD_eq_getElem?_getD, e1]; rfl
            show Heap.IsTuple s.heap (as.getD j 0) _
            rw [eb]
            exact e2
        · have hrel : ((List.range prs.length).map kv)[i]? = some (key, v) := hrel
          rw [List.getElem?_map] at hrel
          obtain ⟨j, ei, ekv⟩ := Option.map_eq_some_iff.mp hrel
          have hj : i < prs.length := by
            have := (List.getElem?_eq_some_iff.mp ei).1
            simpa using this
          rw [List.getElem?_range hj] at ei
          cases ei
          obtain ⟨b, u, e1, e2, e3, e4⟩ := at_ i _ (List.getElem?_eq_getElem hj)
          rw [e4] at ekv
          cases ekv
          exact ⟨prs[i].1, by rw [List.getElem?_eq_getElem hj], e3⟩
        · have hm : (s.heap.objs.size == sysModules) = false := by
            rw [beq_eq_false_iff_ne]
            exact Nat.ne_of_gt I.big
          have mn : mergeK [] ((ps.map (·.1)).zip ws) = (ps.map (·.1)).zip ws := by
            rw [merge_new _ _ (by rw [List.nil_append, zip_fst _ _ (by rw [List.length_map, hl])]; exact nd), List.nil_append]
          have lz : ((ps.map (·.1)).zip ws).length ≤ sizeLine := by rw [List.length_zip, List.length_map, hl, sizeLine_eq]; omega
          have kp : ∀ b o, s.heap.get? b = some o → h'.get? b = some o := fun b o e => k b o (by simp) e
          have km : KV ((ps.map (·.1)).zip ws) (merged [] prs) := by
            have := KV.merge rel (kvs := []) (vs := []) .nil
            rw [mn] at this
            exact this
          have J := I.laid (a := s.heap.objs.size) (o := .dK ((ps.map (·.1)).zip ws)) (t' := tk) kp (Nat.le_refl _) (show ObjOk X.prog X.w _ _ _ (.dK ((ps.map (·.1)).zip ws)) from ⟨lz, hm, merged [] prs, km, hd'⟩)
          have fr := I.hok.fresh (Nat.le_refl s.heap.objs.size)
          refine ⟨.ref _, _, J, rfl, q (C.put s.heap.objs.size (.dK ((ps.map (·.1)).zip ws))) (Grow.put fr) (r.put fr) (.ref _) ?_⟩
          rw [RepV]
          exact ⟨_, ws, rfl, .put r fr, .inl put_same, by rw [List.length_map, hl], nd, tw.grow (Grow.put fr) r⟩
      · cases e
    · cases e
  · cases e
def dgetS (d k x : MV) (S : Sto) : R MV := match dctOf S d, keyV k with
  | some (ks, vs), some kk => .ok ((dlook ks vs kk).getD x) S
  | _, _ => .stk
def isDc (S : Sto) (d : MV) : Bool := (dctOf S d).isSome
def mDgetS (o e f : ME) : ME := fun ρ S => (o ρ S).bind fun od S1 => if isDc S1 od = true then (e ρ S1).bind fun k S2 => (f ρ S2).bind fun x S3 => dgetS od k x S3 else .stk
theorem dc_rep {C : RC} {S : Sto} {d : MV} {v : V} (r : RepS C S) (h : RepV C d v) (e : isDc S d = true) : ∃ a, v = .ref a ∧ IsD C.H a := by
  unfold isDc at e
  cases h1 : dctOf S d with
  | none => rw [h1] at e; cases e
  | some p =>
    obtain ⟨ks, es⟩ := p
    obtain ⟨a, ws, rfl, rd, _⟩ := dctOf_rep r h h1
    exact ⟨a, rfl, .inl ⟨_, rd⟩⟩
section
variable {X : Cx} {W : WX} {o e f : Expr} {mo me mf : ME} {apos cpos : Pos}
theorem se_dget2 (hu : X.A.units + 1 < cLine) (ho : SE X W o mo) (he : SE X W e me) (hf : SE X W f mf) (m : M2 X o "get" apos e f cpos := by exact ⟨rfl, rfl, rfl, rfl⟩) : SE X W (.Call (.Attribute o "get" apos) [e, f] [] cpos) (mDgetS mo me mf) :=
  (pe_dget2 hu ho he hf m).imp fun σ H Q ⟨C, ρ, S, eH, s, q⟩ => by
    subst eH
    refine tE.bind s q fun d1 S1 C1 v1 s1 g1 r1 q1 => ?_
    by_cases hd : isDc S1 d1 = true
    · rw [if_pos hd] at q1
      obtain ⟨a, rfl, id⟩ := dc_rep s1.rs r1 hd
      refine ⟨a, rfl, id, ?_⟩
      refine tE.bind s1 q1 fun d2 S2 C2 v2 s2 g2 r2 q2 => ?_
      refine tE.bind s2 q2 fun d3 S3 C3 v3 s3 g3 r3 q3 => ?_
      have r1' := (r1.grow g2 s1.rs).grow g3 s2.rs
      have r2' := r2.grow g3 s2.rs
      unfold dgetS at q3
      split at q3
      · rename_i ks vs kk e1 e2
        obtain ⟨a', ws, ea, rd, l, nd, t⟩ := dctOf_rep s3.rs r1' e1
        cases ea
        have ek := keyV_rep r2' e2
        subst ek
        cases el : dlook ks vs kk with
        | none =>
          rw [el] at q3
          exact ⟨none, .inl ⟨_, kk, rd, rfl, ((dlook_rep (ks := ks) t).2 el).symm⟩, q3.now s3.rs _ r3⟩
        | some x =>
          rw [el] at q3
          obtain ⟨z, hz, rz⟩ := (dlook_rep (ks := ks) t).1 x el
          exact ⟨some z, .inl ⟨_, kk, rd, rfl, hz.symm⟩, q3.now s3.rs _ rz⟩
      · exact q3.elim
    · rw [if_neg hd] at q1
      exact q1.elim
end
def strsM : List MV → Option (List Str)
  | [] => some []
  | .str x :: xs => (strsM xs).map (x :: ·)
  | _ :: _ => none
theorem strsM_eq {xs : List MV} : ∀ {ys : List Str}, strsM xs = some ys → xs = ys.map .str := by
  induction xs with
  | nil => intro ys h; cases h; rfl
  | cons x xs ih =>
    intro ys h
    cases x with
    | str x =>
      rw [strsM] at h
      obtain ⟨zs, h1, rfl⟩ := Option.map_eq_some_iff.mp h
      rw [ih h1]; rfl
    | _ => cases h
@[simp] theorem strsM_map : ∀ ys : List Str, strsM (ys.map .str) = some ys
  | [] => rfl
  | y :: ys => by rw [List.map_cons, strsM, strsM_map ys]; rfl
theorem strs_vals {C : RC} : ∀ {ys : List Str} {vs : List V}, RepVs C (ys.map .str) vs → vs = ys.map V.str
  | [], vs, h => h.nil_inv
  | y :: ys, vs, h => by
    obtain ⟨v, vr, rfl, h1, h2⟩ := h.cons_inv
    rw [vStr h1, strs_vals h2]; rfl
theorem at_idx : ∀ (ys : List Str) (y : Str), y ∈ ys → ys[ys.idxOf y]? = some y ∧ ∀ m, m < ys.idxOf y → ∀ z, ys[m]? = some z → z ≠ y
  | [], y, h => by cases h
  | x :: ys, y, h => by
    rw [List.idxOf_cons]
    by_cases z : x = y
    · have zb : (x == y) = true := by simpa using z
      rw [zb]
      exact ⟨by rw [z]; rfl, fun m hm => by simp at hm⟩
    · have zb : (x == y) = false := by simpa using z
      rw [zb]
      have hm : y ∈ ys := by
        rcases List.mem_cons.mp h with w | w
        · exact absurd w.symm z
        · exact w
      obtain ⟨h1, h2⟩ := at_idx ys y hm
      refine ⟨h1, fun m hm u e => ?_⟩
      cases m with
      | zero =>
        have e : x = u := by simpa using e
        rw [← e]; exact z
      | succ m => exact h2 m (by simpa using hm) u (by simpa using e)
def idxOfM : MM := fun d ds S => match lstOf S d, ds with
  | some xs, [.str y] => (match strsM xs with
    | some ys => if y ∈ ys then .ok (.int ((ys.idxOf y : Nat) : Int)) S else .stk
    | none => .stk)
  | _, _ => .stk
theorem pu_idxOf : PureM idxOfM := by
  intro d ds S c e S' h
  unfold idxOfM at h
  repeat' split at h
  all_goals cases h
theorem mt_idxOf {X : Cx} : MtR X "list.index" (rMM X idxOfM) := by
  intro pins s σ H x xs v us Q I rx rxs rof
  obtain ⟨C, S, d, ds, rfl, hw, hK, r, h1, h2, a, S', e, q⟩ := rof
  unfold idxOfM at e
  split at e
  · rename_i zs y e0
    split at e
    · rename_i ys e1
      split at e
      · rename_i hy
        cases e
        obtain ⟨v2, rfl, h3⟩ := one_of h2
        obtain ⟨p, vs, rfl, ha, tt⟩ := lstOf_rep r h1 e0
        rw [strsM_eq e1] at tt
        rw [strs_vals tt] at ha
        cases vStr h3
        obtain ⟨g1, g2⟩ := at_idx ys y hy
        refine mt_index pins s σ C.H _ _ v us Q I rx rxs ⟨p, ys.map V.str, .str y, ys.idxOf y, .str y, rfl, rfl, .inl (.inl ha), rfl, ?_, ?_, ?_, fun m z' hm hz => ?_, q C Grow.refl r _ (repI _)⟩
        · rw [List.all_eq_true]
          intro z hz
          obtain ⟨u, _, rfl⟩ := List.mem_map.mp hz
          rfl
        · rw [List.getElem?_map, g1]; rfl
        · show (y == y) = true
          exact beq_self_eq_true y
        · rw [List.getElem?_map] at hz
          obtain ⟨u, hu, rfl⟩ := Option.map_eq_some_iff.mp hz
          show (u == y) = false
          exact beq_eq_false_iff_ne.mpr (g2 m hm u hu)
      · cases e
    · cases e
  · cases e
end Mi
set_option Elab.async false
set_option linter.all false
set_option maxRecDepth 100000
set_option maxHeartbeats 4000000
namespace Lw
open PySem PySem.Spec PyProof.Rows L2 Mi
/-- what the head tells -/
structure Gs (K : PySem.W.Frag) (mg : Str → Option Value) : Prop where
  b_all : mg "all" = none
  b_any : mg "any" = none
  b_bool : mg "bool" = none
  b_dict : mg "dict" = none
  b_enumerate : mg "enumerate" = none
  b_int : mg "int" = none
  b_isinstance : mg "isinstance" = none
  b_len : mg "len" = none
  b_list : mg "list" = none
  b_max : mg "max" = none
  b_range : mg "range" = none
  b_str : mg "str" = none
  b_sum : mg "sum" = none
  b_tuple : mg "tuple" = none
  b_zip : mg "zip" = none
  k_BLANK : KC mg K "BLANK" d_BLANK
  k_FAULTS : KC mg K "FAULTS" d_FAULTS
  k_PARTS : KC mg K "PARTS" d_PARTS
  k_VALUES : KC mg K "VALUES" d_VALUES
  gc_Rule : mg "Rule" = some (.ref (He.ga K "Rule"))
  c_Rule : Cls K (He.ga K "Rule")
  n_Rule_checking : NoAttr K (He.ga K "Rule") "checking"
  n_Rule_halves : NoAttr K (He.ga K "Rule") "halves"
  n_Rule_singles : NoAttr K (He.ga K "Rule") "singles"
  n_Rule_telling : NoAttr K (He.ga K "Rule") "telling"
  m_Rule_parts : Meth K (He.ga K "Rule") "parts" (He.ma K (He.ga K "Rule") "parts")
  mk_Rule : Mk K (He.ga K "Rule") (He.ma K (He.ga K "Rule") "__init__")
def m_law_begin_s0 : MS := (mRet (mCell (mCons (mCallF (lstM true) (mCons (mVar 0) mNil)) (mCons (mC (.int 0)) (mCons (mC (.int 0)) (mCons (mC (.int 7)) mNil))))))
def m_law_begin : MF := mFn 1 (m_law_begin_s0)
theorem sc_m_law_begin : FnScope ["_law_script"] ["_law_script"] (defScope s_law_begin) := ⟨rfl, rfl, rfl, by decide +kernel, rfl, by decide +kernel, by decide +kernel⟩
theorem ok_law_begin {P : Program} {w : PySem.World} {K : PySem.W.Frag} {mg : Str → Option Value} {base : Heap} {f : Addr} {fd : FuncData} (g : Gs K mg) (F : FunD K "_law_begin" "_law_begin" (defArgs s_law_begin) (defBody s_law_begin) (defScope s_law_begin) [] [] f fd) (hg : mg "_law_begin" = some (.ref f)) : FN P w K mg base 1 1 "_law_begin" m_law_begin := by
  refine ⟨f, fd, ["_law_script"], ?_, hg, F.kp, F.bindsN fun _ _ _ _ _ _ us hl => match us, hl with | [_], _ => rfl⟩
  refine F.ok sc_m_law_begin (fun vs H Q E h => h.1) (fun cdv A outer s H vs Q E hr h => body_ok (m := m_law_begin_s0) (by decide) ?_ h)
  exact (sss_one (ss_ret (se_cell (sa_cons (se_callTy (crM_list true) pu_list rfl g.b_list bt_list (sa_cons (sv 0) sa_nil)) (sa_cons se_int (sa_cons se_int (sa_cons se_int sa_nil)))) (lenCons (lenCons (lenCons (lenCons lenNil)))) (by decide))))
def m_law_values_s0 : MS := (mRet (mLst (mCons (mLst (mCons (mC (.str "none")) (mCons (mC (.str "room")) (mCons (mC (.str "both")) mNil)))) (mCons (mLst (mCons (mC (.str "keep")) (mCons (mC (.str "move")) (mCons (mC (.str "reset")) mNil)))) (mCons (mLst (mCons (mC (.str "left")) (mCons (mC (.str "undone")) mNil))) (mCons (mLst (mCons (mC (.str "now")) (mCons (mC (.str "seen")) mNil))) mNil))))))
def m_law_values : MF := mFn 0 (m_law_values_s0)
theorem sc_m_law_values : FnScope [] [] (defScope s_law_values) := ⟨rfl, rfl, rfl, by decide +kernel, rfl, by decide +kernel, by decide +kernel⟩
theorem ok_law_values {P : Program} {w : PySem.World} {K : PySem.W.Frag} {mg : Str → Option Value} {base : Heap} {f : Addr} {fd : FuncData} (g : Gs K mg) (F : FunD K "_law_values" "_law_values" (defArgs s_law_values) (defBody s_law_values) (defScope s_law_values) [] [] f fd) (hg : mg "_law_values" = some (.ref f)) : FN P w K mg base 1 0 "_law_values" m_law_values := by
  refine ⟨f, fd, [], ?_, hg, F.kp, F.bindsN fun _ _ _ _ _ _ us hl => match us, hl with | [], _ => rfl⟩
  refine F.ok sc_m_law_values (fun vs H Q E h => h.1) (fun cdv A outer s H vs Q E hr h => body_ok (m := m_law_values_s0) (by decide) ?_ h)
  exact (sss_one (ss_ret (se_lst (sa_cons (se_lst (sa_cons se_str (sa_cons se_str (sa_cons se_str sa_nil))) (lenCons (lenCons (lenCons lenNil))) (by decide)) (sa_cons (se_lst (sa_cons se_str (sa_cons se_str (sa_cons se_str sa_nil))) (lenCons (lenCons (lenCons lenNil))) (by decide)) (sa_cons (se_lst (sa_cons se_str (sa_cons se_str sa_nil)) (lenCons (lenCons lenNil)) (by decide)) (sa_cons (se_lst (sa_cons se_str (sa_cons se_str sa_nil)) (lenCons (lenCons lenNil)) (by decide)) sa_nil)))) (lenCons (lenCons (lenCons (lenCons lenNil)))) (by decide))))
theorem px_law_values : ∀ S c d S', m_law_values [] S ≠ .exc c d S' := by intro S c d S' h; first | (exact absurd h (by intro h; cases h)) | cases h
def m_law_draw_s2 : MS := (mAsg (mOp idxM (mOp idxM (mVar 0) (mC (.int 0))) (mOp idxM (mVar 0) (mC (.int 1)))) (tgName 3))
def m_law_draw_s3 : MS := (mSub (mOp addM (mOp idxM (mVar 0) (mC (.int 1))) (mC (.int 1))) (mVar 0) (mC (.int 1)))
def m_law_draw_s5 : MS := (mSub (mVar 3) (mVar 0) (mC (.int 2)))
def m_law_draw_s6 : MS := (mSub (mOp modM (mCallF intM (mCons (mOp addM (mOp addM (mOp mulM (mOp idxM (mVar 0) (mC (.int 3))) (mC (.int 48271))) (mOp mulM (mVar 3) (mC (.int 69621)))) (mC (.int 11))) mNil)) (mC (.int 2147483647))) (mVar 0) (mC (.int 3)))
def m_law_draw_s4 : MS := (mIfS (mTest (mOp geM (mVar 3) (mOp powM (mC (.int 10)) (mC (.int 18))))) m_law_draw_s5 m_law_draw_s6)
def m_law_draw_s7 : MS := (mSub (mOp modM (mCallF intM (mCons (mOp addM (mOp mulM (mOp idxM (mVar 0) (mC (.int 3))) (mC (.int 48271))) (mC (.int 7))) mNil)) (mC (.int 2147483647))) (mVar 0) (mC (.int 3)))
def m_law_draw_s1 : MS := (mIfS (mTest (mOp ltM (mOp idxM (mVar 0) (mC (.int 1))) (mCallF lenM (mCons (mOp idxM (mVar 0) (mC (.int 0))) mNil)))) (mSeq m_law_draw_s2 (mSeq m_law_draw_s3 m_law_draw_s4)) m_law_draw_s7)
def m_law_draw_s0 : MS := (mIfS (mTest (mOp eqM (mOp idxM (mVar 0) (mC (.int 2))) (mC (.int 0)))) m_law_draw_s1 mNext)
def m_law_draw_s9 : MS := (mAsg (mOp modM (mCallF intM (mCons (mOp idxM (mVar 0) (mC (.int 2))) mNil)) (mVar 1)) (tgName 2))
def m_law_draw_s10 : MS := (mSub (mOp fdivM (mOp idxM (mVar 0) (mC (.int 2))) (mVar 1)) (mVar 0) (mC (.int 2)))
def m_law_draw_s11 : MS := (mRet (mVar 2))
def m_law_draw_s8 : MS := (mIfS (mTest (mOp gtM (mOp idxM (mVar 0) (mC (.int 2))) (mC (.int 0)))) (mSeq m_law_draw_s9 (mSeq m_law_draw_s10 m_law_draw_s11)) mNext)
def m_law_draw_s12 : MS := (mRet (mOp modM (mOp modM (mCallF intM (mCons (mOp mulM (mOp idxM (mVar 0) (mC (.int 3))) (mC (.int 16807))) mNil)) (mC (.int 2147483629))) (mVar 1)))
def m_law_draw : MF := mFn 4 ((mSeq m_law_draw_s0 (mSeq m_law_draw_s8 m_law_draw_s12)))
theorem sc_m_law_draw : FnScope ["_law_draws", "_law_size", "_law_found", "_law_cell"] ["_law_draws", "_law_size"] (defScope s_law_draw) := ⟨rfl, rfl, rfl, by decide +kernel, rfl, by decide +kernel, by decide +kernel⟩
theorem ok_law_draw {P : Program} {w : PySem.World} {K : PySem.W.Frag} {mg : Str → Option Value} {base : Heap} {f : Addr} {fd : FuncData} (g : Gs K mg) (F : FunD K "_law_draw" "_law_draw" (defArgs s_law_draw) (defBody s_law_draw) (defScope s_law_draw) [] [] f fd) (hg : mg "_law_draw" = some (.ref f)) : FN P w K mg base 1 2 "_law_draw" m_law_draw := by
  refine ⟨f, fd, ["_law_draws", "_law_size"], ?_, hg, F.kp, F.bindsN fun _ _ _ _ _ _ us hl => match us, hl with | [_, _], _ => rfl⟩
  refine F.ok sc_m_law_draw (fun vs H Q E h => h.1) (fun cdv A outer s H vs Q E hr h => body_ok (m := (mSeq m_law_draw_s0 (mSeq m_law_draw_s8 m_law_draw_s12))) (by decide) ?_ h)
  exact (sss_cons (ss_if (st_cmp (opM_eq (Room.u64 hr)) pu_eq (nomark _) (se_ix (Room.u1 hr) (fun _ _ => rfl) (sv 0) se_int pu_ix) se_int) (sss_one (ss_if (st_cmp (opM_int op_lt) pu_cmpI (nomark _) (se_ix (Room.u1 hr) (fun _ _ => rfl) (sv 0) se_int pu_ix) (se_callB crM_len pu_len rfl g.b_len bt_len (sa_cons (se_ix (Room.u1 hr) (fun _ _ => rfl) (sv 0) se_int pu_ix) sa_nil))) (sss_cons (sset 3 sc_m_law_draw.nd (se_ix (Room.u1 hr) (fun _ _ => rfl) (se_ix (Room.u1 hr) (fun _ _ => rfl) (sv 0) se_int pu_ix) (se_ix (Room.u1 hr) (fun _ _ => rfl) (sv 0) se_int pu_ix) pu_ix)) (sss_cons (ss_sub (Room.u1 hr) (se_op opM_add pu_add (se_ix (Room.u1 hr) (fun _ _ => rfl) (sv 0) se_int pu_ix) se_int) (sv 0) se_int) (sss_one (ss_if (st_cmp (opM_int op_ge) pu_cmpI (nomark _) (sv 3) (se_op opM_pow pu_pow se_int se_int)) (sss_one (ss_sub (Room.u1 hr) (sv 3) (sv 0) se_int)) (sss_one (ss_sub (Room.u1 hr) (se_op opM_mod pu_mod (se_callTy crM_int pu_int rfl g.b_int bt_int (sa_cons (se_op opM_add pu_add (se_op opM_add pu_add (se_op opM_mul pu_mul (se_ix (Room.u1 hr) (fun _ _ => rfl) (sv 0) se_int pu_ix) se_int) (se_op opM_mul pu_mul (sv 3) se_int)) se_int) sa_nil)) se_int) (sv 0) se_int)))))) (sss_one (ss_sub (Room.u1 hr) (se_op opM_mod pu_mod (se_callTy crM_int pu_int rfl g.b_int bt_int (sa_cons (se_op opM_add pu_add (se_op opM_mul pu_mul (se_ix (Room.u1 hr) (fun _ _ => rfl) (sv 0) se_int pu_ix) se_int) se_int) sa_nil)) se_int) (sv 0) se_int)))) sss_nil) (sss_cons (ss_if (st_cmp (opM_int op_gt) pu_cmpI (nomark _) (se_ix (Room.u1 hr) (fun _ _ => rfl) (sv 0) se_int pu_ix) se_int) (sss_cons (sset 2 sc_m_law_draw.nd (se_op opM_mod pu_mod (se_callTy crM_int pu_int rfl g.b_int bt_int (sa_cons (se_ix (Room.u1 hr) (fun _ _ => rfl) (sv 0) se_int pu_ix) sa_nil)) (sv 1))) (sss_cons (ss_sub (Room.u1 hr) (se_op opM_fdiv pu_fdiv (se_ix (Room.u1 hr) (fun _ _ => rfl) (sv 0) se_int pu_ix) (sv 1)) (sv 0) se_int) (sss_one (ss_ret (sv 2))))) sss_nil) (sss_one (ss_ret (se_op opM_mod pu_mod (se_op opM_mod pu_mod (se_callTy crM_int pu_int rfl g.b_int bt_int (sa_cons (se_op opM_mul pu_mul (se_ix (Room.u1 hr) (fun _ _ => rfl) (sv 0) se_int pu_ix) se_int) sa_nil)) se_int) (sv 1))))))
def m_law_parts_s0 : MS := (mRet (mLc true [1] (mSrc (mCallF m_law_values mNil)) (tgName 1) mTrue (mOp idxM (mVar 1) (mCallF m_law_draw (mCons (mVar 0) (mCons (mCallF lenM (mCons (mVar 1) mNil)) mNil))))))
def m_law_parts : MF := mFn 2 (m_law_parts_s0)
theorem sc_m_law_parts : FnScope ["_law_draws", "_law_some"] ["_law_draws"] (defScope s_law_parts) := ⟨rfl, rfl, rfl, by decide +kernel, rfl, by decide +kernel, by decide +kernel⟩
theorem ok_law_parts {P : Program} {w : PySem.World} {K : PySem.W.Frag} {mg : Str → Option Value} {base : Heap} {f : Addr} {fd : FuncData} (g : Gs K mg) (h_law_values : FN P w K mg base 1 0 "_law_values" m_law_values) (h_law_draw : FN P w K mg base 1 2 "_law_draw" m_law_draw) (F : FunD K "_law_parts" "_law_parts" (defArgs s_law_parts) (defBody s_law_parts) (defScope s_law_parts) [] [] f fd) (hg : mg "_law_parts" = some (.ref f)) : FN P w K mg base 2 1 "_law_parts" m_law_parts := by
  refine ⟨f, fd, ["_law_draws"], ?_, hg, F.kp, F.bindsN fun _ _ _ _ _ _ us hl => match us, hl with | [_], _ => rfl⟩
  refine F.ok sc_m_law_parts (fun vs H Q E h => h.1) (fun cdv A outer s H vs Q E hr h => body_ok (m := m_law_parts_s0) (by decide) ?_ h)
  exact (sss_one (ss_ret (se_lc (fr := true) (own := [("_law_some", 1)]) rfl sc_m_law_parts.nd (si_seq (se_callN0 h_law_values hr (by decide) rfl px_law_values)) (blkOk_by rfl) (fun _ _ _ _ _ => (sn 1 sc_m_law_parts.nd)) (fun _ _ _ _ _ => sts_nil) (fun _ _ _ _ _ => (se_ix (Room.u1 hr) (fun _ _ => rfl) (sv 1) (se_callN h_law_draw hr (by decide) rfl takesNo (sa_cons (sv 0) (sa_cons (se_callB crM_len pu_len rfl g.b_len bt_len (sa_cons (sv 1) sa_nil)) sa_nil)) (lenCons (lenCons lenNil))) pu_ix)) (by decide))))
def m_law_hour_step_s0 : MS := (mAsg (mCallF m_law_draw (mCons (mVar 0) (mCons (mC (.int 9)) mNil))) (tgName 3))
def m_law_hour_step_s2 : MS := (mRet (mTup (mCons (mC (.str "find")) (mCons (mCallF m_law_draw (mCons (mVar 0) (mCons (mVar 2) mNil))) mNil))))
def m_law_hour_step_s1 : MS := (mIfS (mTest (mOp leM (mVar 3) (mC (.int 1)))) m_law_hour_step_s2 mNext)
def m_law_hour_step_s4 : MS := (mRet (mTup (mCons (mC (.str "room")) (mCons (mCallF m_law_draw (mCons (mVar 0) (mCons (mVar 2) mNil))) mNil))))
def m_law_hour_step_s3 : MS := (mIfS (mTest (mOp leM (mVar 3) (mC (.int 3)))) m_law_hour_step_s4 mNext)
def m_law_hour_step_s6 : MS := (mRet (mTup (mCons (mC (.str "person")) mNil)))
def m_law_hour_step_s5 : MS := (mIfS (mTest (mOp leM (mVar 3) (mC (.int 5)))) m_law_hour_step_s6 mNext)
def m_law_hour_step_s8 : MS := (mRet (mTup (mCons (mC (.str "one")) (mCons (mCallF m_law_draw (mCons (mVar 0) (mCons (mVar 1) mNil))) (mCons (mCallF m_law_draw (mCons (mVar 0) (mCons (mVar 2) mNil))) mNil)))))
def m_law_hour_step_s7 : MS := (mIfS (mTest (mOp eqM (mVar 3) (mC (.int 6)))) m_law_hour_step_s8 mNext)
def m_law_hour_step_s9 : MS := (mRet (mOp idxM (mLst (mCons (mTup (mCons (mC (.str "tell")) mNil)) (mCons (mTup (mCons (mC (.str "off")) (mCons (mCallF m_law_draw (mCons (mVar 0) (mCons (mVar 1) mNil))) mNil))) mNil))) (mCallF intM (mCons (mAndV (mOp eqM (mVar 3) (mC (.int 8))) (mOp eqM (mCallF m_law_draw (mCons (mVar 0) (mCons (mC (.int 2)) mNil))) (mC (.int 0)))) mNil))))
def m_law_hour_step : MF := mFn 4 ((mSeq m_law_hour_step_s0 (mSeq m_law_hour_step_s1 (mSeq m_law_hour_step_s3 (mSeq m_law_hour_step_s5 (mSeq m_law_hour_step_s7 m_law_hour_step_s9))))))
theorem sc_m_law_hour_step : FnScope ["_law_draws", "_law_days", "_law_hours", "_law_word"] ["_law_draws", "_law_days", "_law_hours"] (defScope s_law_hour_step) := ⟨rfl, rfl, rfl, by decide +kernel, rfl, by decide +kernel, by decide +kernel⟩
theorem ok_law_hour_step {P : Program} {w : PySem.World} {K : PySem.W.Frag} {mg : Str → Option Value} {base : Heap} {f : Addr} {fd : FuncData} (g : Gs K mg) (h_law_draw : FN P w K mg base 1 2 "_law_draw" m_law_draw) (F : FunD K "_law_hour_step" "_law_hour_step" (defArgs s_law_hour_step) (defBody s_law_hour_step) (defScope s_law_hour_step) [] [] f fd) (hg : mg "_law_hour_step" = some (.ref f)) : FN P w K mg base 2 3 "_law_hour_step" m_law_hour_step := by
  refine ⟨f, fd, ["_law_draws", "_law_days", "_law_hours"], ?_, hg, F.kp, F.bindsN fun _ _ _ _ _ _ us hl => match us, hl with | [_, _, _], _ => rfl⟩
  refine F.ok sc_m_law_hour_step (fun vs H Q E h => h.1) (fun cdv A outer s H vs Q E hr h => body_ok (m := (mSeq m_law_hour_step_s0 (mSeq m_law_hour_step_s1 (mSeq m_law_hour_step_s3 (mSeq m_law_hour_step_s5 (mSeq m_law_hour_step_s7 m_law_hour_step_s9)))))) (by decide) ?_ h)
  exact (sss_cons (sset 3 sc_m_law_hour_step.nd (se_callN h_law_draw hr (by decide) rfl takes_cx (sa_cons (sv 0) (sa_cons se_int sa_nil)) (lenCons (lenCons lenNil)))) (sss_cons (ss_if (st_cmp (opM_int op_le) pu_cmpI (nomark _) (sv 3) se_int) (sss_one (ss_ret (se_tup (sa_cons se_str (sa_cons (se_callN h_law_draw hr (by decide) rfl takes_cx (sa_cons (sv 0) (sa_cons (sv 2) sa_nil)) (lenCons (lenCons lenNil))) sa_nil)) (lenCons (lenCons lenNil)) (by decide)))) sss_nil) (sss_cons (ss_if (st_cmp (opM_int op_le) pu_cmpI (nomark _) (sv 3) se_int) (sss_one (ss_ret (se_tup (sa_cons se_str (sa_cons (se_callN h_law_draw hr (by decide) rfl takes_cx (sa_cons (sv 0) (sa_cons (sv 2) sa_nil)) (lenCons (lenCons lenNil))) sa_nil)) (lenCons (lenCons lenNil)) (by decide)))) sss_nil) (sss_cons (ss_if (st_cmp (opM_int op_le) pu_cmpI (nomark _) (sv 3) se_int) (sss_one (ss_ret (se_tup (sa_cons se_str sa_nil) (lenCons lenNil) (by decide)))) sss_nil) (sss_cons (ss_if (st_cmp (opM_eq (Room.u64 hr)) pu_eq (nomark _) (sv 3) se_int) (sss_one (ss_ret (se_tup (sa_cons se_str (sa_cons (se_callN h_law_draw hr (by decide) rfl takes_cx (sa_cons (sv 0) (sa_cons (sv 1) sa_nil)) (lenCons (lenCons lenNil))) (sa_cons (se_callN h_law_draw hr (by decide) rfl takes_cx (sa_cons (sv 0) (sa_cons (sv 2) sa_nil)) (lenCons (lenCons lenNil))) sa_nil))) (lenCons (lenCons (lenCons lenNil))) (by decide)))) sss_nil) (sss_one (ss_ret (se_ix (Room.u1 hr) (fun _ _ => rfl) (se_lst (sa_cons (se_tup (sa_cons se_str sa_nil) (lenCons lenNil) (by decide)) (sa_cons (se_tup (sa_cons se_str (sa_cons (se_callN h_law_draw hr (by decide) rfl takes_cx (sa_cons (sv 0) (sa_cons (sv 1) sa_nil)) (lenCons (lenCons lenNil))) sa_nil)) (lenCons (lenCons lenNil)) (by decide)) sa_nil)) (lenCons (lenCons lenNil)) (by decide)) (se_callTy crM_int pu_int rfl g.b_int bt_int (sa_cons (se_and (se_cmp (opM_eq (Room.u64 hr)) pu_eq (nomark _) (sv 3) se_int) (se_one (se_cmp (opM_eq (Room.u64 hr)) pu_eq (nomark _) (se_callN h_law_draw hr (by decide) rfl takes_cx (sa_cons (sv 0) (sa_cons se_int sa_nil)) (lenCons (lenCons lenNil))) se_int))) sa_nil)) pu_ix))))))))
def m_law_world_s0 : MS := (mAsg (mOp addM (mC (.int 1)) (mCallF m_law_draw (mCons (mVar 0) (mCons (mC (.int 2)) mNil)))) (tgName 2))
def m_law_world_s1 : MS := (mAsg (mOp addM (mC (.int 2)) (mCallF m_law_draw (mCons (mVar 0) (mCons (mC (.int 2)) mNil)))) (tgName 3))
def m_law_world_s2 : MS := (mAsg (mOp addM (mC (.int 1)) (mCallF m_law_draw (mCons (mVar 0) (mCons (mVar 3) mNil)))) (tgName 4))
def m_law_world_s3 : MS := (mAsg (mOp idxM (mLst (mCons (mLst (mCons (mC (.int 0)) (mCons (mC (.int 0)) (mCons (mC (.int 0)) mNil)))) (mCons (mLst (mCons (mC (.int 0)) (mCons (mC (.int 0)) (mCons (mC (.int 1)) mNil)))) (mCons (mLst (mCons (mC (.int 0)) (mCons (mC (.int 1)) (mCons (mC (.int 2)) mNil)))) (mCons (mLst (mCons (mC (.int 1)) (mCons (mC (.int 1)) (mCons (mC (.int 0)) mNil)))) mNil))))) (mCallF m_law_draw (mCons (mVar 0) (mCons (mC (.int 4)) mNil)))) (tgName 5))
def m_law_world_s4 : MS := (mAsg (mCallF m_law_draw (mCons (mVar 0) (mCons (mVar 3) mNil))) (tgName 6))
def m_law_world_s5 : MS := (mAsg (mLc true [12] (mRng (mCons (mVar 4) mNil)) (tgName 12) mTrue (mTup (mCons (mOp idxM (mVar 5) (mVar 12)) (mCons (mOp modM (mOp addM (mVar 12) (mVar 6)) (mVar 3)) mNil)))) (tgName 7))
def m_law_world_s6 : MS := (mAsg (mCell mNil) (tgName 8))
def m_law_world_s8 : MS := (mAsg (mCallF m_law_draw (mCons (mVar 0) (mCons (mVar 4) mNil))) (tgName 10))
def m_law_world_s9 : MS := (mAsg (mLc true [12] (mRng (mCons (mVar 9) mNil)) (tgName 12) mTrue (mCallF m_law_hour_step (mCons (mVar 0) (mCons (mVar 2) (mCons (mVar 3) mNil))))) (tgName 11))
def m_law_world_s11 : MS := (mAsg (mCallF m_law_draw (mCons (mVar 0) (mCons (mVar 3) mNil))) (tgName 13))
def m_law_world_s12 : MS := (mAsg (mSlice (mSlice (mLst (mCons (mTup (mCons (mC (.str "find")) (mCons (mVar 13) mNil))) (mCons (mTup (mCons (mC (.str "room")) (mCons (mVar 13) mNil))) (mCons (mTup (mCons (mC (.str "person")) mNil)) (mCons (mTup (mCons (mC (.str "tell")) mNil)) mNil))))) (moSome (mOp subM (mC (.int 4)) (mCallF maxM (mCons (mVar 9) (mCons (mC (.int 3)) mNil))))) moNone) moNone (moSome (mVar 9))) (tgName 11))
def m_law_world_s10 : MS := (mIfS (mAnd (mTest (mOp eqM (mCallF m_law_draw (mCons (mVar 0) (mCons (mC (.int 2)) mNil))) (mC (.int 0)))) (mTest (mOp geM (mVar 9) (mC (.int 2))))) (mSeq m_law_world_s11 m_law_world_s12) mNext)
def m_law_world_s13 : MS := (mDrop (mApp (mVar 8) (mTup (mCons (mVar 10) (mCons (mCallF tupM (mCons (mVar 11) mNil)) mNil)))))
def m_law_world_s7 : MS := (mFor (mSrc (mVar 1)) (tgName 9) (mSeq m_law_world_s8 (mSeq m_law_world_s9 (mSeq m_law_world_s10 m_law_world_s13))))
def m_law_world_s14 : MS := (mRet (mTup (mCons (mVar 2) (mCons (mVar 3) (mCons (mCallF tupM (mCons (mVar 7) mNil)) (mCons (mCallF tupM (mCons (mVar 8) mNil)) mNil))))))
def m_law_world : MF := mFn 14 ((mSeq m_law_world_s0 (mSeq m_law_world_s1 (mSeq m_law_world_s2 (mSeq m_law_world_s3 (mSeq m_law_world_s4 (mSeq m_law_world_s5 (mSeq m_law_world_s6 (mSeq m_law_world_s7 m_law_world_s14)))))))))
theorem sc_m_law_world : FnScope ["_law_draws", "_law_sizes_here", "_law_days", "_law_hours", "_law_many", "_law_people", "_law_turn", "_law_series", "_law_hands", "_law_size", "_law_which", "_law_steps", "_law_k", "_law_hour"] ["_law_draws", "_law_sizes_here"] (defScope s_law_world) := ⟨rfl, rfl, rfl, by decide +kernel, rfl, by decide +kernel, by decide +kernel⟩
theorem ok_law_world {P : Program} {w : PySem.World} {K : PySem.W.Frag} {mg : Str → Option Value} {base : Heap} {f : Addr} {fd : FuncData} (g : Gs K mg) (h_law_draw : FN P w K mg base 1 2 "_law_draw" m_law_draw) (h_law_hour_step : FN P w K mg base 2 3 "_law_hour_step" m_law_hour_step) (F : FunD K "_law_world" "_law_world" (defArgs s_law_world) (defBody s_law_world) (defScope s_law_world) [] [] f fd) (hg : mg "_law_world" = some (.ref f)) : FN P w K mg base 3 2 "_law_world" m_law_world := by
  refine ⟨f, fd, ["_law_draws", "_law_sizes_here"], ?_, hg, F.kp, F.bindsN fun _ _ _ _ _ _ us hl => match us, hl with | [_, _], _ => rfl⟩
  refine F.ok sc_m_law_world (fun vs H Q E h => h.1) (fun cdv A outer s H vs Q E hr h => body_ok (m := (mSeq m_law_world_s0 (mSeq m_law_world_s1 (mSeq m_law_world_s2 (mSeq m_law_world_s3 (mSeq m_law_world_s4 (mSeq m_law_world_s5 (mSeq m_law_world_s6 (mSeq m_law_world_s7 m_law_world_s14))))))))) (by decide) ?_ h)
  exact (sss_cons (sset 2 sc_m_law_world.nd (se_op opM_add pu_add se_int (se_callN h_law_draw hr (by decide) rfl takes_cx (sa_cons (sv 0) (sa_cons se_int sa_nil)) (lenCons (lenCons lenNil))))) (sss_cons (sset 3 sc_m_law_world.nd (se_op opM_add pu_add se_int (se_callN h_law_draw hr (by decide) rfl takes_cx (sa_cons (sv 0) (sa_cons se_int sa_nil)) (lenCons (lenCons lenNil))))) (sss_cons (sset 4 sc_m_law_world.nd (se_op opM_add pu_add se_int (se_callN h_law_draw hr (by decide) rfl takes_cx (sa_cons (sv 0) (sa_cons (sv 3) sa_nil)) (lenCons (lenCons lenNil))))) (sss_cons (sset 5 sc_m_law_world.nd (se_ix (Room.u1 hr) (fun _ _ => rfl) (se_lst (sa_cons (se_lst (sa_cons se_int (sa_cons se_int (sa_cons se_int sa_nil))) (lenCons (lenCons (lenCons lenNil))) (by decide)) (sa_cons (se_lst (sa_cons se_int (sa_cons se_int (sa_cons se_int sa_nil))) (lenCons (lenCons (lenCons lenNil))) (by decide)) (sa_cons (se_lst (sa_cons se_int (sa_cons se_int (sa_cons se_int sa_nil))) (lenCons (lenCons (lenCons lenNil))) (by decide)) (sa_cons (se_lst (sa_cons se_int (sa_cons se_int (sa_cons se_int sa_nil))) (lenCons (lenCons (lenCons lenNil))) (by decide)) sa_nil)))) (lenCons (lenCons (lenCons (lenCons lenNil)))) (by decide)) (se_callN h_law_draw hr (by decide) rfl takes_cx (sa_cons (sv 0) (sa_cons se_int sa_nil)) (lenCons (lenCons lenNil))) pu_ix)) (sss_cons (sset 6 sc_m_law_world.nd (se_callN h_law_draw hr (by decide) rfl takes_cx (sa_cons (sv 0) (sa_cons (sv 3) sa_nil)) (lenCons (lenCons lenNil)))) (sss_cons (ss_setLc (fr := true) (own := [("_law_k", 12)]) (i := 7) rfl sc_m_law_world.nd rfl rfl (sw_true rfl rfl rfl rfl) (si_rng rfl g.b_range (sa_cons (sv 4) sa_nil)) (blkOk_by rfl) (fun _ _ _ _ _ => (sn 12 sc_m_law_world.nd)) (fun _ _ _ _ _ => sts_nil) (fun _ _ _ _ _ => (se_tup (sa_cons (se_ix (Room.u1 hr) (fun _ _ => rfl) (sv 5) (sv 12) pu_ix) (sa_cons (se_op opM_mod pu_mod (se_op opM_add pu_add (sv 12) (sv 6)) (sv 3)) sa_nil)) (lenCons (lenCons lenNil)) (by decide))) (by decide)) (sss_cons (sset 8 sc_m_law_world.nd (se_cell sa_nil lenNil (by decide))) (sss_cons (ss_for pass_cx rfl (si_seq (sv 1)) (sn 9 sc_m_law_world.nd) (sss_cons (sset 10 sc_m_law_world.nd (se_callN h_law_draw hr (by decide) rfl takes_cx (sa_cons (sv 0) (sa_cons (sv 4) sa_nil)) (lenCons (lenCons lenNil)))) (sss_cons (ss_setLc (fr := true) (own := [("_law_k", 12)]) (i := 11) rfl sc_m_law_world.nd rfl rfl (sw_true rfl rfl rfl rfl) (si_rng rfl g.b_range (sa_cons (sv 9) sa_nil)) (blkOk_by rfl) (fun _ _ _ _ _ => (sn 12 sc_m_law_world.nd)) (fun _ _ _ _ _ => sts_nil) (fun _ _ _ _ _ => (se_callN h_law_hour_step hr (by decide) rfl takesNo (sa_cons (sv 0) (sa_cons (sv 2) (sa_cons (sv 3) sa_nil))) (lenCons (lenCons (lenCons lenNil))))) (by decide)) (sss_cons (ss_if (st_w (sw_and (st_cmp (opM_eq (Room.u64 hr)) pu_eq (nomark _) (se_callN h_law_draw hr (by decide) rfl takes_cx (sa_cons (sv 0) (sa_cons se_int sa_nil)) (lenCons (lenCons lenNil))) se_int) (sw_and1 (st_cmp (opM_int op_ge) pu_cmpI (nomark _) (sv 9) se_int)))) (sss_cons (sset 13 sc_m_law_world.nd (se_callN h_law_draw hr (by decide) rfl takes_cx (sa_cons (sv 0) (sa_cons (sv 3) sa_nil)) (lenCons (lenCons lenNil)))) (sss_one (sset 11 sc_m_law_world.nd (se_slice (se_slice (se_lst (sa_cons (se_tup (sa_cons se_str (sa_cons (sv 13) sa_nil)) (lenCons (lenCons lenNil)) (by decide)) (sa_cons (se_tup (sa_cons se_str (sa_cons (sv 13) sa_nil)) (lenCons (lenCons lenNil)) (by decide)) (sa_cons (se_tup (sa_cons se_str sa_nil) (lenCons lenNil) (by decide)) (sa_cons (se_tup (sa_cons se_str sa_nil) (lenCons lenNil) (by decide)) sa_nil)))) (lenCons (lenCons (lenCons (lenCons lenNil)))) (by decide)) (so_some (se_op opM_sub pu_sub se_int (se_callB (crM_max rfl) pu_max rfl g.b_max bt_max (sa_cons (sv 9) (sa_cons se_int sa_nil))))) so_none) so_none (so_some (sv 9)))))) sss_nil) (sss_one (ss_expr (se_app (sv 8) (se_tup (sa_cons (sv 10) (sa_cons (se_callTy crM_tuple pu_tuple rfl g.b_tuple bt_tuple (sa_cons (sv 11) sa_nil)) sa_nil)) (lenCons (lenCons lenNil)) (by decide))))))))) (sss_one (ss_ret (se_tup (sa_cons (sv 2) (sa_cons (sv 3) (sa_cons (se_callTy crM_tuple pu_tuple rfl g.b_tuple bt_tuple (sa_cons (sv 7) sa_nil)) (sa_cons (se_callTy crM_tuple pu_tuple rfl g.b_tuple bt_tuple (sa_cons (sv 8) sa_nil)) sa_nil)))) (lenCons (lenCons (lenCons (lenCons lenNil)))) (by decide))))))))))))
def m_law_new_s0 : MS := (mRet (mDct true [.inr "who", .inr "base", .inr "days"] (mCons (mVar 0) (mCons (mVar 1) (mCons (mLc true [3] (mRng (mCons (mVar 2) mNil)) (tgName 3) mTrue (mLst (mCons (mVar 1) (mCons (mVar 1) (mCons (mC (.bl false)) mNil))))) mNil)))))
def m_law_new : MF := mFn 4 (m_law_new_s0)
theorem sc_m_law_new : FnScope ["_law_person_here", "_law_hour", "_law_days", "_law_day"] ["_law_person_here", "_law_hour", "_law_days"] (defScope s_law_new) := ⟨rfl, rfl, rfl, by decide +kernel, rfl, by decide +kernel, by decide +kernel⟩
theorem ok_law_new {P : Program} {w : PySem.World} {K : PySem.W.Frag} {mg : Str → Option Value} {base : Heap} {f : Addr} {fd : FuncData} (g : Gs K mg) (F : FunD K "_law_new" "_law_new" (defArgs s_law_new) (defBody s_law_new) (defScope s_law_new) [] [] f fd) (hg : mg "_law_new" = some (.ref f)) : FN P w K mg base 1 3 "_law_new" m_law_new := by
  refine ⟨f, fd, ["_law_person_here", "_law_hour", "_law_days"], ?_, hg, F.kp, F.bindsN fun _ _ _ _ _ _ us hl => match us, hl with | [_, _, _], _ => rfl⟩
  refine F.ok sc_m_law_new (fun vs H Q E h => h.1) (fun cdv A outer s H vs Q E hr h => body_ok (m := m_law_new_s0) (by decide) ?_ h)
  exact (sss_one (ss_ret (se_dict (fr := true) (sp_cons (sv 0) (sp_cons (sv 1) (sp_cons (se_lc (fr := true) (own := [("_law_day", 3)]) rfl sc_m_law_new.nd (si_rng rfl g.b_range (sa_cons (sv 2) sa_nil)) (blkOk_by rfl) (fun _ _ _ _ _ => (sn 3 sc_m_law_new.nd)) (fun _ _ _ _ _ => sts_nil) (fun _ _ _ _ _ => (se_lst (sa_cons (sv 1) (sa_cons (sv 1) (sa_cons se_bl sa_nil))) (lenCons (lenCons (lenCons lenNil))) (by decide))) (by decide)) sp_nil))) (lenCons (lenCons (lenCons lenNil))) rfl (by decide) (by simp) (by decide))))
def m_law_start_s0 : MS := (mAsg (mLc false [3] (mSrc (mOp idxM (mVar 0) (mC (.int 2)))) (tgName 3) mTrue (mCallF m_law_new (mCons (mOp idxM (mVar 3) (mC (.int 0))) (mCons (mOp idxM (mVar 3) (mC (.int 1))) (mCons (mOp idxM (mVar 0) (mC (.int 0))) mNil))))) (tgName 1))
def m_law_start_s1 : MS := (mAsg (mLc true [4] (mSrc (mOp idxM (mVar 0) (mC (.int 3)))) (tgName 4) mTrue (mDct false [.inr "next", .inr "found", .inr "seen", .inr "old"] (mCons (mC (.int 0)) (mCons (mC .non) (mCons (mC .non) (mCons (mC .non) mNil)))))) (tgName 2))
def m_law_start_s2 : MS := (mRet (mDct true [.inr "rows", .inr "hands"] (mCons (mVar 1) (mCons (mVar 2) mNil))))
def m_law_start : MF := mFn 5 ((mSeq m_law_start_s0 (mSeq m_law_start_s1 m_law_start_s2)))
theorem sc_m_law_start : FnScope ["_law_world_here", "_law_rows", "_law_hands", "_law_row", "_law_hand"] ["_law_world_here"] (defScope s_law_start) := ⟨rfl, rfl, rfl, by decide +kernel, rfl, by decide +kernel, by decide +kernel⟩
theorem ok_law_start {P : Program} {w : PySem.World} {K : PySem.W.Frag} {mg : Str → Option Value} {base : Heap} {f : Addr} {fd : FuncData} (g : Gs K mg) (h_law_new : FN P w K mg base 1 3 "_law_new" m_law_new) (F : FunD K "_law_start" "_law_start" (defArgs s_law_start) (defBody s_law_start) (defScope s_law_start) [] [] f fd) (hg : mg "_law_start" = some (.ref f)) : FN P w K mg base 2 1 "_law_start" m_law_start := by
  refine ⟨f, fd, ["_law_world_here"], ?_, hg, F.kp, F.bindsN fun _ _ _ _ _ _ us hl => match us, hl with | [_], _ => rfl⟩
  refine F.ok sc_m_law_start (fun vs H Q E h => h.1) (fun cdv A outer s H vs Q E hr h => body_ok (m := (mSeq m_law_start_s0 (mSeq m_law_start_s1 m_law_start_s2))) (by decide) ?_ h)
  exact (sss_cons (ss_setLc (fr := false) (own := [("_law_row", 3)]) (i := 1) rfl sc_m_law_start.nd rfl rfl (sw_true rfl rfl rfl rfl) (si_seq (se_ix (Room.u1 hr) (fun _ _ => rfl) (sv 0) se_int pu_ix)) (blkOk_by rfl) (fun _ _ _ _ _ => (sn 3 sc_m_law_start.nd)) (fun _ _ _ _ _ => sts_nil) (fun _ _ _ _ _ => (se_callN h_law_new hr (by decide) rfl takesNo (sa_cons (se_ix (Room.u1 hr) (fun _ _ => rfl) (sv 3) se_int pu_ix) (sa_cons (se_ix (Room.u1 hr) (fun _ _ => rfl) (sv 3) se_int pu_ix) (sa_cons (se_ix (Room.u1 hr) (fun _ _ => rfl) (sv 0) se_int pu_ix) sa_nil))) (lenCons (lenCons (lenCons lenNil))))) (by decide)) (sss_cons (ss_setLc (fr := true) (own := [("_law_hand", 4)]) (i := 2) rfl sc_m_law_start.nd rfl rfl (sw_true rfl rfl rfl rfl) (si_seq (se_ix (Room.u1 hr) (fun _ _ => rfl) (sv 0) se_int pu_ix)) (blkOk_by rfl) (fun _ _ _ _ _ => (sn 4 sc_m_law_start.nd)) (fun _ _ _ _ _ => sts_nil) (fun _ _ _ _ _ => (se_dict (fr := false) (sp_cons se_int (sp_cons se_non (sp_cons se_non (sp_cons se_non sp_nil)))) (lenCons (lenCons (lenCons (lenCons lenNil)))) rfl (by decide) (by simp) (by decide))) (by decide)) (sss_one (ss_ret (se_dict (fr := true) (sp_cons (sv 1) (sp_cons (sv 2) sp_nil)) (lenCons (lenCons lenNil)) rfl (by decide) (by simp) (by decide))))))
def m_law_key_s0 : MS := (mRet (mCallF tupM (mCons (mLc true [1] (mSrc (mVar 0)) (tgName 1) mTrue (mTup (mCons (mOp idxM (mVar 1) (mC (.str "who"))) (mCons (mOp idxM (mVar 1) (mC (.str "base"))) (mCons (mCallF tupM (mCons (mLc true [2] (mSrc (mOp idxM (mVar 1) (mC (.str "days")))) (tgName 2) mTrue (mCallF tupM (mCons (mVar 2) mNil))) mNil)) mNil))))) mNil)))
def m_law_key : MF := mFn 3 (m_law_key_s0)
theorem sc_m_law_key : FnScope ["_law_rows", "_law_row", "_law_day"] ["_law_rows"] (defScope s_law_key) := ⟨rfl, rfl, rfl, by decide +kernel, rfl, by decide +kernel, by decide +kernel⟩
theorem ok_law_key {P : Program} {w : PySem.World} {K : PySem.W.Frag} {mg : Str → Option Value} {base : Heap} {f : Addr} {fd : FuncData} (g : Gs K mg) (F : FunD K "_law_key" "_law_key" (defArgs s_law_key) (defBody s_law_key) (defScope s_law_key) [] [] f fd) (hg : mg "_law_key" = some (.ref f)) : FN P w K mg base 1 1 "_law_key" m_law_key := by
  refine ⟨f, fd, ["_law_rows"], ?_, hg, F.kp, F.bindsN fun _ _ _ _ _ _ us hl => match us, hl with | [_], _ => rfl⟩
  refine F.ok sc_m_law_key (fun vs H Q E h => h.1) (fun cdv A outer s H vs Q E hr h => body_ok (m := m_law_key_s0) (by decide) ?_ h)
  exact (sss_one (ss_ret (se_callTy crM_tuple pu_tuple rfl g.b_tuple bt_tuple (sa_cons (se_lc (fr := true) (own := [("_law_row", 1)]) rfl sc_m_law_key.nd (si_seq (sv 0)) (blkOk_by rfl) (fun _ _ _ _ _ => (sn 1 sc_m_law_key.nd)) (fun _ _ _ _ _ => sts_nil) (fun _ _ _ _ _ => (se_tup (sa_cons (se_ix (Room.u1 hr) (fun _ _ => rfl) (sv 1) se_str pu_ix) (sa_cons (se_ix (Room.u1 hr) (fun _ _ => rfl) (sv 1) se_str pu_ix) (sa_cons (se_callTy crM_tuple pu_tuple rfl g.b_tuple bt_tuple (sa_cons (se_lc (fr := true) (own := [("_law_day", 2)]) rfl sc_m_law_key.nd (si_seq (se_ix (Room.u1 hr) (fun _ _ => rfl) (sv 1) se_str pu_ix)) (blkOk_by rfl) (fun _ _ _ _ _ => (sn 2 sc_m_law_key.nd)) (fun _ _ _ _ _ => sts_nil) (fun _ _ _ _ _ => (se_callTy crM_tuple pu_tuple rfl g.b_tuple bt_tuple (sa_cons (sv 2) sa_nil))) (by decide)) sa_nil)) sa_nil))) (lenCons (lenCons (lenCons lenNil))) (by decide))) (by decide)) sa_nil))))
def m_law_state_s0 : MS := (mAsg (mCell mNil) (tgName 1))
def m_law_state_s2 : MS := (mAsg (mC .non) (tgName 3))
def m_law_state_s4 : MS := (mAsg (mCallF m_law_key (mCons (mLst (mCons (mOp idxM (mVar 2) (mC (.str "old"))) mNil)) mNil)) (tgName 3))
def m_law_state_s3 : MS := (mIfS (mTest (mOp isnM (mOp idxM (mVar 2) (mC (.str "old"))) (mC .non))) m_law_state_s4 mNext)
def m_law_state_s5 : MS := (mDrop (mApp (mVar 1) (mTup (mCons (mOp idxM (mVar 2) (mC (.str "next"))) (mCons (mOp idxM (mVar 2) (mC (.str "found"))) (mCons (mOp idxM (mVar 2) (mC (.str "seen"))) (mCons (mVar 3) mNil)))))))
def m_law_state_s1 : MS := (mFor (mSrc (mOp idxM (mVar 0) (mC (.str "hands")))) (tgName 2) (mSeq m_law_state_s2 (mSeq m_law_state_s3 m_law_state_s5)))
def m_law_state_s6 : MS := (mRet (mTup (mCons (mCallF m_law_key (mCons (mOp idxM (mVar 0) (mC (.str "rows"))) mNil)) (mCons (mCallF tupM (mCons (mVar 1) mNil)) mNil))))
def m_law_state : MF := frzF (mFn 4 ((mSeq m_law_state_s0 (mSeq m_law_state_s1 m_law_state_s6))))
theorem sc_m_law_state : FnScope ["_law_state_here", "_law_hands", "_law_hand", "_law_old"] ["_law_state_here"] (defScope s_law_state) := ⟨rfl, rfl, rfl, by decide +kernel, rfl, by decide +kernel, by decide +kernel⟩
theorem ok_law_state {P : Program} {w : PySem.World} {K : PySem.W.Frag} {mg : Str → Option Value} {base : Heap} {f : Addr} {fd : FuncData} (g : Gs K mg) (h_law_key : FN P w K mg base 1 1 "_law_key" m_law_key) (F : FunD K "_law_state" "_law_state" (defArgs s_law_state) (defBody s_law_state) (defScope s_law_state) [] [] f fd) (hg : mg "_law_state" = some (.ref f)) : FN P w K mg base 2 1 "_law_state" m_law_state := by
  refine ⟨f, fd, ["_law_state_here"], ?_, hg, F.kp, F.bindsN fun _ _ _ _ _ _ us hl => match us, hl with | [_], _ => rfl⟩
  refine frz_ok (m := mFn _ _) (F.ok sc_m_law_state (fun vs H Q E h => h.1) (fun cdv A outer s H vs Q E hr h => body_ok (m := (mSeq m_law_state_s0 (mSeq m_law_state_s1 m_law_state_s6))) (by decide) ?_ h))
  exact (sss_cons (sset 1 sc_m_law_state.nd (se_cell sa_nil lenNil (by decide))) (sss_cons (ss_for pass_cx rfl (si_seq (se_ix (Room.u1 hr) (fun _ _ => rfl) (sv 0) se_str pu_ix)) (sn 2 sc_m_law_state.nd) (sss_cons (sset 3 sc_m_law_state.nd se_non) (sss_cons (ss_if (st_cmp opM_isn pu_isn (nomark _) (se_ix (Room.u1 hr) (fun _ _ => rfl) (sv 2) se_str pu_ix) se_non) (sss_one (sset 3 sc_m_law_state.nd (se_callN h_law_key hr (by decide) rfl takes_cx (sa_cons (se_lst (sa_cons (se_ix (Room.u1 hr) (fun _ _ => rfl) (sv 2) se_str pu_ix) sa_nil) (lenCons lenNil) (by decide)) sa_nil) (lenCons lenNil)))) sss_nil) (sss_one (ss_expr (se_app (sv 1) (se_tup (sa_cons (se_ix (Room.u1 hr) (fun _ _ => rfl) (sv 2) se_str pu_ix) (sa_cons (se_ix (Room.u1 hr) (fun _ _ => rfl) (sv 2) se_str pu_ix) (sa_cons (se_ix (Room.u1 hr) (fun _ _ => rfl) (sv 2) se_str pu_ix) (sa_cons (sv 3) sa_nil)))) (lenCons (lenCons (lenCons (lenCons lenNil)))) (by decide)))))))) (sss_one (ss_ret (se_tup (sa_cons (se_callN h_law_key hr (by decide) rfl takes_cx (sa_cons (se_ix (Room.u1 hr) (fun _ _ => rfl) (sv 0) se_str pu_ix) sa_nil) (lenCons lenNil)) (sa_cons (se_callTy crM_tuple pu_tuple rfl g.b_tuple bt_tuple (sa_cons (sv 1) sa_nil)) sa_nil)) (lenCons (lenCons lenNil)) (by decide))))))
def m_law_has_s0 : MS := (mRet (mOp ltM (mOp idxM (mOp idxM (mOp idxM (mVar 1) (mC (.str "hands"))) (mVar 2)) (mC (.str "next"))) (mCallF lenM (mCons (mOp idxM (mOp idxM (mOp idxM (mVar 0) (mC (.int 3))) (mVar 2)) (mC (.int 1))) mNil))))
def m_law_has : MF := mFn 3 (m_law_has_s0)
theorem sc_m_law_has : FnScope ["_law_world_here", "_law_state_here", "_law_number"] ["_law_world_here", "_law_state_here", "_law_number"] (defScope s_law_has) := ⟨rfl, rfl, rfl, by decide +kernel, rfl, by decide +kernel, by decide +kernel⟩
theorem ok_law_has {P : Program} {w : PySem.World} {K : PySem.W.Frag} {mg : Str → Option Value} {base : Heap} {f : Addr} {fd : FuncData} (g : Gs K mg) (F : FunD K "_law_has" "_law_has" (defArgs s_law_has) (defBody s_law_has) (defScope s_law_has) [] [] f fd) (hg : mg "_law_has" = some (.ref f)) : FN P w K mg base 1 3 "_law_has" m_law_has := by
  refine ⟨f, fd, ["_law_world_here", "_law_state_here", "_law_number"], ?_, hg, F.kp, F.bindsN fun _ _ _ _ _ _ us hl => match us, hl with | [_, _, _], _ => rfl⟩
  refine F.ok sc_m_law_has (fun vs H Q E h => h.1) (fun cdv A outer s H vs Q E hr h => body_ok (m := m_law_has_s0) (by decide) ?_ h)
  exact (sss_one (ss_ret (se_cmp (opM_int op_lt) pu_cmpI (nomark _) (se_ix (Room.u1 hr) (fun _ _ => rfl) (se_ix (Room.u1 hr) (fun _ _ => rfl) (se_ix (Room.u1 hr) (fun _ _ => rfl) (sv 1) se_str pu_ix) (sv 2) pu_ix) se_str pu_ix) (se_callB crM_len pu_len rfl g.b_len bt_len (sa_cons (se_ix (Room.u1 hr) (fun _ _ => rfl) (se_ix (Room.u1 hr) (fun _ _ => rfl) (se_ix (Room.u1 hr) (fun _ _ => rfl) (sv 0) se_int pu_ix) (sv 2) pu_ix) se_int pu_ix) sa_nil)))))
def m_law_next_s1 : MS := (mRet (mLst (mCons (mOp idxM (mVar 3) (mC (.int 0))) mNil)))
def m_law_next_s0 : MS := (mIfS (mAnd (mTest (mOp isnM (mVar 3) (mC .non))) (mTest (mOp inM (mVar 3) (mVar 2)))) m_law_next_s1 mNext)
def m_law_next_s2 : MS := (mRet (mLc true [4] (mRng (mCons (mCallF lenM (mCons (mOp idxM (mVar 0) (mC (.int 3))) mNil)) mNil)) (tgName 4) (mTest (mCallF m_law_has (mCons (mVar 0) (mCons (mVar 1) (mCons (mVar 4) mNil))))) (mVar 4)))
def m_law_next : MF := mFn 5 ((mSeq m_law_next_s0 m_law_next_s2))
theorem sc_m_law_next : FnScope ["_law_world_here", "_law_state_here", "_law_joints", "_law_last", "_law_k"] ["_law_world_here", "_law_state_here", "_law_joints", "_law_last"] (defScope s_law_next) := ⟨rfl, rfl, rfl, by decide +kernel, rfl, by decide +kernel, by decide +kernel⟩
theorem ok_law_next {P : Program} {w : PySem.World} {K : PySem.W.Frag} {mg : Str → Option Value} {base : Heap} {f : Addr} {fd : FuncData} (g : Gs K mg) (h_law_has : FN P w K mg base 1 3 "_law_has" m_law_has) (F : FunD K "_law_next" "_law_next" (defArgs s_law_next) (defBody s_law_next) (defScope s_law_next) [] [] f fd) (hg : mg "_law_next" = some (.ref f)) : FN P w K mg base 2 4 "_law_next" m_law_next := by
  refine ⟨f, fd, ["_law_world_here", "_law_state_here", "_law_joints", "_law_last"], ?_, hg, F.kp, F.bindsN fun _ _ _ _ _ _ us hl => match us, hl with | [_, _, _, _], _ => rfl⟩
  refine F.ok sc_m_law_next (fun vs H Q E h => h.1) (fun cdv A outer s H vs Q E hr h => body_ok (m := (mSeq m_law_next_s0 m_law_next_s2)) (by decide) ?_ h)
  exact (sss_cons (ss_if (st_w (sw_and (st_cmp opM_isn pu_isn (nomark _) (sv 3) se_non) (sw_and1 (st_cmp (opM_in (Room.u65 hr)) pu_in (by with_unfolding_all rfl) (sv 3) (sv 2))))) (sss_one (ss_ret (se_lst (sa_cons (se_ix (Room.u1 hr) (fun _ _ => rfl) (sv 3) se_int pu_ix) sa_nil) (lenCons lenNil) (by decide)))) sss_nil) (sss_one (ss_ret (se_lc (fr := true) (own := [("_law_k", 4)]) rfl sc_m_law_next.nd (si_rng rfl g.b_range (sa_cons (se_callB crM_len pu_len rfl g.b_len bt_len (sa_cons (se_ix (Room.u1 hr) (fun _ _ => rfl) (sv 0) se_int pu_ix) sa_nil)) sa_nil)) (blkOk_by rfl) (fun _ _ _ _ _ => (sn 4 sc_m_law_next.nd)) (fun _ _ _ _ _ => (sts_one (st_val (se_callN h_law_has hr (by decide) rfl takesNo (sa_cons (sv 0) (sa_cons (sv 1) (sa_cons (sv 4) sa_nil))) (lenCons (lenCons (lenCons lenNil))))))) (fun _ _ _ _ _ => (sv 4)) (by decide)))))
def m_law_clone_s0 : MS := (mRet (mDct true [.inr "rows", .inr "hands"] (mCons (mCallF (lstM false) (mCons (mOp idxM (mVar 0) (mC (.str "rows"))) mNil)) (mCons (mLc true [1] (mSrc (mOp idxM (mVar 0) (mC (.str "hands")))) (tgName 1) mTrue (mCallF (dcpM false) (mCons (mVar 1) mNil))) mNil))))
def m_law_clone : MF := mFn 2 (m_law_clone_s0)
theorem sc_m_law_clone : FnScope ["_law_state_here", "_law_hand"] ["_law_state_here"] (defScope s_law_clone) := ⟨rfl, rfl, rfl, by decide +kernel, rfl, by decide +kernel, by decide +kernel⟩
theorem ok_law_clone {P : Program} {w : PySem.World} {K : PySem.W.Frag} {mg : Str → Option Value} {base : Heap} {f : Addr} {fd : FuncData} (g : Gs K mg) (F : FunD K "_law_clone" "_law_clone" (defArgs s_law_clone) (defBody s_law_clone) (defScope s_law_clone) [] [] f fd) (hg : mg "_law_clone" = some (.ref f)) : FN P w K mg base 1 1 "_law_clone" m_law_clone := by
  refine ⟨f, fd, ["_law_state_here"], ?_, hg, F.kp, F.bindsN fun _ _ _ _ _ _ us hl => match us, hl with | [_], _ => rfl⟩
  refine F.ok sc_m_law_clone (fun vs H Q E h => h.1) (fun cdv A outer s H vs Q E hr h => body_ok (m := m_law_clone_s0) (by decide) ?_ h)
  exact (sss_one (ss_ret (se_dict (fr := true) (sp_cons (se_callTy (crM_list false) pu_list rfl g.b_list bt_list (sa_cons (se_ix (Room.u1 hr) (fun _ _ => rfl) (sv 0) se_str pu_ix) sa_nil)) (sp_cons (se_lc (fr := true) (own := [("_law_hand", 1)]) rfl sc_m_law_clone.nd (si_seq (se_ix (Room.u1 hr) (fun _ _ => rfl) (sv 0) se_str pu_ix)) (blkOk_by rfl) (fun _ _ _ _ _ => (sn 1 sc_m_law_clone.nd)) (fun _ _ _ _ _ => sts_nil) (fun _ _ _ _ _ => (se_callTy (crM_dcp false) pu_dcp rfl g.b_dict bt_dict (sa_cons (sv 1) sa_nil))) (by decide)) sp_nil)) (lenCons (lenCons lenNil)) rfl (by decide) (by simp) (by decide))))
def m_law_free_s1 : MS := (mAsg (mOrV (mOp eqM (mVar 4) (mC (.int 0))) (mOp eqM (mOp idxM (mOp idxM (mVar 0) (mVar 5)) (mC (.str "who"))) (mOp idxM (mOp idxM (mVar 0) (mVar 1)) (mC (.str "who"))))) (tgName 6))
def m_law_free_s3 : MS := (mRet (mC (.bl false)))
def m_law_free_s2 : MS := (mIfS (mAnd (mTest (mOp neM (mVar 5) (mVar 1))) (mAnd (mTest (mVar 6)) (mTest (mOp eqM (mOp idxM (mOp idxM (mOp idxM (mOp idxM (mVar 0) (mVar 5)) (mC (.str "days"))) (mVar 2)) (mVar 4)) (mVar 3))))) m_law_free_s3 mNext)
def m_law_free_s0 : MS := (mFor (mRng (mCons (mCallF lenM (mCons (mVar 0) mNil)) mNil)) (tgName 5) (mSeq m_law_free_s1 m_law_free_s2))
def m_law_free_s4 : MS := (mRet (mC (.bl true)))
def m_law_free : MF := mFn 7 ((mSeq m_law_free_s0 m_law_free_s4))
theorem sc_m_law_free : FnScope ["_law_rows", "_law_series", "_law_day", "_law_hour", "_law_half", "_law_k", "_law_same"] ["_law_rows", "_law_series", "_law_day", "_law_hour", "_law_half"] (defScope s_law_free) := ⟨rfl, rfl, rfl, by decide +kernel, rfl, by decide +kernel, by decide +kernel⟩
theorem ok_law_free {P : Program} {w : PySem.World} {K : PySem.W.Frag} {mg : Str → Option Value} {base : Heap} {f : Addr} {fd : FuncData} (g : Gs K mg) (F : FunD K "_law_free" "_law_free" (defArgs s_law_free) (defBody s_law_free) (defScope s_law_free) [] [] f fd) (hg : mg "_law_free" = some (.ref f)) : FN P w K mg base 1 5 "_law_free" m_law_free := by
  refine ⟨f, fd, ["_law_rows", "_law_series", "_law_day", "_law_hour", "_law_half"], ?_, hg, F.kp, F.bindsN fun _ _ _ _ _ _ us hl => match us, hl with | [_, _, _, _, _], _ => rfl⟩
  refine F.ok sc_m_law_free (fun vs H Q E h => h.1) (fun cdv A outer s H vs Q E hr h => body_ok (m := (mSeq m_law_free_s0 m_law_free_s4)) (by decide) ?_ h)
  exact (sss_cons (ss_for pass_cx rfl (si_rng rfl g.b_range (sa_cons (se_callB crM_len pu_len rfl g.b_len bt_len (sa_cons (sv 0) sa_nil)) sa_nil)) (sn 5 sc_m_law_free.nd) (sss_cons (sset 6 sc_m_law_free.nd (se_or (se_cmp (opM_eq (Room.u64 hr)) pu_eq (nomark _) (sv 4) se_int) (se_one (se_cmp (opM_eq (Room.u64 hr)) pu_eq (nomark _) (se_ix (Room.u1 hr) (fun _ _ => rfl) (se_ix (Room.u1 hr) (fun _ _ => rfl) (sv 0) (sv 5) pu_ix) se_str pu_ix) (se_ix (Room.u1 hr) (fun _ _ => rfl) (se_ix (Room.u1 hr) (fun _ _ => rfl) (sv 0) (sv 1) pu_ix) se_str pu_ix))))) (sss_one (ss_if (st_w (sw_and (st_cmp (opM_ne (Room.u64 hr)) pu_ne (nomark _) (sv 5) (sv 1)) (sw_and (st_val (sv 6)) (sw_and1 (st_cmp (opM_eq (Room.u64 hr)) pu_eq (nomark _) (se_ix (Room.u1 hr) (fun _ _ => rfl) (se_ix (Room.u1 hr) (fun _ _ => rfl) (se_ix (Room.u1 hr) (fun _ _ => rfl) (se_ix (Room.u1 hr) (fun _ _ => rfl) (sv 0) (sv 5) pu_ix) se_str pu_ix) (sv 2) pu_ix) (sv 4) pu_ix) (sv 3)))))) (sss_one (ss_ret se_bl)) sss_nil)))) (sss_one (ss_ret se_bl)))
def m_law_gap_s0 : MS := (mAsg (mOp idxM (mOp idxM (mVar 0) (mVar 1)) (mC (.str "days"))) (tgName 3))
def m_law_gap_s4 : MS := (mRet (mC (.bl false)))
def m_law_gap_s3 : MS := (mIfS (mAnd (mTest (mOp isnM (mOp idxM (mOp idxM (mVar 3) (mVar 4)) (mC (.int 0))) (mC .non))) (mNot (mTest (mCallF m_law_free (mCons (mVar 0) (mCons (mVar 1) (mCons (mVar 4) (mCons (mVar 2) (mCons (mVar 5) mNil))))))))) m_law_gap_s4 mNext)
def m_law_gap_s2 : MS := (mFor (mSrc (mLst (mCons (mC (.int 0)) (mCons (mC (.int 1)) mNil)))) (tgName 5) m_law_gap_s3)
def m_law_gap_s1 : MS := (mFor (mRng (mCons (mCallF lenM (mCons (mVar 3) mNil)) mNil)) (tgName 4) m_law_gap_s2)
def m_law_gap_s5 : MS := (mRet (mC (.bl true)))
def m_law_gap : MF := mFn 6 ((mSeq m_law_gap_s0 (mSeq m_law_gap_s1 m_law_gap_s5)))
theorem sc_m_law_gap : FnScope ["_law_rows", "_law_series", "_law_hour", "_law_days", "_law_day", "_law_half"] ["_law_rows", "_law_series", "_law_hour"] (defScope s_law_gap) := ⟨rfl, rfl, rfl, by decide +kernel, rfl, by decide +kernel, by decide +kernel⟩
theorem ok_law_gap {P : Program} {w : PySem.World} {K : PySem.W.Frag} {mg : Str → Option Value} {base : Heap} {f : Addr} {fd : FuncData} (g : Gs K mg) (h_law_free : FN P w K mg base 1 5 "_law_free" m_law_free) (F : FunD K "_law_gap" "_law_gap" (defArgs s_law_gap) (defBody s_law_gap) (defScope s_law_gap) [] [] f fd) (hg : mg "_law_gap" = some (.ref f)) : FN P w K mg base 2 3 "_law_gap" m_law_gap := by
  refine ⟨f, fd, ["_law_rows", "_law_series", "_law_hour"], ?_, hg, F.kp, F.bindsN fun _ _ _ _ _ _ us hl => match us, hl with | [_, _, _], _ => rfl⟩
  refine F.ok sc_m_law_gap (fun vs H Q E h => h.1) (fun cdv A outer s H vs Q E hr h => body_ok (m := (mSeq m_law_gap_s0 (mSeq m_law_gap_s1 m_law_gap_s5))) (by decide) ?_ h)
  exact (sss_cons (sset 3 sc_m_law_gap.nd (se_ix (Room.u1 hr) (fun _ _ => rfl) (se_ix (Room.u1 hr) (fun _ _ => rfl) (sv 0) (sv 1) pu_ix) se_str pu_ix)) (sss_cons (ss_for pass_cx rfl (si_rng rfl g.b_range (sa_cons (se_callB crM_len pu_len rfl g.b_len bt_len (sa_cons (sv 3) sa_nil)) sa_nil)) (sn 4 sc_m_law_gap.nd) (sss_one (ss_for pass_cx rfl (si_seq (se_lst (sa_cons se_int (sa_cons se_int sa_nil)) (lenCons (lenCons lenNil)) (by decide))) (sn 5 sc_m_law_gap.nd) (sss_one (ss_if (st_w (sw_and (st_cmp opM_isn pu_isn (nomark _) (se_ix (Room.u1 hr) (fun _ _ => rfl) (se_ix (Room.u1 hr) (fun _ _ => rfl) (sv 3) (sv 4) pu_ix) se_int pu_ix) se_non) (sw_and1 (st_not (st_val (se_callN h_law_free hr (by decide) rfl takes_cx (sa_cons (sv 0) (sa_cons (sv 1) (sa_cons (sv 4) (sa_cons (sv 2) (sa_cons (sv 5) sa_nil))))) (lenCons (lenCons (lenCons (lenCons (lenCons lenNil))))))))))) (sss_one (ss_ret se_bl)) sss_nil))))) (sss_one (ss_ret se_bl))))
def m_law_told_s0 : MS := (mRet (mCallF tupM (mCons (mLc true [2] (mSrc (mOp idxM (mOp idxM (mVar 0) (mVar 1)) (mC (.str "days")))) (tgName 2) mTrue (mOp idxM (mVar 2) (mC (.int 1)))) mNil)))
def m_law_told : MF := mFn 3 (m_law_told_s0)
theorem sc_m_law_told : FnScope ["_law_rows", "_law_series", "_law_day"] ["_law_rows", "_law_series"] (defScope s_law_told) := ⟨rfl, rfl, rfl, by decide +kernel, rfl, by decide +kernel, by decide +kernel⟩
theorem ok_law_told {P : Program} {w : PySem.World} {K : PySem.W.Frag} {mg : Str → Option Value} {base : Heap} {f : Addr} {fd : FuncData} (g : Gs K mg) (F : FunD K "_law_told" "_law_told" (defArgs s_law_told) (defBody s_law_told) (defScope s_law_told) [] [] f fd) (hg : mg "_law_told" = some (.ref f)) : FN P w K mg base 1 2 "_law_told" m_law_told := by
  refine ⟨f, fd, ["_law_rows", "_law_series"], ?_, hg, F.kp, F.bindsN fun _ _ _ _ _ _ us hl => match us, hl with | [_, _], _ => rfl⟩
  refine F.ok sc_m_law_told (fun vs H Q E h => h.1) (fun cdv A outer s H vs Q E hr h => body_ok (m := m_law_told_s0) (by decide) ?_ h)
  exact (sss_one (ss_ret (se_callTy crM_tuple pu_tuple rfl g.b_tuple bt_tuple (sa_cons (se_lc (fr := true) (own := [("_law_day", 2)]) rfl sc_m_law_told.nd (si_seq (se_ix (Room.u1 hr) (fun _ _ => rfl) (se_ix (Room.u1 hr) (fun _ _ => rfl) (sv 0) (sv 1) pu_ix) se_str pu_ix)) (blkOk_by rfl) (fun _ _ _ _ _ => (sn 2 sc_m_law_told.nd)) (fun _ _ _ _ _ => sts_nil) (fun _ _ _ _ _ => (se_ix (Room.u1 hr) (fun _ _ => rfl) (sv 2) se_int pu_ix)) (by decide)) sa_nil))))
def m_law_copy_s0 : MS := (mRet (mDct false [.inr "who", .inr "base", .inr "days"] (mCons (mOp idxM (mVar 0) (mC (.str "who"))) (mCons (mOp idxM (mVar 0) (mC (.str "base"))) (mCons (mLc false [1] (mSrc (mOp idxM (mVar 0) (mC (.str "days")))) (tgName 1) mTrue (mCallF (lstM false) (mCons (mVar 1) mNil))) mNil)))))
def m_law_copy : MF := mFn 2 (m_law_copy_s0)
theorem sc_m_law_copy : FnScope ["_law_row", "_law_day"] ["_law_row"] (defScope s_law_copy) := ⟨rfl, rfl, rfl, by decide +kernel, rfl, by decide +kernel, by decide +kernel⟩
theorem ok_law_copy {P : Program} {w : PySem.World} {K : PySem.W.Frag} {mg : Str → Option Value} {base : Heap} {f : Addr} {fd : FuncData} (g : Gs K mg) (F : FunD K "_law_copy" "_law_copy" (defArgs s_law_copy) (defBody s_law_copy) (defScope s_law_copy) [] [] f fd) (hg : mg "_law_copy" = some (.ref f)) : FN P w K mg base 1 1 "_law_copy" m_law_copy := by
  refine ⟨f, fd, ["_law_row"], ?_, hg, F.kp, F.bindsN fun _ _ _ _ _ _ us hl => match us, hl with | [_], _ => rfl⟩
  refine F.ok sc_m_law_copy (fun vs H Q E h => h.1) (fun cdv A outer s H vs Q E hr h => body_ok (m := m_law_copy_s0) (by decide) ?_ h)
  exact (sss_one (ss_ret (se_dict (fr := false) (sp_cons (se_ix (Room.u1 hr) (fun _ _ => rfl) (sv 0) se_str pu_ix) (sp_cons (se_ix (Room.u1 hr) (fun _ _ => rfl) (sv 0) se_str pu_ix) (sp_cons (se_lc (fr := false) (own := [("_law_day", 1)]) rfl sc_m_law_copy.nd (si_seq (se_ix (Room.u1 hr) (fun _ _ => rfl) (sv 0) se_str pu_ix)) (blkOk_by rfl) (fun _ _ _ _ _ => (sn 1 sc_m_law_copy.nd)) (fun _ _ _ _ _ => sts_nil) (fun _ _ _ _ _ => (se_callTy (crM_list false) pu_list rfl g.b_list bt_list (sa_cons (sv 1) sa_nil))) (by decide)) sp_nil))) (lenCons (lenCons (lenCons lenNil))) rfl (by decide) (by simp) (by decide))))
def m_law_room_s0 : MS := (mAsg (mCallF m_law_copy (mCons (mOp idxM (mVar 2) (mVar 3)) mNil)) (tgName 5))
def m_law_room_s1 : MS := (mAsg (mOp subM (mVar 4) (mOp idxM (mVar 5) (mC (.str "base")))) (tgName 6))
def m_law_room_s4 : MS := (mSub (mVar 4) (mVar 7) (mC (.int 0)))
def m_law_room_s6 : MS := (mSub (mOp modM (mOp addM (mOp addM (mOp idxM (mVar 7) (mC (.int 0))) (mVar 6)) (mVar 1)) (mVar 1)) (mVar 7) (mC (.int 0)))
def m_law_room_s8 : MS := (mSub (mVar 4) (mVar 7) (mC (.int 0)))
def m_law_room_s9 : MS := (mSub (mC (.bl false)) (mVar 7) (mC (.int 2)))
def m_law_room_s7 : MS := (mIfS (mAnd (mTest (mOp isnM (mOp idxM (mVar 7) (mC (.int 0))) (mC .non))) (mTest (mOp eqM (mOp idxM (mVar 0) (mC (.int 1))) (mC (.str "reset"))))) (mSeq m_law_room_s8 m_law_room_s9) mNext)
def m_law_room_s5 : MS := (mIfS (mAnd (mTest (mOp isnM (mOp idxM (mVar 7) (mC (.int 0))) (mC .non))) (mTest (mOp eqM (mOp idxM (mVar 0) (mC (.int 1))) (mC (.str "move"))))) m_law_room_s6 m_law_room_s7)
def m_law_room_s3 : MS := (mIfS (mAnd (mTest (mOp isnM (mOp idxM (mVar 7) (mC (.int 0))) (mC .non))) (mNot (mTest (mOp idxM (mVar 7) (mC (.int 2)))))) m_law_room_s4 m_law_room_s5)
def m_law_room_s2 : MS := (mFor (mSrc (mOp idxM (mVar 5) (mC (.str "days")))) (tgName 7) m_law_room_s3)
def m_law_room_s10 : MS := (mSub (mVar 4) (mVar 5) (mC (.str "base")))
def m_law_room_s11 : MS := (mRet (mVar 5))
def m_law_room : MF := frzF (mFn 8 ((mSeq m_law_room_s0 (mSeq m_law_room_s1 (mSeq m_law_room_s2 (mSeq m_law_room_s10 m_law_room_s11))))))
theorem sc_m_law_room : FnScope ["_law_parts_here", "_law_hours", "_law_rows", "_law_series", "_law_hour", "_law_row", "_law_step_here", "_law_day"] ["_law_parts_here", "_law_hours", "_law_rows", "_law_series", "_law_hour"] (defScope s_law_room) := ⟨rfl, rfl, rfl, by decide +kernel, rfl, by decide +kernel, by decide +kernel⟩
theorem ok_law_room {P : Program} {w : PySem.World} {K : PySem.W.Frag} {mg : Str → Option Value} {base : Heap} {f : Addr} {fd : FuncData} (g : Gs K mg) (h_law_copy : FN P w K mg base 1 1 "_law_copy" m_law_copy) (F : FunD K "_law_room" "_law_room" (defArgs s_law_room) (defBody s_law_room) (defScope s_law_room) [] [] f fd) (hg : mg "_law_room" = some (.ref f)) : FN P w K mg base 2 5 "_law_room" m_law_room := by
  refine ⟨f, fd, ["_law_parts_here", "_law_hours", "_law_rows", "_law_series", "_law_hour"], ?_, hg, F.kp, F.bindsN fun _ _ _ _ _ _ us hl => match us, hl with | [_, _, _, _, _], _ => rfl⟩
  refine frz_ok (m := mFn _ _) (F.ok sc_m_law_room (fun vs H Q E h => h.1) (fun cdv A outer s H vs Q E hr h => body_ok (m := (mSeq m_law_room_s0 (mSeq m_law_room_s1 (mSeq m_law_room_s2 (mSeq m_law_room_s10 m_law_room_s11))))) (by decide) ?_ h))
  exact (sss_cons (sset 5 sc_m_law_room.nd (se_callN h_law_copy hr (by decide) rfl takes_cx (sa_cons (se_ix (Room.u1 hr) (fun _ _ => rfl) (sv 2) (sv 3) pu_ix) sa_nil) (lenCons lenNil))) (sss_cons (sset 6 sc_m_law_room.nd (se_op opM_sub pu_sub (sv 4) (se_ix (Room.u1 hr) (fun _ _ => rfl) (sv 5) se_str pu_ix))) (sss_cons (ss_for pass_cx rfl (si_seq (se_ix (Room.u1 hr) (fun _ _ => rfl) (sv 5) se_str pu_ix)) (sn 7 sc_m_law_room.nd) (sss_one (ss_if (st_w (sw_and (st_cmp opM_isn pu_isn (nomark _) (se_ix (Room.u1 hr) (fun _ _ => rfl) (sv 7) se_int pu_ix) se_non) (sw_and1 (st_not (st_val (se_ix (Room.u1 hr) (fun _ _ => rfl) (sv 7) se_int pu_ix)))))) (sss_one (ss_sub (Room.u1 hr) (sv 4) (sv 7) se_int)) (sss_one (ss_if (st_w (sw_and (st_cmp opM_isn pu_isn (nomark _) (se_ix (Room.u1 hr) (fun _ _ => rfl) (sv 7) se_int pu_ix) se_non) (sw_and1 (st_cmp (opM_eq (Room.u64 hr)) pu_eq (nomark _) (se_ix (Room.u1 hr) (fun _ _ => rfl) (sv 0) se_int pu_ix) se_str)))) (sss_one (ss_sub (Room.u1 hr) (se_op opM_mod pu_mod (se_op opM_add pu_add (se_op opM_add pu_add (se_ix (Room.u1 hr) (fun _ _ => rfl) (sv 7) se_int pu_ix) (sv 6)) (sv 1)) (sv 1)) (sv 7) se_int)) (sss_one (ss_if (st_w (sw_and (st_cmp opM_isn pu_isn (nomark _) (se_ix (Room.u1 hr) (fun _ _ => rfl) (sv 7) se_int pu_ix) se_non) (sw_and1 (st_cmp (opM_eq (Room.u64 hr)) pu_eq (nomark _) (se_ix (Room.u1 hr) (fun _ _ => rfl) (sv 0) se_int pu_ix) se_str)))) (sss_cons (ss_sub (Room.u1 hr) (sv 4) (sv 7) se_int) (sss_one (ss_sub (Room.u1 hr) se_bl (sv 7) se_int))) sss_nil))))))) (sss_cons (ss_sub (Room.u1 hr) (sv 4) (sv 5) se_str) (sss_one (ss_ret (sv 5)))))))
def m_law_fits_s1 : MS := (mRet (mC (.bl true)))
def m_law_fits_s0 : MS := (mIfS (mOr (mTest (mOp eqM (mOp idxM (mVar 0) (mC (.int 0))) (mC (.str "none")))) (mAnd (mTest (mOp eqM (mVar 4) (mC (.int 1)))) (mTest (mOp eqM (mOp idxM (mVar 0) (mC (.int 0))) (mC (.str "room")))))) m_law_fits_s1 mNext)
def m_law_fits_s3 : MS := (mAsg (mOp idxM (mOp idxM (mOp idxM (mVar 3) (mC (.str "days"))) (mVar 5)) (mVar 4)) (tgName 6))
def m_law_fits_s5 : MS := (mRet (mC (.bl false)))
def m_law_fits_s4 : MS := (mIfS (mAnd (mTest (mOp neM (mVar 6) (mOp idxM (mOp idxM (mOp idxM (mOp idxM (mVar 1) (mVar 2)) (mC (.str "days"))) (mVar 5)) (mVar 4)))) (mNot (mTest (mCallF m_law_free (mCons (mVar 1) (mCons (mVar 2) (mCons (mVar 5) (mCons (mVar 6) (mCons (mVar 4) mNil))))))))) m_law_fits_s5 mNext)
def m_law_fits_s2 : MS := (mFor (mRng (mCons (mCallF lenM (mCons (mOp idxM (mVar 3) (mC (.str "days"))) mNil)) mNil)) (tgName 5) (mSeq m_law_fits_s3 m_law_fits_s4))
def m_law_fits_s6 : MS := (mRet (mC (.bl true)))
def m_law_fits : MF := mFn 7 ((mSeq m_law_fits_s0 (mSeq m_law_fits_s2 m_law_fits_s6)))
theorem sc_m_law_fits : FnScope ["_law_parts_here", "_law_rows", "_law_series", "_law_row", "_law_half", "_law_day", "_law_hour"] ["_law_parts_here", "_law_rows", "_law_series", "_law_row", "_law_half"] (defScope s_law_fits) := ⟨rfl, rfl, rfl, by decide +kernel, rfl, by decide +kernel, by decide +kernel⟩
theorem ok_law_fits {P : Program} {w : PySem.World} {K : PySem.W.Frag} {mg : Str → Option Value} {base : Heap} {f : Addr} {fd : FuncData} (g : Gs K mg) (h_law_free : FN P w K mg base 1 5 "_law_free" m_law_free) (F : FunD K "_law_fits" "_law_fits" (defArgs s_law_fits) (defBody s_law_fits) (defScope s_law_fits) [] [] f fd) (hg : mg "_law_fits" = some (.ref f)) : FN P w K mg base 2 5 "_law_fits" m_law_fits := by
  refine ⟨f, fd, ["_law_parts_here", "_law_rows", "_law_series", "_law_row", "_law_half"], ?_, hg, F.kp, F.bindsN fun _ _ _ _ _ _ us hl => match us, hl with | [_, _, _, _, _], _ => rfl⟩
  refine F.ok sc_m_law_fits (fun vs H Q E h => h.1) (fun cdv A outer s H vs Q E hr h => body_ok (m := (mSeq m_law_fits_s0 (mSeq m_law_fits_s2 m_law_fits_s6))) (by decide) ?_ h)
  exact (sss_cons (ss_if (st_w (sw_or (st_cmp (opM_eq (Room.u64 hr)) pu_eq (nomark _) (se_ix (Room.u1 hr) (fun _ _ => rfl) (sv 0) se_int pu_ix) se_str) (sw_or1 (st_w (sw_and (st_cmp (opM_eq (Room.u64 hr)) pu_eq (nomark _) (sv 4) se_int) (sw_and1 (st_cmp (opM_eq (Room.u64 hr)) pu_eq (nomark _) (se_ix (Room.u1 hr) (fun _ _ => rfl) (sv 0) se_int pu_ix) se_str))))))) (sss_one (ss_ret se_bl)) sss_nil) (sss_cons (ss_for pass_cx rfl (si_rng rfl g.b_range (sa_cons (se_callB crM_len pu_len rfl g.b_len bt_len (sa_cons (se_ix (Room.u1 hr) (fun _ _ => rfl) (sv 3) se_str pu_ix) sa_nil)) sa_nil)) (sn 5 sc_m_law_fits.nd) (sss_cons (sset 6 sc_m_law_fits.nd (se_ix (Room.u1 hr) (fun _ _ => rfl) (se_ix (Room.u1 hr) (fun _ _ => rfl) (se_ix (Room.u1 hr) (fun _ _ => rfl) (sv 3) se_str pu_ix) (sv 5) pu_ix) (sv 4) pu_ix)) (sss_one (ss_if (st_w (sw_and (st_cmp (opM_ne (Room.u64 hr)) pu_ne (nomark _) (sv 6) (se_ix (Room.u1 hr) (fun _ _ => rfl) (se_ix (Room.u1 hr) (fun _ _ => rfl) (se_ix (Room.u1 hr) (fun _ _ => rfl) (se_ix (Room.u1 hr) (fun _ _ => rfl) (sv 1) (sv 2) pu_ix) se_str pu_ix) (sv 5) pu_ix) (sv 4) pu_ix)) (sw_and1 (st_not (st_val (se_callN h_law_free hr (by decide) rfl takes_cx (sa_cons (sv 1) (sa_cons (sv 2) (sa_cons (sv 5) (sa_cons (sv 6) (sa_cons (sv 4) sa_nil))))) (lenCons (lenCons (lenCons (lenCons (lenCons lenNil))))))))))) (sss_one (ss_ret se_bl)) sss_nil)))) (sss_one (ss_ret se_bl))))
def m_law_person_s0 : MS := (mAsg (mCallF m_law_copy (mCons (mOp idxM (mVar 0) (mVar 1)) mNil)) (tgName 2))
def m_law_person_s2 : MS := (mSub (mOp idxM (mVar 3) (mC (.int 0))) (mVar 3) (mC (.int 1)))
def m_law_person_s1 : MS := (mFor (mSrc (mOp idxM (mVar 2) (mC (.str "days")))) (tgName 3) m_law_person_s2)
def m_law_person_s3 : MS := (mRet (mVar 2))
def m_law_person : MF := frzF (mFn 4 ((mSeq m_law_person_s0 (mSeq m_law_person_s1 m_law_person_s3))))
theorem sc_m_law_person : FnScope ["_law_rows", "_law_series", "_law_row", "_law_day"] ["_law_rows", "_law_series"] (defScope s_law_person) := ⟨rfl, rfl, rfl, by decide +kernel, rfl, by decide +kernel, by decide +kernel⟩
theorem ok_law_person {P : Program} {w : PySem.World} {K : PySem.W.Frag} {mg : Str → Option Value} {base : Heap} {f : Addr} {fd : FuncData} (g : Gs K mg) (h_law_copy : FN P w K mg base 1 1 "_law_copy" m_law_copy) (F : FunD K "_law_person" "_law_person" (defArgs s_law_person) (defBody s_law_person) (defScope s_law_person) [] [] f fd) (hg : mg "_law_person" = some (.ref f)) : FN P w K mg base 2 2 "_law_person" m_law_person := by
  refine ⟨f, fd, ["_law_rows", "_law_series"], ?_, hg, F.kp, F.bindsN fun _ _ _ _ _ _ us hl => match us, hl with | [_, _], _ => rfl⟩
  refine frz_ok (m := mFn _ _) (F.ok sc_m_law_person (fun vs H Q E h => h.1) (fun cdv A outer s H vs Q E hr h => body_ok (m := (mSeq m_law_person_s0 (mSeq m_law_person_s1 m_law_person_s3))) (by decide) ?_ h))
  exact (sss_cons (sset 2 sc_m_law_person.nd (se_callN h_law_copy hr (by decide) rfl takes_cx (sa_cons (se_ix (Room.u1 hr) (fun _ _ => rfl) (sv 0) (sv 1) pu_ix) sa_nil) (lenCons lenNil))) (sss_cons (ss_for pass_cx rfl (si_seq (se_ix (Room.u1 hr) (fun _ _ => rfl) (sv 2) se_str pu_ix)) (sn 3 sc_m_law_person.nd) (sss_one (ss_sub (Room.u1 hr) (se_ix (Room.u1 hr) (fun _ _ => rfl) (sv 3) se_int pu_ix) (sv 3) se_int))) (sss_one (ss_ret (sv 2)))))
def m_law_undone_s0 : MS := (mAsg (mCallF m_law_copy (mCons (mVar 0) mNil)) (tgName 2))
def m_law_undone_s1 : MS := (mSub (mOp idxM (mVar 1) (mC (.str "base"))) (mVar 2) (mC (.str "base")))
def m_law_undone_s4 : MS := (mSub (mLst (mCons (mOp idxM (mOp idxM (mOp idxM (mVar 1) (mC (.str "days"))) (mVar 3)) (mC (.int 0))) (mCons (mOp idxM (mOp idxM (mOp idxM (mVar 0) (mC (.str "days"))) (mVar 3)) (mC (.int 1))) (mCons (mOp idxM (mOp idxM (mOp idxM (mVar 1) (mC (.str "days"))) (mVar 3)) (mC (.int 2))) mNil)))) (mOp idxM (mVar 2) (mC (.str "days"))) (mVar 3))
def m_law_undone_s3 : MS := (mIfS (mTest (mOp isnM (mOp idxM (mOp idxM (mOp idxM (mVar 0) (mC (.str "days"))) (mVar 3)) (mC (.int 0))) (mC .non))) m_law_undone_s4 mNext)
def m_law_undone_s2 : MS := (mFor (mRng (mCons (mCallF lenM (mCons (mOp idxM (mVar 0) (mC (.str "days"))) mNil)) mNil)) (tgName 3) m_law_undone_s3)
def m_law_undone_s5 : MS := (mRet (mVar 2))
def m_law_undone : MF := frzF (mFn 4 ((mSeq m_law_undone_s0 (mSeq m_law_undone_s1 (mSeq m_law_undone_s2 m_law_undone_s5)))))
theorem sc_m_law_undone : FnScope ["_law_row", "_law_old", "_law_found", "_law_k"] ["_law_row", "_law_old"] (defScope s_law_undone) := ⟨rfl, rfl, rfl, by decide +kernel, rfl, by decide +kernel, by decide +kernel⟩
theorem ok_law_undone {P : Program} {w : PySem.World} {K : PySem.W.Frag} {mg : Str → Option Value} {base : Heap} {f : Addr} {fd : FuncData} (g : Gs K mg) (h_law_copy : FN P w K mg base 1 1 "_law_copy" m_law_copy) (F : FunD K "_law_undone" "_law_undone" (defArgs s_law_undone) (defBody s_law_undone) (defScope s_law_undone) [] [] f fd) (hg : mg "_law_undone" = some (.ref f)) : FN P w K mg base 2 2 "_law_undone" m_law_undone := by
  refine ⟨f, fd, ["_law_row", "_law_old"], ?_, hg, F.kp, F.bindsN fun _ _ _ _ _ _ us hl => match us, hl with | [_, _], _ => rfl⟩
  refine frz_ok (m := mFn _ _) (F.ok sc_m_law_undone (fun vs H Q E h => h.1) (fun cdv A outer s H vs Q E hr h => body_ok (m := (mSeq m_law_undone_s0 (mSeq m_law_undone_s1 (mSeq m_law_undone_s2 m_law_undone_s5)))) (by decide) ?_ h))
  exact (sss_cons (sset 2 sc_m_law_undone.nd (se_callN h_law_copy hr (by decide) rfl takes_cx (sa_cons (sv 0) sa_nil) (lenCons lenNil))) (sss_cons (ss_sub (Room.u1 hr) (se_ix (Room.u1 hr) (fun _ _ => rfl) (sv 1) se_str pu_ix) (sv 2) se_str) (sss_cons (ss_for pass_cx rfl (si_rng rfl g.b_range (sa_cons (se_callB crM_len pu_len rfl g.b_len bt_len (sa_cons (se_ix (Room.u1 hr) (fun _ _ => rfl) (sv 0) se_str pu_ix) sa_nil)) sa_nil)) (sn 3 sc_m_law_undone.nd) (sss_one (ss_if (st_cmp opM_isn pu_isn (nomark _) (se_ix (Room.u1 hr) (fun _ _ => rfl) (se_ix (Room.u1 hr) (fun _ _ => rfl) (se_ix (Room.u1 hr) (fun _ _ => rfl) (sv 0) se_str pu_ix) (sv 3) pu_ix) se_int pu_ix) se_non) (sss_one (ss_sub (Room.u1 hr) (se_lst (sa_cons (se_ix (Room.u1 hr) (fun _ _ => rfl) (se_ix (Room.u1 hr) (fun _ _ => rfl) (se_ix (Room.u1 hr) (fun _ _ => rfl) (sv 1) se_str pu_ix) (sv 3) pu_ix) se_int pu_ix) (sa_cons (se_ix (Room.u1 hr) (fun _ _ => rfl) (se_ix (Room.u1 hr) (fun _ _ => rfl) (se_ix (Room.u1 hr) (fun _ _ => rfl) (sv 0) se_str pu_ix) (sv 3) pu_ix) se_int pu_ix) (sa_cons (se_ix (Room.u1 hr) (fun _ _ => rfl) (se_ix (Room.u1 hr) (fun _ _ => rfl) (se_ix (Room.u1 hr) (fun _ _ => rfl) (sv 1) se_str pu_ix) (sv 3) pu_ix) se_int pu_ix) sa_nil))) (lenCons (lenCons (lenCons lenNil))) (by decide)) (se_ix (Room.u1 hr) (fun _ _ => rfl) (sv 2) se_str pu_ix) (sv 3))) sss_nil))) (sss_one (ss_ret (sv 2))))))
def m_law_single_s1 : MS := (mRet (mC .non))
def m_law_single_s0 : MS := (mIfS (mTest (mOp isM (mOp idxM (mOp idxM (mOp idxM (mOp idxM (mVar 1) (mVar 2)) (mC (.str "days"))) (mVar 3)) (mC (.int 0))) (mC .non))) m_law_single_s1 mNext)
def m_law_single_s3 : MS := (mRet (mC .non))
def m_law_single_s2 : MS := (mIfS (mAnd (mTest (mOp isnM (mVar 4) (mC .non))) (mAnd (mTest (mOp neM (mOp idxM (mVar 0) (mC (.int 0))) (mC (.str "none")))) (mNot (mTest (mCallF m_law_free (mCons (mVar 1) (mCons (mVar 2) (mCons (mVar 3) (mCons (mVar 4) (mCons (mC (.int 0)) mNil)))))))))) m_law_single_s3 mNext)
def m_law_single_s5 : MS := (mRet (mC .non))
def m_law_single_s4 : MS := (mIfS (mAnd (mTest (mOp isnM (mVar 4) (mC .non))) (mAnd (mTest (mOp eqM (mOp idxM (mVar 0) (mC (.int 0))) (mC (.str "both")))) (mNot (mTest (mCallF m_law_free (mCons (mVar 1) (mCons (mVar 2) (mCons (mVar 3) (mCons (mVar 4) (mCons (mC (.int 1)) mNil)))))))))) m_law_single_s5 mNext)
def m_law_single_s6 : MS := (mAsg (mCallF m_law_copy (mCons (mOp idxM (mVar 1) (mVar 2)) mNil)) (tgName 5))
def m_law_single_s7 : MS := (mSub (mLst (mCons (mVar 4) (mCons (mVar 4) (mCons (mOp isnM (mVar 4) (mC .non)) mNil)))) (mOp idxM (mVar 5) (mC (.str "days"))) (mVar 3))
def m_law_single_s8 : MS := (mRet (mVar 5))
def m_law_single : MF := frzF (mFn 6 ((mSeq m_law_single_s0 (mSeq m_law_single_s2 (mSeq m_law_single_s4 (mSeq m_law_single_s6 (mSeq m_law_single_s7 m_law_single_s8)))))))
theorem sc_m_law_single : FnScope ["_law_parts_here", "_law_rows", "_law_series", "_law_day", "_law_hour", "_law_row"] ["_law_parts_here", "_law_rows", "_law_series", "_law_day", "_law_hour"] (defScope s_law_single) := ⟨rfl, rfl, rfl, by decide +kernel, rfl, by decide +kernel, by decide +kernel⟩
theorem ok_law_single {P : Program} {w : PySem.World} {K : PySem.W.Frag} {mg : Str → Option Value} {base : Heap} {f : Addr} {fd : FuncData} (g : Gs K mg) (h_law_free : FN P w K mg base 1 5 "_law_free" m_law_free) (h_law_copy : FN P w K mg base 1 1 "_law_copy" m_law_copy) (F : FunD K "_law_single" "_law_single" (defArgs s_law_single) (defBody s_law_single) (defScope s_law_single) [] [] f fd) (hg : mg "_law_single" = some (.ref f)) : FN P w K mg base 2 5 "_law_single" m_law_single := by
  refine ⟨f, fd, ["_law_parts_here", "_law_rows", "_law_series", "_law_day", "_law_hour"], ?_, hg, F.kp, F.bindsN fun _ _ _ _ _ _ us hl => match us, hl with | [_, _, _, _, _], _ => rfl⟩
  refine frz_ok (m := mFn _ _) (F.ok sc_m_law_single (fun vs H Q E h => h.1) (fun cdv A outer s H vs Q E hr h => body_ok (m := (mSeq m_law_single_s0 (mSeq m_law_single_s2 (mSeq m_law_single_s4 (mSeq m_law_single_s6 (mSeq m_law_single_s7 m_law_single_s8)))))) (by decide) ?_ h))
  exact (sss_cons (ss_if (st_cmp opM_is pu_is (nomark _) (se_ix (Room.u1 hr) (fun _ _ => rfl) (se_ix (Room.u1 hr) (fun _ _ => rfl) (se_ix (Room.u1 hr) (fun _ _ => rfl) (se_ix (Room.u1 hr) (fun _ _ => rfl) (sv 1) (sv 2) pu_ix) se_str pu_ix) (sv 3) pu_ix) se_int pu_ix) se_non) (sss_one (ss_ret se_non)) sss_nil) (sss_cons (ss_if (st_w (sw_and (st_cmp opM_isn pu_isn (nomark _) (sv 4) se_non) (sw_and (st_cmp (opM_ne (Room.u64 hr)) pu_ne (nomark _) (se_ix (Room.u1 hr) (fun _ _ => rfl) (sv 0) se_int pu_ix) se_str) (sw_and1 (st_not (st_val (se_callN h_law_free hr (by decide) rfl takes_cx (sa_cons (sv 1) (sa_cons (sv 2) (sa_cons (sv 3) (sa_cons (sv 4) (sa_cons se_int sa_nil))))) (lenCons (lenCons (lenCons (lenCons (lenCons lenNil)))))))))))) (sss_one (ss_ret se_non)) sss_nil) (sss_cons (ss_if (st_w (sw_and (st_cmp opM_isn pu_isn (nomark _) (sv 4) se_non) (sw_and (st_cmp (opM_eq (Room.u64 hr)) pu_eq (nomark _) (se_ix (Room.u1 hr) (fun _ _ => rfl) (sv 0) se_int pu_ix) se_str) (sw_and1 (st_not (st_val (se_callN h_law_free hr (by decide) rfl takes_cx (sa_cons (sv 1) (sa_cons (sv 2) (sa_cons (sv 3) (sa_cons (sv 4) (sa_cons se_int sa_nil))))) (lenCons (lenCons (lenCons (lenCons (lenCons lenNil)))))))))))) (sss_one (ss_ret se_non)) sss_nil) (sss_cons (sset 5 sc_m_law_single.nd (se_callN h_law_copy hr (by decide) rfl takes_cx (sa_cons (se_ix (Room.u1 hr) (fun _ _ => rfl) (sv 1) (sv 2) pu_ix) sa_nil) (lenCons lenNil))) (sss_cons (ss_sub (Room.u1 hr) (se_lst (sa_cons (sv 4) (sa_cons (sv 4) (sa_cons (se_cmp opM_isn pu_isn (nomark _) (sv 4) se_non) sa_nil))) (lenCons (lenCons (lenCons lenNil))) (by decide)) (se_ix (Room.u1 hr) (fun _ _ => rfl) (sv 5) se_str pu_ix) (sv 3)) (sss_one (ss_ret (sv 5))))))))
def m_law_write_s1 : MS := (mAsg (mCallF m_law_room (mCons (mVar 0) (mCons (mVar 1) (mCons (mVar 2) (mCons (mVar 4) (mCons (mOp idxM (mVar 5) (mC (.int 1))) mNil)))))) (tgName 6))
def m_law_write_s3 : MS := (mRet (mC (.str "refused")))
def m_law_write_s2 : MS := (mIfS (mOr (mTest (mOp isM (mOp idxM (mVar 3) (mC (.str "found"))) (mC (.bl false)))) (mNot (mTest (mCallF m_law_fits (mCons (mVar 0) (mCons (mVar 2) (mCons (mVar 4) (mCons (mVar 6) (mCons (mC (.int 0)) mNil))))))))) m_law_write_s3 mNext)
def m_law_write_s4 : MS := (mSub (mOp idxM (mVar 2) (mVar 4)) (mVar 3) (mC (.str "old")))
def m_law_write_s6 : MS := (mAsg (mCallF m_law_person (mCons (mVar 2) (mCons (mVar 4) mNil))) (tgName 6))
def m_law_write_s9 : MS := (mSub (mCallF m_law_undone (mCons (mOp idxM (mVar 2) (mVar 4)) (mCons (mOp idxM (mVar 3) (mC (.str "old"))) mNil))) (mVar 2) (mVar 4))
def m_law_write_s10 : MS := (mSub (mC .non) (mVar 3) (mC (.str "old")))
def m_law_write_s8 : MS := (mIfS (mAnd (mTest (mOp eqM (mOp idxM (mVar 0) (mC (.int 2))) (mC (.str "undone")))) (mTest (mOp isnM (mOp idxM (mVar 3) (mC (.str "old"))) (mC .non)))) (mSeq m_law_write_s9 m_law_write_s10) mNext)
def m_law_write_s11 : MS := (mRet (mC (.str "refused")))
def m_law_write_s7 : MS := (mIfS (mNot (mTest (mCallF m_law_fits (mCons (mVar 0) (mCons (mVar 2) (mCons (mVar 4) (mCons (mVar 6) (mCons (mC (.int 1)) mNil)))))))) (mSeq m_law_write_s8 m_law_write_s11) mNext)
def m_law_write_s12 : MS := (mAsg (mCallF m_law_single (mCons (mVar 0) (mCons (mVar 2) (mCons (mVar 4) (mCons (mOp idxM (mVar 5) (mC (.int 1))) (mCons (mOp idxM (mLst (mCons (mC .non) (mCons (mOp idxM (mVar 5) (mC (.int (-1)))) mNil))) (mCallF intM (mCons (mOp eqM (mOp idxM (mVar 5) (mC (.int 0))) (mC (.str "one"))) mNil))) mNil)))))) (tgName 6))
def m_law_write_s14 : MS := (mRet (mC (.str "refused")))
def m_law_write_s13 : MS := (mIfS (mTest (mOp isM (mVar 6) (mC .non))) m_law_write_s14 mNext)
def m_law_write_s5 : MS := (mIfS (mTest (mOp eqM (mOp idxM (mVar 5) (mC (.int 0))) (mC (.str "person")))) (mSeq m_law_write_s6 m_law_write_s7) (mSeq m_law_write_s12 m_law_write_s13))
def m_law_write_s0 : MS := (mIfS (mTest (mOp eqM (mOp idxM (mVar 5) (mC (.int 0))) (mC (.str "room")))) (mSeq m_law_write_s1 (mSeq m_law_write_s2 m_law_write_s4)) m_law_write_s5)
def m_law_write_s15 : MS := (mSub (mVar 6) (mVar 2) (mVar 4))
def m_law_write_s16 : MS := (mRet (mC (.str "done")))
def m_law_write : MF := mFn 7 ((mSeq m_law_write_s0 (mSeq m_law_write_s15 m_law_write_s16)))
theorem sc_m_law_write : FnScope ["_law_parts_here", "_law_hours", "_law_rows", "_law_hand", "_law_series", "_law_step_here", "_law_row"] ["_law_parts_here", "_law_hours", "_law_rows", "_law_hand", "_law_series", "_law_step_here"] (defScope s_law_write) := ⟨rfl, rfl, rfl, by decide +kernel, rfl, by decide +kernel, by decide +kernel⟩
theorem ok_law_write {P : Program} {w : PySem.World} {K : PySem.W.Frag} {mg : Str → Option Value} {base : Heap} {f : Addr} {fd : FuncData} (g : Gs K mg) (h_law_room : FN P w K mg base 2 5 "_law_room" m_law_room) (h_law_fits : FN P w K mg base 2 5 "_law_fits" m_law_fits) (h_law_person : FN P w K mg base 2 2 "_law_person" m_law_person) (h_law_undone : FN P w K mg base 2 2 "_law_undone" m_law_undone) (h_law_single : FN P w K mg base 2 5 "_law_single" m_law_single) (F : FunD K "_law_write" "_law_write" (defArgs s_law_write) (defBody s_law_write) (defScope s_law_write) [] [] f fd) (hg : mg "_law_write" = some (.ref f)) : FN P w K mg base 3 6 "_law_write" m_law_write := by
  refine ⟨f, fd, ["_law_parts_here", "_law_hours", "_law_rows", "_law_hand", "_law_series", "_law_step_here"], ?_, hg, F.kp, F.bindsN fun _ _ _ _ _ _ us hl => match us, hl with | [_, _, _, _, _, _], _ => rfl⟩
  refine F.ok sc_m_law_write (fun vs H Q E h => h.1) (fun cdv A outer s H vs Q E hr h => body_ok (m := (mSeq m_law_write_s0 (mSeq m_law_write_s15 m_law_write_s16))) (by decide) ?_ h)
  exact (sss_cons (ss_if (st_cmp (opM_eq (Room.u64 hr)) pu_eq (nomark _) (se_ix (Room.u1 hr) (fun _ _ => rfl) (sv 5) se_int pu_ix) se_str) (sss_cons (sset 6 sc_m_law_write.nd (se_callN h_law_room hr (by decide) rfl takes_cx (sa_cons (sv 0) (sa_cons (sv 1) (sa_cons (sv 2) (sa_cons (sv 4) (sa_cons (se_ix (Room.u1 hr) (fun _ _ => rfl) (sv 5) se_int pu_ix) sa_nil))))) (lenCons (lenCons (lenCons (lenCons (lenCons lenNil))))))) (sss_cons (ss_if (st_w (sw_or (st_cmp opM_is pu_is (nomark _) (se_ix (Room.u1 hr) (fun _ _ => rfl) (sv 3) se_str pu_ix) se_bl) (sw_or1 (st_not (st_val (se_callN h_law_fits hr (by decide) rfl takes_cx (sa_cons (sv 0) (sa_cons (sv 2) (sa_cons (sv 4) (sa_cons (sv 6) (sa_cons se_int sa_nil))))) (lenCons (lenCons (lenCons (lenCons (lenCons lenNil))))))))))) (sss_one (ss_ret se_str)) sss_nil) (sss_one (ss_sub (Room.u1 hr) (se_ix (Room.u1 hr) (fun _ _ => rfl) (sv 2) (sv 4) pu_ix) (sv 3) se_str)))) (sss_one (ss_if (st_cmp (opM_eq (Room.u64 hr)) pu_eq (nomark _) (se_ix (Room.u1 hr) (fun _ _ => rfl) (sv 5) se_int pu_ix) se_str) (sss_cons (sset 6 sc_m_law_write.nd (se_callN h_law_person hr (by decide) rfl takes_cx (sa_cons (sv 2) (sa_cons (sv 4) sa_nil)) (lenCons (lenCons lenNil)))) (sss_one (ss_if (st_not (st_val (se_callN h_law_fits hr (by decide) rfl takes_cx (sa_cons (sv 0) (sa_cons (sv 2) (sa_cons (sv 4) (sa_cons (sv 6) (sa_cons se_int sa_nil))))) (lenCons (lenCons (lenCons (lenCons (lenCons lenNil)))))))) (sss_cons (ss_if (st_w (sw_and (st_cmp (opM_eq (Room.u64 hr)) pu_eq (nomark _) (se_ix (Room.u1 hr) (fun _ _ => rfl) (sv 0) se_int pu_ix) se_str) (sw_and1 (st_cmp opM_isn pu_isn (nomark _) (se_ix (Room.u1 hr) (fun _ _ => rfl) (sv 3) se_str pu_ix) se_non)))) (sss_cons (ss_sub (Room.u1 hr) (se_callN h_law_undone hr (by decide) rfl takes_cx (sa_cons (se_ix (Room.u1 hr) (fun _ _ => rfl) (sv 2) (sv 4) pu_ix) (sa_cons (se_ix (Room.u1 hr) (fun _ _ => rfl) (sv 3) se_str pu_ix) sa_nil)) (lenCons (lenCons lenNil))) (sv 2) (sv 4)) (sss_one (ss_sub (Room.u1 hr) se_non (sv 3) se_str))) sss_nil) (sss_one (ss_ret se_str))) sss_nil))) (sss_cons (sset 6 sc_m_law_write.nd (se_callN h_law_single hr (by decide) rfl takes_cx (sa_cons (sv 0) (sa_cons (sv 2) (sa_cons (sv 4) (sa_cons (se_ix (Room.u1 hr) (fun _ _ => rfl) (sv 5) se_int pu_ix) (sa_cons (se_ix (Room.u1 hr) (fun _ _ => rfl) (se_lst (sa_cons se_non (sa_cons (se_ix (Room.u1 hr) (fun _ _ => rfl) (sv 5) (se_neg) pu_ix) sa_nil)) (lenCons (lenCons lenNil)) (by decide)) (se_callTy crM_int pu_int rfl g.b_int bt_int (sa_cons (se_cmp (opM_eq (Room.u64 hr)) pu_eq (nomark _) (se_ix (Room.u1 hr) (fun _ _ => rfl) (sv 5) se_int pu_ix) se_str) sa_nil)) pu_ix) sa_nil))))) (lenCons (lenCons (lenCons (lenCons (lenCons lenNil))))))) (sss_one (ss_if (st_cmp opM_is pu_is (nomark _) (sv 6) se_non) (sss_one (ss_ret se_str)) sss_nil)))))) (sss_cons (ss_sub (Room.u1 hr) (sv 6) (sv 2) (sv 4)) (sss_one (ss_ret se_str))))
def m_law_step_s0 : MS := (mAsg (mOp idxM (mOp idxM (mVar 2) (mC (.str "hands"))) (mVar 3)) (tgName 4))
def m_law_step_s1 : MS := (mAsg (mOp idxM (mVar 2) (mC (.str "rows"))) (tgName 5))
def m_law_step_s2 : MS := (mAsg (mOp idxM (mOp idxM (mOp idxM (mVar 1) (mC (.int 3))) (mVar 3)) (mC (.int 0))) (tgName 6))
def m_law_step_s3 : MS := (mAsg (mOp idxM (mOp idxM (mOp idxM (mOp idxM (mVar 1) (mC (.int 3))) (mVar 3)) (mC (.int 1))) (mOp idxM (mVar 4) (mC (.str "next")))) (tgName 7))
def m_law_step_s4 : MS := (mSub (mOp addM (mOp idxM (mVar 4) (mC (.str "next"))) (mC (.int 1))) (mVar 4) (mC (.str "next")))
def m_law_step_s6 : MS := (mSub (mCallF m_law_gap (mCons (mVar 5) (mCons (mVar 6) (mCons (mOp idxM (mVar 7) (mC (.int 1))) mNil)))) (mVar 4) (mC (.str "found")))
def m_law_step_s7 : MS := (mSub (mCallF m_law_told (mCons (mVar 5) (mCons (mVar 6) mNil))) (mVar 4) (mC (.str "seen")))
def m_law_step_s8 : MS := (mRet (mOp idxM (mVar 4) (mC (.str "found"))))
def m_law_step_s5 : MS := (mIfS (mTest (mOp eqM (mOp idxM (mVar 7) (mC (.int 0))) (mC (.str "find")))) (mSeq m_law_step_s6 (mSeq m_law_step_s7 m_law_step_s8)) mNext)
def m_law_step_s11 : MS := (mSub (mCallF m_law_told (mCons (mVar 5) (mCons (mVar 6) mNil))) (mVar 4) (mC (.str "seen")))
def m_law_step_s10 : MS := (mIfS (mOr (mTest (mOp eqM (mOp idxM (mVar 0) (mC (.int 3))) (mC (.str "now")))) (mTest (mOp isM (mOp idxM (mVar 4) (mC (.str "seen"))) (mC .non)))) m_law_step_s11 mNext)
def m_law_step_s12 : MS := (mRet (mOp idxM (mVar 4) (mC (.str "seen"))))
def m_law_step_s9 : MS := (mIfS (mTest (mOp eqM (mOp idxM (mVar 7) (mC (.int 0))) (mC (.str "tell")))) (mSeq m_law_step_s10 m_law_step_s12) mNext)
def m_law_step_s13 : MS := (mRet (mCallF m_law_write (mCons (mVar 0) (mCons (mOp idxM (mVar 1) (mC (.int 1))) (mCons (mVar 5) (mCons (mVar 4) (mCons (mVar 6) (mCons (mVar 7) mNil))))))))
def m_law_step : MF := mFn 8 ((mSeq m_law_step_s0 (mSeq m_law_step_s1 (mSeq m_law_step_s2 (mSeq m_law_step_s3 (mSeq m_law_step_s4 (mSeq m_law_step_s5 (mSeq m_law_step_s9 m_law_step_s13))))))))
theorem sc_m_law_step : FnScope ["_law_parts_here", "_law_world_here", "_law_state_here", "_law_number", "_law_hand", "_law_rows", "_law_series", "_law_step_here"] ["_law_parts_here", "_law_world_here", "_law_state_here", "_law_number"] (defScope s_law_step) := ⟨rfl, rfl, rfl, by decide +kernel, rfl, by decide +kernel, by decide +kernel⟩
theorem ok_law_step {P : Program} {w : PySem.World} {K : PySem.W.Frag} {mg : Str → Option Value} {base : Heap} {f : Addr} {fd : FuncData} (g : Gs K mg) (h_law_gap : FN P w K mg base 2 3 "_law_gap" m_law_gap) (h_law_told : FN P w K mg base 1 2 "_law_told" m_law_told) (h_law_write : FN P w K mg base 3 6 "_law_write" m_law_write) (F : FunD K "_law_step" "_law_step" (defArgs s_law_step) (defBody s_law_step) (defScope s_law_step) [] [] f fd) (hg : mg "_law_step" = some (.ref f)) : FN P w K mg base 4 4 "_law_step" m_law_step := by
  refine ⟨f, fd, ["_law_parts_here", "_law_world_here", "_law_state_here", "_law_number"], ?_, hg, F.kp, F.bindsN fun _ _ _ _ _ _ us hl => match us, hl with | [_, _, _, _], _ => rfl⟩
  refine F.ok sc_m_law_step (fun vs H Q E h => h.1) (fun cdv A outer s H vs Q E hr h => body_ok (m := (mSeq m_law_step_s0 (mSeq m_law_step_s1 (mSeq m_law_step_s2 (mSeq m_law_step_s3 (mSeq m_law_step_s4 (mSeq m_law_step_s5 (mSeq m_law_step_s9 m_law_step_s13)))))))) (by decide) ?_ h)
  exact (sss_cons (sset 4 sc_m_law_step.nd (se_ix (Room.u1 hr) (fun _ _ => rfl) (se_ix (Room.u1 hr) (fun _ _ => rfl) (sv 2) se_str pu_ix) (sv 3) pu_ix)) (sss_cons (sset 5 sc_m_law_step.nd (se_ix (Room.u1 hr) (fun _ _ => rfl) (sv 2) se_str pu_ix)) (sss_cons (sset 6 sc_m_law_step.nd (se_ix (Room.u1 hr) (fun _ _ => rfl) (se_ix (Room.u1 hr) (fun _ _ => rfl) (se_ix (Room.u1 hr) (fun _ _ => rfl) (sv 1) se_int pu_ix) (sv 3) pu_ix) se_int pu_ix)) (sss_cons (sset 7 sc_m_law_step.nd (se_ix (Room.u1 hr) (fun _ _ => rfl) (se_ix (Room.u1 hr) (fun _ _ => rfl) (se_ix (Room.u1 hr) (fun _ _ => rfl) (se_ix (Room.u1 hr) (fun _ _ => rfl) (sv 1) se_int pu_ix) (sv 3) pu_ix) se_int pu_ix) (se_ix (Room.u1 hr) (fun _ _ => rfl) (sv 4) se_str pu_ix) pu_ix)) (sss_cons (ss_sub (Room.u1 hr) (se_op opM_add pu_add (se_ix (Room.u1 hr) (fun _ _ => rfl) (sv 4) se_str pu_ix) se_int) (sv 4) se_str) (sss_cons (ss_if (st_cmp (opM_eq (Room.u64 hr)) pu_eq (nomark _) (se_ix (Room.u1 hr) (fun _ _ => rfl) (sv 7) se_int pu_ix) se_str) (sss_cons (ss_sub (Room.u1 hr) (se_callN h_law_gap hr (by decide) rfl takes_cx (sa_cons (sv 5) (sa_cons (sv 6) (sa_cons (se_ix (Room.u1 hr) (fun _ _ => rfl) (sv 7) se_int pu_ix) sa_nil))) (lenCons (lenCons (lenCons lenNil)))) (sv 4) se_str) (sss_cons (ss_sub (Room.u1 hr) (se_callN h_law_told hr (by decide) rfl takes_cx (sa_cons (sv 5) (sa_cons (sv 6) sa_nil)) (lenCons (lenCons lenNil))) (sv 4) se_str) (sss_one (ss_ret (se_ix (Room.u1 hr) (fun _ _ => rfl) (sv 4) se_str pu_ix))))) sss_nil) (sss_cons (ss_if (st_cmp (opM_eq (Room.u64 hr)) pu_eq (nomark _) (se_ix (Room.u1 hr) (fun _ _ => rfl) (sv 7) se_int pu_ix) se_str) (sss_cons (ss_if (st_w (sw_or (st_cmp (opM_eq (Room.u64 hr)) pu_eq (nomark _) (se_ix (Room.u1 hr) (fun _ _ => rfl) (sv 0) se_int pu_ix) se_str) (sw_or1 (st_cmp opM_is pu_is (nomark _) (se_ix (Room.u1 hr) (fun _ _ => rfl) (sv 4) se_str pu_ix) se_non)))) (sss_one (ss_sub (Room.u1 hr) (se_callN h_law_told hr (by decide) rfl takes_cx (sa_cons (sv 5) (sa_cons (sv 6) sa_nil)) (lenCons (lenCons lenNil))) (sv 4) se_str)) sss_nil) (sss_one (ss_ret (se_ix (Room.u1 hr) (fun _ _ => rfl) (sv 4) se_str pu_ix)))) sss_nil) (sss_one (ss_ret (se_callN h_law_write hr (by decide) rfl takes_cx (sa_cons (sv 0) (sa_cons (se_ix (Room.u1 hr) (fun _ _ => rfl) (sv 1) se_int pu_ix) (sa_cons (sv 5) (sa_cons (sv 4) (sa_cons (sv 6) (sa_cons (sv 7) sa_nil)))))) (lenCons (lenCons (lenCons (lenCons (lenCons (lenCons lenNil))))))))))))))))
def m_law_meets_s0 : MS := (mAsg (mOp idxM (mOp idxM (mVar 0) (mVar 1)) (mC (.str "days"))) (tgName 3))
def m_law_meets_s2 : MS := (mAsg (mOp idxM (mOp idxM (mVar 3) (mVar 4)) (mVar 2)) (tgName 5))
def m_law_meets_s4 : MS := (mRet (mC (.bl true)))
def m_law_meets_s3 : MS := (mIfS (mAnd (mTest (mOp isnM (mVar 5) (mC .non))) (mNot (mTest (mCallF m_law_free (mCons (mVar 0) (mCons (mVar 1) (mCons (mVar 4) (mCons (mVar 5) (mCons (mVar 2) mNil))))))))) m_law_meets_s4 mNext)
def m_law_meets_s1 : MS := (mFor (mRng (mCons (mCallF lenM (mCons (mVar 3) mNil)) mNil)) (tgName 4) (mSeq m_law_meets_s2 m_law_meets_s3))
def m_law_meets_s5 : MS := (mRet (mC (.bl false)))
def m_law_meets : MF := mFn 6 ((mSeq m_law_meets_s0 (mSeq m_law_meets_s1 m_law_meets_s5)))
theorem sc_m_law_meets : FnScope ["_law_rows", "_law_series", "_law_half", "_law_days", "_law_day", "_law_hour"] ["_law_rows", "_law_series", "_law_half"] (defScope s_law_meets) := ⟨rfl, rfl, rfl, by decide +kernel, rfl, by decide +kernel, by decide +kernel⟩
theorem ok_law_meets {P : Program} {w : PySem.World} {K : PySem.W.Frag} {mg : Str → Option Value} {base : Heap} {f : Addr} {fd : FuncData} (g : Gs K mg) (h_law_free : FN P w K mg base 1 5 "_law_free" m_law_free) (F : FunD K "_law_meets" "_law_meets" (defArgs s_law_meets) (defBody s_law_meets) (defScope s_law_meets) [] [] f fd) (hg : mg "_law_meets" = some (.ref f)) : FN P w K mg base 2 3 "_law_meets" m_law_meets := by
  refine ⟨f, fd, ["_law_rows", "_law_series", "_law_half"], ?_, hg, F.kp, F.bindsN fun _ _ _ _ _ _ us hl => match us, hl with | [_, _, _], _ => rfl⟩
  refine F.ok sc_m_law_meets (fun vs H Q E h => h.1) (fun cdv A outer s H vs Q E hr h => body_ok (m := (mSeq m_law_meets_s0 (mSeq m_law_meets_s1 m_law_meets_s5))) (by decide) ?_ h)
  exact (sss_cons (sset 3 sc_m_law_meets.nd (se_ix (Room.u1 hr) (fun _ _ => rfl) (se_ix (Room.u1 hr) (fun _ _ => rfl) (sv 0) (sv 1) pu_ix) se_str pu_ix)) (sss_cons (ss_for pass_cx rfl (si_rng rfl g.b_range (sa_cons (se_callB crM_len pu_len rfl g.b_len bt_len (sa_cons (sv 3) sa_nil)) sa_nil)) (sn 4 sc_m_law_meets.nd) (sss_cons (sset 5 sc_m_law_meets.nd (se_ix (Room.u1 hr) (fun _ _ => rfl) (se_ix (Room.u1 hr) (fun _ _ => rfl) (sv 3) (sv 4) pu_ix) (sv 2) pu_ix)) (sss_one (ss_if (st_w (sw_and (st_cmp opM_isn pu_isn (nomark _) (sv 5) se_non) (sw_and1 (st_not (st_val (se_callN h_law_free hr (by decide) rfl takes_cx (sa_cons (sv 0) (sa_cons (sv 1) (sa_cons (sv 4) (sa_cons (sv 5) (sa_cons (sv 2) sa_nil))))) (lenCons (lenCons (lenCons (lenCons (lenCons lenNil))))))))))) (sss_one (ss_ret se_bl)) sss_nil)))) (sss_one (ss_ret se_bl))))
def m_law_words_s0 : MS := (mRet (mLst (mCons (mC (.str "room")) (mCons (mC (.str "person")) (mCons (mC (.str "lost")) (mCons (mC (.str "elder")) (mCons (mC (.str "half")) mNil)))))))
def m_law_words : MF := mFn 0 (m_law_words_s0)
theorem sc_m_law_words : FnScope [] [] (defScope s_law_words) := ⟨rfl, rfl, rfl, by decide +kernel, rfl, by decide +kernel, by decide +kernel⟩
theorem ok_law_words {P : Program} {w : PySem.World} {K : PySem.W.Frag} {mg : Str → Option Value} {base : Heap} {f : Addr} {fd : FuncData} (g : Gs K mg) (F : FunD K "_law_words" "_law_words" (defArgs s_law_words) (defBody s_law_words) (defScope s_law_words) [] [] f fd) (hg : mg "_law_words" = some (.ref f)) : FN P w K mg base 1 0 "_law_words" m_law_words := by
  refine ⟨f, fd, [], ?_, hg, F.kp, F.bindsN fun _ _ _ _ _ _ us hl => match us, hl with | [], _ => rfl⟩
  refine F.ok sc_m_law_words (fun vs H Q E h => h.1) (fun cdv A outer s H vs Q E hr h => body_ok (m := m_law_words_s0) (by decide) ?_ h)
  exact (sss_one (ss_ret (se_lst (sa_cons se_str (sa_cons se_str (sa_cons se_str (sa_cons se_str (sa_cons se_str sa_nil))))) (lenCons (lenCons (lenCons (lenCons (lenCons lenNil))))) (by decide))))
theorem px_law_words : ∀ S c d S', m_law_words [] S ≠ .exc c d S' := by intro S c d S' h; first | (exact absurd h (by intro h; cases h)) | cases h
def m_law_faults_s0 : MS := (mAsg (mOp idxM (mOp idxM (mOp idxM (mVar 0) (mC (.int 3))) (mVar 3)) (mC (.int 0))) (tgName 5))
def m_law_faults_s1 : MS := (mAsg (mOp idxM (mOp idxM (mOp idxM (mOp idxM (mVar 0) (mC (.int 3))) (mVar 3)) (mC (.int 1))) (mOp idxM (mOp idxM (mOp idxM (mVar 1) (mC (.str "hands"))) (mVar 3)) (mC (.str "next")))) (tgName 6))
def m_law_faults_s2 : MS := (mAsg (mOp idxM (mOp idxM (mOp idxM (mVar 1) (mC (.str "rows"))) (mVar 5)) (mC (.str "days"))) (tgName 7))
def m_law_faults_s3 : MS := (mAsg (mOp idxM (mOp idxM (mOp idxM (mVar 2) (mC (.str "rows"))) (mVar 5)) (mC (.str "days"))) (tgName 8))
def m_law_faults_s4 : MS := (mAsg (mOp eqM (mVar 4) (mC (.str "done"))) (tgName 9))
def m_law_faults_s5 : MS := (mAsg (fun _ S => mkD false [] [] S) (tgName 10))
def m_law_faults_s6 : MS := (mSub (mAndV (mVar 9) (mAndV (mOp inM (mOp idxM (mVar 6) (mC (.int 0))) (mLst (mCons (mC (.str "room")) (mCons (mC (.str "one")) mNil)))) (mCallF m_law_meets (mCons (mOp idxM (mVar 2) (mC (.str "rows"))) (mCons (mVar 5) (mCons (mC (.int 0)) mNil)))))) (mVar 10) (mC (.str "room")))
def m_law_faults_s7 : MS := (mSub (mAndV (mVar 9) (mAndV (mOp inM (mOp idxM (mVar 6) (mC (.int 0))) (mLst (mCons (mC (.str "person")) (mCons (mC (.str "one")) mNil)))) (mCallF m_law_meets (mCons (mOp idxM (mVar 2) (mC (.str "rows"))) (mCons (mVar 5) (mCons (mC (.int 1)) mNil)))))) (mVar 10) (mC (.str "person")))
def m_law_faults_s8 : MS := (mAsg (mOp gtM (mCallF lenM (mCons (mLc true [14] (mRng (mCons (mCallF lenM (mCons (mVar 7) mNil)) mNil)) (tgName 14) (mAnd (mTest (mOp idxM (mOp idxM (mVar 7) (mVar 14)) (mC (.int 2)))) (mNot (mTest (mOp idxM (mOp idxM (mVar 8) (mVar 14)) (mC (.int 2)))))) (mVar 14)) mNil)) (mC (.int 0))) (tgName 11))
def m_law_faults_s9 : MS := (mSub (mAndV (mOp inM (mOp idxM (mVar 6) (mC (.int 0))) (mLst (mCons (mC (.str "room")) (mCons (mC (.str "person")) mNil)))) (mVar 11)) (mVar 10) (mC (.str "lost")))
def m_law_faults_s10 : MS := (mSub (mAndV (mOp eqM (mOp idxM (mVar 6) (mC (.int 0))) (mC (.str "tell"))) (mOp neM (mVar 4) (mCallF m_law_told (mCons (mOp idxM (mVar 2) (mC (.str "rows"))) (mCons (mVar 5) mNil))))) (mVar 10) (mC (.str "elder")))
def m_law_faults_s11 : MS := (mAsg (mLc true [14] (mRng (mCons (mCallF lenM (mCons (mOp idxM (mVar 0) (mC (.int 3))) mNil)) mNil)) (tgName 14) (mTest (mCallF m_law_has (mCons (mVar 0) (mCons (mVar 2) (mCons (mVar 14) mNil))))) (mVar 14)) (tgName 12))
def m_law_faults_s12 : MS := (mAsg (mLc true [15] (mSrc (mOp idxM (mVar 2) (mC (.str "rows")))) (tgName 15) (mTest (mOp neM (mLc true [17] (mSrc (mOp idxM (mVar 15) (mC (.str "days")))) (tgName 17) mTrue (mOp idxM (mVar 17) (mC (.int 0)))) (mLc true [17] (mSrc (mOp idxM (mVar 15) (mC (.str "days")))) (tgName 17) mTrue (mOp idxM (mVar 17) (mC (.int 1)))))) (mVar 15)) (tgName 13))
def m_law_faults_s13 : MS := (mSub (mAndV (mOp eqM (mCallF lenM (mCons (mVar 12) mNil)) (mC (.int 0))) (mOp gtM (mCallF lenM (mCons (mVar 13) mNil)) (mC (.int 0)))) (mVar 10) (mC (.str "half")))
def m_law_faults_s14 : MS := (mRet (mLc true [16] (mSrc (mCallF m_law_words mNil)) (tgName 16) (mTest (mOp idxM (mVar 10) (mVar 16))) (mVar 16)))
def m_law_faults : MF := frzF (mFn 18 ((mSeq m_law_faults_s0 (mSeq m_law_faults_s1 (mSeq m_law_faults_s2 (mSeq m_law_faults_s3 (mSeq m_law_faults_s4 (mSeq m_law_faults_s5 (mSeq m_law_faults_s6 (mSeq m_law_faults_s7 (mSeq m_law_faults_s8 (mSeq m_law_faults_s9 (mSeq m_law_faults_s10 (mSeq m_law_faults_s11 (mSeq m_law_faults_s12 (mSeq m_law_faults_s13 m_law_faults_s14))))))))))))))))
theorem sc_m_law_faults : FnScope ["_law_world_here", "_law_before", "_law_after", "_law_number", "_law_told_here", "_law_series", "_law_step_here", "_law_old", "_law_now", "_law_done", "_law_found", "_law_gone", "_law_left", "_law_apart", "_law_k", "_law_row", "_law_name", "_law_day"] ["_law_world_here", "_law_before", "_law_after", "_law_number", "_law_told_here"] (defScope s_law_faults) := ⟨rfl, rfl, rfl, by decide +kernel, rfl, by decide +kernel, by decide +kernel⟩
theorem ok_law_faults {P : Program} {w : PySem.World} {K : PySem.W.Frag} {mg : Str → Option Value} {base : Heap} {f : Addr} {fd : FuncData} (g : Gs K mg) (h_law_meets : FN P w K mg base 2 3 "_law_meets" m_law_meets) (h_law_told : FN P w K mg base 1 2 "_law_told" m_law_told) (h_law_has : FN P w K mg base 1 3 "_law_has" m_law_has) (h_law_words : FN P w K mg base 1 0 "_law_words" m_law_words) (F : FunD K "_law_faults" "_law_faults" (defArgs s_law_faults) (defBody s_law_faults) (defScope s_law_faults) [] [] f fd) (hg : mg "_law_faults" = some (.ref f)) : FN P w K mg base 3 5 "_law_faults" m_law_faults := by
  refine ⟨f, fd, ["_law_world_here", "_law_before", "_law_after", "_law_number", "_law_told_here"], ?_, hg, F.kp, F.bindsN fun _ _ _ _ _ _ us hl => match us, hl with | [_, _, _, _, _], _ => rfl⟩
  refine frz_ok (m := mFn _ _) (F.ok sc_m_law_faults (fun vs H Q E h => h.1) (fun cdv A outer s H vs Q E hr h => body_ok (m := (mSeq m_law_faults_s0 (mSeq m_law_faults_s1 (mSeq m_law_faults_s2 (mSeq m_law_faults_s3 (mSeq m_law_faults_s4 (mSeq m_law_faults_s5 (mSeq m_law_faults_s6 (mSeq m_law_faults_s7 (mSeq m_law_faults_s8 (mSeq m_law_faults_s9 (mSeq m_law_faults_s10 (mSeq m_law_faults_s11 (mSeq m_law_faults_s12 (mSeq m_law_faults_s13 m_law_faults_s14))))))))))))))) (by decide) ?_ h))
  exact (sss_cons (sset 5 sc_m_law_faults.nd (se_ix (Room.u1 hr) (fun _ _ => rfl) (se_ix (Room.u1 hr) (fun _ _ => rfl) (se_ix (Room.u1 hr) (fun _ _ => rfl) (sv 0) se_int pu_ix) (sv 3) pu_ix) se_int pu_ix)) (sss_cons (sset 6 sc_m_law_faults.nd (se_ix (Room.u1 hr) (fun _ _ => rfl) (se_ix (Room.u1 hr) (fun _ _ => rfl) (se_ix (Room.u1 hr) (fun _ _ => rfl) (se_ix (Room.u1 hr) (fun _ _ => rfl) (sv 0) se_int pu_ix) (sv 3) pu_ix) se_int pu_ix) (se_ix (Room.u1 hr) (fun _ _ => rfl) (se_ix (Room.u1 hr) (fun _ _ => rfl) (se_ix (Room.u1 hr) (fun _ _ => rfl) (sv 1) se_str pu_ix) (sv 3) pu_ix) se_str pu_ix) pu_ix)) (sss_cons (sset 7 sc_m_law_faults.nd (se_ix (Room.u1 hr) (fun _ _ => rfl) (se_ix (Room.u1 hr) (fun _ _ => rfl) (se_ix (Room.u1 hr) (fun _ _ => rfl) (sv 1) se_str pu_ix) (sv 5) pu_ix) se_str pu_ix)) (sss_cons (sset 8 sc_m_law_faults.nd (se_ix (Room.u1 hr) (fun _ _ => rfl) (se_ix (Room.u1 hr) (fun _ _ => rfl) (se_ix (Room.u1 hr) (fun _ _ => rfl) (sv 2) se_str pu_ix) (sv 5) pu_ix) se_str pu_ix)) (sss_cons (sset 9 sc_m_law_faults.nd (se_cmp (opM_eq (Room.u64 hr)) pu_eq (nomark _) (sv 4) se_str)) (sss_cons (sset 10 sc_m_law_faults.nd (se_dnew (fr := false))) (sss_cons (ss_sub (Room.u1 hr) (se_and (sv 9) (se_and (se_cmp (opM_in (Room.u65 hr)) pu_in (by with_unfolding_all rfl) (se_ix (Room.u1 hr) (fun _ _ => rfl) (sv 6) se_int pu_ix) (se_lst (sa_cons se_str (sa_cons se_str sa_nil)) (lenCons (lenCons lenNil)) (by decide))) (se_one (se_callN h_law_meets hr (by decide) rfl takes_cx (sa_cons (se_ix (Room.u1 hr) (fun _ _ => rfl) (sv 2) se_str pu_ix) (sa_cons (sv 5) (sa_cons se_int sa_nil))) (lenCons (lenCons (lenCons lenNil))))))) (sv 10) se_str) (sss_cons (ss_sub (Room.u1 hr) (se_and (sv 9) (se_and (se_cmp (opM_in (Room.u65 hr)) pu_in (by with_unfolding_all rfl) (se_ix (Room.u1 hr) (fun _ _ => rfl) (sv 6) se_int pu_ix) (se_lst (sa_cons se_str (sa_cons se_str sa_nil)) (lenCons (lenCons lenNil)) (by decide))) (se_one (se_callN h_law_meets hr (by decide) rfl takes_cx (sa_cons (se_ix (Room.u1 hr) (fun _ _ => rfl) (sv 2) se_str pu_ix) (sa_cons (sv 5) (sa_cons se_int sa_nil))) (lenCons (lenCons (lenCons lenNil))))))) (sv 10) se_str) (sss_cons (sset 11 sc_m_law_faults.nd (se_cmp (opM_int op_gt) pu_cmpI (nomark _) (se_callB crM_len pu_len rfl g.b_len bt_len (sa_cons (se_lc (fr := true) (own := [("_law_k", 14)]) rfl sc_m_law_faults.nd (si_rng rfl g.b_range (sa_cons (se_callB crM_len pu_len rfl g.b_len bt_len (sa_cons (sv 7) sa_nil)) sa_nil)) (blkOk_by rfl) (fun _ _ _ _ _ => (sn 14 sc_m_law_faults.nd)) (fun _ _ _ _ _ => (sts_one (st_w (sw_and (st_val (se_ix (Room.u1 hr) (fun _ _ => rfl) (se_ix (Room.u1 hr) (fun _ _ => rfl) (sv 7) (sv 14) pu_ix) se_int pu_ix)) (sw_and1 (st_not (st_val (se_ix (Room.u1 hr) (fun _ _ => rfl) (se_ix (Room.u1 hr) (fun _ _ => rfl) (sv 8) (sv 14) pu_ix) se_int pu_ix)))))))) (fun _ _ _ _ _ => (sv 14)) (by decide)) sa_nil)) se_int)) (sss_cons (ss_sub (Room.u1 hr) (se_and (se_cmp (opM_in (Room.u65 hr)) pu_in (by with_unfolding_all rfl) (se_ix (Room.u1 hr) (fun _ _ => rfl) (sv 6) se_int pu_ix) (se_lst (sa_cons se_str (sa_cons se_str sa_nil)) (lenCons (lenCons lenNil)) (by decide))) (se_one (sv 11))) (sv 10) se_str) (sss_cons (ss_sub (Room.u1 hr) (se_and (se_cmp (opM_eq (Room.u64 hr)) pu_eq (nomark _) (se_ix (Room.u1 hr) (fun _ _ => rfl) (sv 6) se_int pu_ix) se_str) (se_one (se_cmp (opM_ne (Room.u64 hr)) pu_ne (nomark _) (sv 4) (se_callN h_law_told hr (by decide) rfl takes_cx (sa_cons (se_ix (Room.u1 hr) (fun _ _ => rfl) (sv 2) se_str pu_ix) (sa_cons (sv 5) sa_nil)) (lenCons (lenCons lenNil)))))) (sv 10) se_str) (sss_cons (ss_setLc (fr := true) (own := [("_law_k", 14)]) (i := 12) rfl sc_m_law_faults.nd rfl rfl (sw_true rfl rfl rfl rfl) (si_rng rfl g.b_range (sa_cons (se_callB crM_len pu_len rfl g.b_len bt_len (sa_cons (se_ix (Room.u1 hr) (fun _ _ => rfl) (sv 0) se_int pu_ix) sa_nil)) sa_nil)) (blkOk_by rfl) (fun _ _ _ _ _ => (sn 14 sc_m_law_faults.nd)) (fun _ _ _ _ _ => (sts_one (st_val (se_callN h_law_has hr (by decide) rfl takesNo (sa_cons (sv 0) (sa_cons (sv 2) (sa_cons (sv 14) sa_nil))) (lenCons (lenCons (lenCons lenNil))))))) (fun _ _ _ _ _ => (sv 14)) (by decide)) (sss_cons (ss_setLc (fr := true) (own := [("_law_row", 15)]) (i := 13) rfl sc_m_law_faults.nd rfl rfl (sw_true rfl rfl rfl rfl) (si_seq (se_ix (Room.u1 hr) (fun _ _ => rfl) (sv 2) se_str pu_ix)) (blkOk_by rfl) (fun _ _ _ _ _ => (sn 15 sc_m_law_faults.nd)) (fun _ _ _ _ _ => (sts_one (st_cmp (opM_ne (Room.u64 hr)) pu_ne (nomark _) (se_lc (fr := true) (own := [("_law_day", 17)]) rfl sc_m_law_faults.nd (si_seq (se_ix (Room.u1 hr) (fun _ _ => rfl) (sv 15) se_str pu_ix)) (blkOk_by rfl) (fun _ _ _ _ _ => (sn 17 sc_m_law_faults.nd)) (fun _ _ _ _ _ => sts_nil) (fun _ _ _ _ _ => (se_ix (Room.u1 hr) (fun _ _ => rfl) (sv 17) se_int pu_ix)) (by decide)) (se_lc (fr := true) (own := [("_law_day", 17)]) rfl sc_m_law_faults.nd (si_seq (se_ix (Room.u1 hr) (fun _ _ => rfl) (sv 15) se_str pu_ix)) (blkOk_by rfl) (fun _ _ _ _ _ => (sn 17 sc_m_law_faults.nd)) (fun _ _ _ _ _ => sts_nil) (fun _ _ _ _ _ => (se_ix (Room.u1 hr) (fun _ _ => rfl) (sv 17) se_int pu_ix)) (by decide))))) (fun _ _ _ _ _ => (sv 15)) (by decide)) (sss_cons (ss_sub (Room.u1 hr) (se_and (se_cmp (opM_eq (Room.u64 hr)) pu_eq (nomark _) (se_callB crM_len pu_len rfl g.b_len bt_len (sa_cons (sv 12) sa_nil)) se_int) (se_one (se_cmp (opM_int op_gt) pu_cmpI (nomark _) (se_callB crM_len pu_len rfl g.b_len bt_len (sa_cons (sv 13) sa_nil)) se_int))) (sv 10) se_str) (sss_one (ss_ret (se_lc (fr := true) (own := [("_law_name", 16)]) rfl sc_m_law_faults.nd (si_seq (se_callN0 h_law_words hr (by decide) rfl px_law_words)) (blkOk_by rfl) (fun _ _ _ _ _ => (sn 16 sc_m_law_faults.nd)) (fun _ _ _ _ _ => (sts_one (st_val (se_ix (Room.u1 hr) (fun _ _ => rfl) (sv 10) (sv 16) pu_ix)))) (fun _ _ _ _ _ => (sv 16)) (by decide))))))))))))))))))
def m_law_walk_s0 : MS := (mAsg (mCell (mCons (mLst (mCons (mCallF m_law_start (mCons (mVar 1) mNil)) (mCons (mLst mNil) (mCons (mC .non) mNil)))) mNil)) (tgName 3))
def m_law_walk_s1 : MS := (mAsg (mDct1T false (mTup (mCons (mCallF m_law_state (mCons (mOp idxM (mOp idxM (mVar 3) (mC (.int 0))) (mC (.int 0))) mNil)) (mCons (mC .non) mNil))) (mC (.bl true))) (tgName 4))
def m_law_walk_s2 : MS := (mAsg (fun _ S => mkD false [] [] S) (tgName 5))
def m_law_walk_s3 : MS := (mAsg (mC (.int 0)) (tgName 6))
def m_law_walk_s5 : MS := (mAsg (mOp idxM (mOp idxM (mVar 3) (mVar 6)) (mC (.int 0))) (tgName 7))
def m_law_walk_s7 : MS := (mAsg (mCallF m_law_clone (mCons (mVar 7) mNil)) (tgName 9))
def m_law_walk_s8 : MS := (mAsg (mTup (mCons (mVar 8) (mCons (mOp idxM (mOp idxM (mOp idxM (mVar 7) (mC (.str "hands"))) (mVar 8)) (mC (.str "next"))) mNil))) (tgName 10))
def m_law_walk_s9 : MS := (mAsg (mCallF m_law_step (mCons (mVar 0) (mCons (mVar 1) (mCons (mVar 9) (mCons (mVar 8) mNil))))) (tgName 11))
def m_law_walk_s10 : MS := (mAsg (mOp addM (mOp idxM (mOp idxM (mVar 3) (mVar 6)) (mC (.int 1))) (mLst (mCons (mVar 8) mNil))) (tgName 12))
def m_law_walk_s13 : MS := (mSub (mVar 12) (mVar 5) (mVar 13))
def m_law_walk_s12 : MS := (mIfS (mTest (mOp ninM (mVar 13) (mVar 5))) m_law_walk_s13 mNext)
def m_law_walk_s11 : MS := (mFor (mSrc (mCallF m_law_faults (mCons (mVar 1) (mCons (mVar 7) (mCons (mVar 9) (mCons (mVar 8) (mCons (mVar 11) mNil))))))) (tgName 13) m_law_walk_s12)
def m_law_walk_s14 : MS := (mAsg (mOp idxM (mLst (mCons (mC .non) (mCons (mVar 10) mNil))) (mCallF intM (mCons (mOp inM (mVar 10) (mVar 2)) mNil))) (tgName 14))
def m_law_walk_s16 : MS := (mSubT (mC (.bl true)) (mVar 4) (mTup (mCons (mCallF m_law_state (mCons (mVar 9) mNil)) (mCons (mVar 14) mNil))))
def m_law_walk_s17 : MS := (mDrop (mApp (mVar 3) (mLst (mCons (mVar 9) (mCons (mVar 12) (mCons (mVar 14) mNil))))))
def m_law_walk_s15 : MS := (mIfS (mTest (mOp ninTM (mTup (mCons (mCallF m_law_state (mCons (mVar 9) mNil)) (mCons (mVar 14) mNil))) (mVar 4))) (mSeq m_law_walk_s16 m_law_walk_s17) mNext)
def m_law_walk_s6 : MS := (mFor (mSrc (mCallF m_law_next (mCons (mVar 1) (mCons (mVar 7) (mCons (mVar 2) (mCons (mOp idxM (mOp idxM (mVar 3) (mVar 6)) (mC (.int 2))) mNil)))))) (tgName 8) (mSeq m_law_walk_s7 (mSeq m_law_walk_s8 (mSeq m_law_walk_s9 (mSeq m_law_walk_s10 (mSeq m_law_walk_s11 (mSeq m_law_walk_s14 m_law_walk_s15)))))))
def m_law_walk_s18 : MS := (mAsg (mOp addM (mVar 6) (mC (.int 1))) (tgName 6))
def m_law_walk_s4 : MS := (mWhile (mTest (mOp ltM (mVar 6) (mCallF lenM (mCons (mVar 3) mNil)))) (mSeq m_law_walk_s5 (mSeq m_law_walk_s6 m_law_walk_s18)) 70000)
def m_law_walk_s19 : MS := (mRet (mLst (mCons (mVar 3) (mCons (mVar 5) mNil))))
def m_law_walk : MF := mFn 15 ((mSeq m_law_walk_s0 (mSeq m_law_walk_s1 (mSeq m_law_walk_s2 (mSeq m_law_walk_s3 (mSeq m_law_walk_s4 m_law_walk_s19))))))
theorem sc_m_law_walk : FnScope ["_law_parts_here", "_law_world_here", "_law_joints", "_law_rows", "_law_seen", "_law_faults_here", "_law_at", "_law_state_here", "_law_number", "_law_after", "_law_step_here", "_law_told_here", "_law_weaving", "_law_name", "_law_last"] ["_law_parts_here", "_law_world_here", "_law_joints"] (defScope s_law_walk) := ⟨rfl, rfl, rfl, by decide +kernel, rfl, by decide +kernel, by decide +kernel⟩
theorem ok_law_walk {P : Program} {w : PySem.World} {K : PySem.W.Frag} {mg : Str → Option Value} {base : Heap} {f : Addr} {fd : FuncData} (g : Gs K mg) (h_law_start : FN P w K mg base 2 1 "_law_start" m_law_start) (h_law_state : FN P w K mg base 2 1 "_law_state" m_law_state) (h_law_next : FN P w K mg base 2 4 "_law_next" m_law_next) (h_law_clone : FN P w K mg base 1 1 "_law_clone" m_law_clone) (h_law_step : FN P w K mg base 4 4 "_law_step" m_law_step) (h_law_faults : FN P w K mg base 3 5 "_law_faults" m_law_faults) (F : FunD K "_law_walk" "_law_walk" (defArgs s_law_walk) (defBody s_law_walk) (defScope s_law_walk) [] [] f fd) (hg : mg "_law_walk" = some (.ref f)) : FN P w K mg base 5 3 "_law_walk" m_law_walk := by
  refine ⟨f, fd, ["_law_parts_here", "_law_world_here", "_law_joints"], ?_, hg, F.kp, F.bindsN fun _ _ _ _ _ _ us hl => match us, hl with | [_, _, _], _ => rfl⟩
  refine F.ok sc_m_law_walk (fun vs H Q E h => h.1) (fun cdv A outer s H vs Q E hr h => body_ok (m := (mSeq m_law_walk_s0 (mSeq m_law_walk_s1 (mSeq m_law_walk_s2 (mSeq m_law_walk_s3 (mSeq m_law_walk_s4 m_law_walk_s19)))))) (by decide) ?_ h)
  exact (sss_cons (sset 3 sc_m_law_walk.nd (se_cell (sa_cons (se_lst (sa_cons (se_callN h_law_start hr (by decide) rfl takes_cx (sa_cons (sv 1) sa_nil) (lenCons lenNil)) (sa_cons (se_lst sa_nil lenNil (by decide)) (sa_cons se_non sa_nil))) (lenCons (lenCons (lenCons lenNil))) (by decide)) sa_nil) (lenCons lenNil) (by decide))) (sss_cons (sset 4 sc_m_law_walk.nd (se_dict1T (fr := false) (Room.u65 hr) (se_tup (sa_cons (se_callN h_law_state hr (by decide) rfl takes_cx (sa_cons (se_ix (Room.u1 hr) (fun _ _ => rfl) (se_ix (Room.u1 hr) (fun _ _ => rfl) (sv 3) se_int pu_ix) se_int pu_ix) sa_nil) (lenCons lenNil)) (sa_cons se_non sa_nil)) (lenCons (lenCons lenNil)) (by decide)) se_bl)) (sss_cons (sset 5 sc_m_law_walk.nd (se_dnew (fr := false))) (sss_cons (sset 6 sc_m_law_walk.nd se_int) (sss_cons (ss_while 70000 pass_cx (st_cmp (opM_int op_lt) pu_cmpI (nomark _) (sv 6) (se_callB crM_len pu_len rfl g.b_len bt_len (sa_cons (sv 3) sa_nil))) (sss_cons (sset 7 sc_m_law_walk.nd (se_ix (Room.u1 hr) (fun _ _ => rfl) (se_ix (Room.u1 hr) (fun _ _ => rfl) (sv 3) (sv 6) pu_ix) se_int pu_ix)) (sss_cons (ss_for pass_cx rfl (si_seq (se_callN h_law_next hr (by decide) rfl takes_cx (sa_cons (sv 1) (sa_cons (sv 7) (sa_cons (sv 2) (sa_cons (se_ix (Room.u1 hr) (fun _ _ => rfl) (se_ix (Room.u1 hr) (fun _ _ => rfl) (sv 3) (sv 6) pu_ix) se_int pu_ix) sa_nil)))) (lenCons (lenCons (lenCons (lenCons lenNil)))))) (sn 8 sc_m_law_walk.nd) (sss_cons (sset 9 sc_m_law_walk.nd (se_callN h_law_clone hr (by decide) rfl takes_cx (sa_cons (sv 7) sa_nil) (lenCons lenNil))) (sss_cons (sset 10 sc_m_law_walk.nd (se_tup (sa_cons (sv 8) (sa_cons (se_ix (Room.u1 hr) (fun _ _ => rfl) (se_ix (Room.u1 hr) (fun _ _ => rfl) (se_ix (Room.u1 hr) (fun _ _ => rfl) (sv 7) se_str pu_ix) (sv 8) pu_ix) se_str pu_ix) sa_nil)) (lenCons (lenCons lenNil)) (by decide))) (sss_cons (sset 11 sc_m_law_walk.nd (se_callN h_law_step hr (by decide) rfl takes_cx (sa_cons (sv 0) (sa_cons (sv 1) (sa_cons (sv 9) (sa_cons (sv 8) sa_nil)))) (lenCons (lenCons (lenCons (lenCons lenNil)))))) (sss_cons (sset 12 sc_m_law_walk.nd (se_op opM_add pu_add (se_ix (Room.u1 hr) (fun _ _ => rfl) (se_ix (Room.u1 hr) (fun _ _ => rfl) (sv 3) (sv 6) pu_ix) se_int pu_ix) (se_lst (sa_cons (sv 8) sa_nil) (lenCons lenNil) (by decide)))) (sss_cons (ss_for pass_cx rfl (si_seq (se_callN h_law_faults hr (by decide) rfl takes_cx (sa_cons (sv 1) (sa_cons (sv 7) (sa_cons (sv 9) (sa_cons (sv 8) (sa_cons (sv 11) sa_nil))))) (lenCons (lenCons (lenCons (lenCons (lenCons lenNil))))))) (sn 13 sc_m_law_walk.nd) (sss_one (ss_if (st_cmp (opM_nin (Room.u65 hr)) pu_nin (by with_unfolding_all rfl) (sv 13) (sv 5)) (sss_one (ss_sub (Room.u1 hr) (sv 12) (sv 5) (sv 13))) sss_nil))) (sss_cons (sset 14 sc_m_law_walk.nd (se_ix (Room.u1 hr) (fun _ _ => rfl) (se_lst (sa_cons se_non (sa_cons (sv 10) sa_nil)) (lenCons (lenCons lenNil)) (by decide)) (se_callTy crM_int pu_int rfl g.b_int bt_int (sa_cons (se_cmp (opM_in (Room.u65 hr)) pu_in (by with_unfolding_all rfl) (sv 10) (sv 2)) sa_nil)) pu_ix)) (sss_one (ss_if (st_cmp (opM_ninT (Room.u65 hr)) pu_ninT (by with_unfolding_all rfl) (se_tup (sa_cons (se_callN h_law_state hr (by decide) rfl takes_cx (sa_cons (sv 9) sa_nil) (lenCons lenNil)) (sa_cons (sv 14) sa_nil)) (lenCons (lenCons lenNil)) (by decide)) (sv 4)) (sss_cons (ss_subT (Room.u65 hr) se_bl (sv 4) (se_tup (sa_cons (se_callN h_law_state hr (by decide) rfl takes_cx (sa_cons (sv 9) sa_nil) (lenCons lenNil)) (sa_cons (sv 14) sa_nil)) (lenCons (lenCons lenNil)) (by decide))) (sss_one (ss_expr (se_app (sv 3) (se_lst (sa_cons (sv 9) (sa_cons (sv 12) (sa_cons (sv 14) sa_nil))) (lenCons (lenCons (lenCons lenNil))) (by decide)))))) sss_nil))))))))) (sss_one (sset 6 sc_m_law_walk.nd (se_op opM_add pu_add (sv 6) se_int)))))) (sss_one (ss_ret (se_lst (sa_cons (sv 3) (sa_cons (sv 5) sa_nil)) (lenCons (lenCons lenNil)) (by decide)))))))))
def m_law_like_0 : MF := mFn 3 (mStk)
theorem sc_m_law_like_0 : FnScope ["_law_actual", "_law_due_here", "_law_k"] ["_law_actual", "_law_due_here"] (defScope s_law_like_0) := ⟨rfl, rfl, rfl, by decide +kernel, rfl, by decide +kernel, by decide +kernel⟩
theorem ok_law_like_0 {P : Program} {w : PySem.World} {K : PySem.W.Frag} {mg : Str → Option Value} {base : Heap} {f : Addr} {fd : FuncData} (g : Gs K mg) (F : FunD K "_law_like" "_law_like" (defArgs s_law_like_0) (defBody s_law_like_0) (defScope s_law_like_0) [] [] f fd) (hg : mg "_law_like" = some (.ref f)) : FN P w K mg base 1 2 "_law_like" m_law_like_0 := by
  refine ⟨f, fd, ["_law_actual", "_law_due_here"], ?_, hg, F.kp, F.bindsN fun _ _ _ _ _ _ us hl => match us, hl with | [_, _], _ => rfl⟩
  refine F.ok sc_m_law_like_0 (fun vs H Q E h => h.1) (fun cdv A outer s H vs Q E hr h => body_ok (m := mStk) (by decide) ?_ h)
  exact sss_stk
def m_law_like_1_s1 : MS := (mRet (mOp isM (mVar 0) (mC .non)))
def m_law_like_1_s0 : MS := (mIfS (mTest (mOp isM (mVar 1) (mC .non))) m_law_like_1_s1 mNext)
def m_law_like_1_s3 : MS := (mRet (mAndV (mIsi "bool" (mVar 0)) (mOp eqM (mVar 0) (mVar 1))))
def m_law_like_1_s2 : MS := (mIfS (mTest (mIsi "bool" (mVar 1))) m_law_like_1_s3 mNext)
def m_law_like_1_s5 : MS := (mRet (mAndV (mIsi "int" (mVar 0)) (mAndV (mNotV (mIsi "bool" (mVar 0))) (mOp eqM (mVar 0) (mVar 1)))))
def m_law_like_1_s4 : MS := (mIfS (mTest (mIsi "int" (mVar 1))) m_law_like_1_s5 mNext)
def m_law_like_1_s7 : MS := (mRet (mAndV (mIsi "str" (mVar 0)) (mOp eqM (mVar 0) (mVar 1))))
def m_law_like_1_s6 : MS := (mIfS (mTest (mIsi "str" (mVar 1))) m_law_like_1_s7 mNext)
def m_law_like_1_s10 : MS := (mRet (mC (.bl false)))
def m_law_like_1_s9 : MS := (mIfS (mOr (mNot (mTest (mIsi "tuple" (mVar 0)))) (mTest (mOp neM (mCallF lenM (mCons (mVar 0) mNil)) (mCallF lenM (mCons (mVar 1) mNil))))) m_law_like_1_s10 mNext)
def m_law_like_1_s12 : MS := (mRet (mC (.bl false)))
def m_law_like_1_s11 : MS := (mIfS (mOr (mNot (mTest (mIsi "list" (mVar 0)))) (mTest (mOp neM (mCallF lenM (mCons (mVar 0) mNil)) (mCallF lenM (mCons (mVar 1) mNil))))) m_law_like_1_s12 mNext)
def m_law_like_1_s8 : MS := (mIfS (mTest (mIsi "tuple" (mVar 1))) m_law_like_1_s9 m_law_like_1_s11)
def m_law_like_1_s15 : MS := (mRet (mC (.bl false)))
def m_law_like_1_s14 : MS := (mIfS (mNot (mTest (mCallF m_law_like_0 (mCons (mOp idxM (mVar 0) (mVar 2)) (mCons (mOp idxM (mVar 1) (mVar 2)) mNil))))) m_law_like_1_s15 mNext)
def m_law_like_1_s13 : MS := (mFor (mRng (mCons (mCallF lenM (mCons (mVar 1) mNil)) mNil)) (tgName 2) m_law_like_1_s14)
def m_law_like_1_s16 : MS := (mRet (mC (.bl true)))
def m_law_like_1 : MF := mFn 3 ((mSeq m_law_like_1_s0 (mSeq m_law_like_1_s2 (mSeq m_law_like_1_s4 (mSeq m_law_like_1_s6 (mSeq m_law_like_1_s8 (mSeq m_law_like_1_s13 m_law_like_1_s16)))))))
theorem sc_m_law_like_1 : FnScope ["_law_actual", "_law_due_here", "_law_k"] ["_law_actual", "_law_due_here"] (defScope s_law_like_1) := ⟨rfl, rfl, rfl, by decide +kernel, rfl, by decide +kernel, by decide +kernel⟩
theorem ok_law_like_1 {P : Program} {w : PySem.World} {K : PySem.W.Frag} {mg : Str → Option Value} {base : Heap} {f : Addr} {fd : FuncData} (g : Gs K mg) (h_law_like_0 : FN P w K mg base 1 2 "_law_like" m_law_like_0) (F : FunD K "_law_like" "_law_like" (defArgs s_law_like_1) (defBody s_law_like_1) (defScope s_law_like_1) [] [] f fd) (hg : mg "_law_like" = some (.ref f)) : FN P w K mg base 2 2 "_law_like" m_law_like_1 := by
  refine ⟨f, fd, ["_law_actual", "_law_due_here"], ?_, hg, F.kp, F.bindsN fun _ _ _ _ _ _ us hl => match us, hl with | [_, _], _ => rfl⟩
  refine F.ok sc_m_law_like_1 (fun vs H Q E h => h.1) (fun cdv A outer s H vs Q E hr h => body_ok (m := (mSeq m_law_like_1_s0 (mSeq m_law_like_1_s2 (mSeq m_law_like_1_s4 (mSeq m_law_like_1_s6 (mSeq m_law_like_1_s8 (mSeq m_law_like_1_s13 m_law_like_1_s16))))))) (by decide) ?_ h)
  exact (sss_cons (ss_if (st_cmp opM_is pu_is (nomark _) (sv 1) se_non) (sss_one (ss_ret (se_cmp opM_is pu_is (nomark _) (sv 0) se_non))) sss_nil) (sss_cons (ss_if (st_val (se_isi rfl g.b_isinstance rfl g.b_bool bt_bool (sv 1))) (sss_one (ss_ret (se_and (se_isi rfl g.b_isinstance rfl g.b_bool bt_bool (sv 0)) (se_one (se_cmp (opM_eq (Room.u64 hr)) pu_eq (nomark _) (sv 0) (sv 1)))))) sss_nil) (sss_cons (ss_if (st_val (se_isi rfl g.b_isinstance rfl g.b_int bt_int (sv 1))) (sss_one (ss_ret (se_and (se_isi rfl g.b_isinstance rfl g.b_int bt_int (sv 0)) (se_and (se_not (se_isi rfl g.b_isinstance rfl g.b_bool bt_bool (sv 0))) (se_one (se_cmp (opM_eq (Room.u64 hr)) pu_eq (nomark _) (sv 0) (sv 1))))))) sss_nil) (sss_cons (ss_if (st_val (se_isi rfl g.b_isinstance rfl g.b_str bt_str (sv 1))) (sss_one (ss_ret (se_and (se_isi rfl g.b_isinstance rfl g.b_str bt_str (sv 0)) (se_one (se_cmp (opM_eq (Room.u64 hr)) pu_eq (nomark _) (sv 0) (sv 1)))))) sss_nil) (sss_cons (ss_if (st_val (se_isi rfl g.b_isinstance rfl g.b_tuple bt_tuple (sv 1))) (sss_one (ss_if (st_w (sw_or (st_not (st_val (se_isi rfl g.b_isinstance rfl g.b_tuple bt_tuple (sv 0)))) (sw_or1 (st_cmp (opM_ne (Room.u64 hr)) pu_ne (nomark _) (se_callB crM_len pu_len rfl g.b_len bt_len (sa_cons (sv 0) sa_nil)) (se_callB crM_len pu_len rfl g.b_len bt_len (sa_cons (sv 1) sa_nil)))))) (sss_one (ss_ret se_bl)) sss_nil)) (sss_one (ss_if (st_w (sw_or (st_not (st_val (se_isi rfl g.b_isinstance rfl g.b_list bt_list (sv 0)))) (sw_or1 (st_cmp (opM_ne (Room.u64 hr)) pu_ne (nomark _) (se_callB crM_len pu_len rfl g.b_len bt_len (sa_cons (sv 0) sa_nil)) (se_callB crM_len pu_len rfl g.b_len bt_len (sa_cons (sv 1) sa_nil)))))) (sss_one (ss_ret se_bl)) sss_nil))) (sss_cons (ss_for pass_cx rfl (si_rng rfl g.b_range (sa_cons (se_callB crM_len pu_len rfl g.b_len bt_len (sa_cons (sv 1) sa_nil)) sa_nil)) (sn 2 sc_m_law_like_1.nd) (sss_one (ss_if (st_not (st_val (se_callN h_law_like_0 hr (by decide) rfl takes_cx (sa_cons (se_ix (Room.u1 hr) (fun _ _ => rfl) (sv 0) (sv 2) pu_ix) (sa_cons (se_ix (Room.u1 hr) (fun _ _ => rfl) (sv 1) (sv 2) pu_ix) sa_nil)) (lenCons (lenCons lenNil))))) (sss_one (ss_ret se_bl)) sss_nil))) (sss_one (ss_ret se_bl))))))))
def m_law_like_2_s1 : MS := (mRet (mOp isM (mVar 0) (mC .non)))
def m_law_like_2_s0 : MS := (mIfS (mTest (mOp isM (mVar 1) (mC .non))) m_law_like_2_s1 mNext)
def m_law_like_2_s3 : MS := (mRet (mAndV (mIsi "bool" (mVar 0)) (mOp eqM (mVar 0) (mVar 1))))
def m_law_like_2_s2 : MS := (mIfS (mTest (mIsi "bool" (mVar 1))) m_law_like_2_s3 mNext)
def m_law_like_2_s5 : MS := (mRet (mAndV (mIsi "int" (mVar 0)) (mAndV (mNotV (mIsi "bool" (mVar 0))) (mOp eqM (mVar 0) (mVar 1)))))
def m_law_like_2_s4 : MS := (mIfS (mTest (mIsi "int" (mVar 1))) m_law_like_2_s5 mNext)
def m_law_like_2_s7 : MS := (mRet (mAndV (mIsi "str" (mVar 0)) (mOp eqM (mVar 0) (mVar 1))))
def m_law_like_2_s6 : MS := (mIfS (mTest (mIsi "str" (mVar 1))) m_law_like_2_s7 mNext)
def m_law_like_2_s10 : MS := (mRet (mC (.bl false)))
def m_law_like_2_s9 : MS := (mIfS (mOr (mNot (mTest (mIsi "tuple" (mVar 0)))) (mTest (mOp neM (mCallF lenM (mCons (mVar 0) mNil)) (mCallF lenM (mCons (mVar 1) mNil))))) m_law_like_2_s10 mNext)
def m_law_like_2_s12 : MS := (mRet (mC (.bl false)))
def m_law_like_2_s11 : MS := (mIfS (mOr (mNot (mTest (mIsi "list" (mVar 0)))) (mTest (mOp neM (mCallF lenM (mCons (mVar 0) mNil)) (mCallF lenM (mCons (mVar 1) mNil))))) m_law_like_2_s12 mNext)
def m_law_like_2_s8 : MS := (mIfS (mTest (mIsi "tuple" (mVar 1))) m_law_like_2_s9 m_law_like_2_s11)
def m_law_like_2_s15 : MS := (mRet (mC (.bl false)))
def m_law_like_2_s14 : MS := (mIfS (mNot (mTest (mCallF m_law_like_1 (mCons (mOp idxM (mVar 0) (mVar 2)) (mCons (mOp idxM (mVar 1) (mVar 2)) mNil))))) m_law_like_2_s15 mNext)
def m_law_like_2_s13 : MS := (mFor (mRng (mCons (mCallF lenM (mCons (mVar 1) mNil)) mNil)) (tgName 2) m_law_like_2_s14)
def m_law_like_2_s16 : MS := (mRet (mC (.bl true)))
def m_law_like_2 : MF := mFn 3 ((mSeq m_law_like_2_s0 (mSeq m_law_like_2_s2 (mSeq m_law_like_2_s4 (mSeq m_law_like_2_s6 (mSeq m_law_like_2_s8 (mSeq m_law_like_2_s13 m_law_like_2_s16)))))))
theorem sc_m_law_like_2 : FnScope ["_law_actual", "_law_due_here", "_law_k"] ["_law_actual", "_law_due_here"] (defScope s_law_like_2) := ⟨rfl, rfl, rfl, by decide +kernel, rfl, by decide +kernel, by decide +kernel⟩
theorem ok_law_like_2 {P : Program} {w : PySem.World} {K : PySem.W.Frag} {mg : Str → Option Value} {base : Heap} {f : Addr} {fd : FuncData} (g : Gs K mg) (h_law_like_1 : FN P w K mg base 2 2 "_law_like" m_law_like_1) (F : FunD K "_law_like" "_law_like" (defArgs s_law_like_2) (defBody s_law_like_2) (defScope s_law_like_2) [] [] f fd) (hg : mg "_law_like" = some (.ref f)) : FN P w K mg base 3 2 "_law_like" m_law_like_2 := by
  refine ⟨f, fd, ["_law_actual", "_law_due_here"], ?_, hg, F.kp, F.bindsN fun _ _ _ _ _ _ us hl => match us, hl with | [_, _], _ => rfl⟩
  refine F.ok sc_m_law_like_2 (fun vs H Q E h => h.1) (fun cdv A outer s H vs Q E hr h => body_ok (m := (mSeq m_law_like_2_s0 (mSeq m_law_like_2_s2 (mSeq m_law_like_2_s4 (mSeq m_law_like_2_s6 (mSeq m_law_like_2_s8 (mSeq m_law_like_2_s13 m_law_like_2_s16))))))) (by decide) ?_ h)
  exact (sss_cons (ss_if (st_cmp opM_is pu_is (nomark _) (sv 1) se_non) (sss_one (ss_ret (se_cmp opM_is pu_is (nomark _) (sv 0) se_non))) sss_nil) (sss_cons (ss_if (st_val (se_isi rfl g.b_isinstance rfl g.b_bool bt_bool (sv 1))) (sss_one (ss_ret (se_and (se_isi rfl g.b_isinstance rfl g.b_bool bt_bool (sv 0)) (se_one (se_cmp (opM_eq (Room.u64 hr)) pu_eq (nomark _) (sv 0) (sv 1)))))) sss_nil) (sss_cons (ss_if (st_val (se_isi rfl g.b_isinstance rfl g.b_int bt_int (sv 1))) (sss_one (ss_ret (se_and (se_isi rfl g.b_isinstance rfl g.b_int bt_int (sv 0)) (se_and (se_not (se_isi rfl g.b_isinstance rfl g.b_bool bt_bool (sv 0))) (se_one (se_cmp (opM_eq (Room.u64 hr)) pu_eq (nomark _) (sv 0) (sv 1))))))) sss_nil) (sss_cons (ss_if (st_val (se_isi rfl g.b_isinstance rfl g.b_str bt_str (sv 1))) (sss_one (ss_ret (se_and (se_isi rfl g.b_isinstance rfl g.b_str bt_str (sv 0)) (se_one (se_cmp (opM_eq (Room.u64 hr)) pu_eq (nomark _) (sv 0) (sv 1)))))) sss_nil) (sss_cons (ss_if (st_val (se_isi rfl g.b_isinstance rfl g.b_tuple bt_tuple (sv 1))) (sss_one (ss_if (st_w (sw_or (st_not (st_val (se_isi rfl g.b_isinstance rfl g.b_tuple bt_tuple (sv 0)))) (sw_or1 (st_cmp (opM_ne (Room.u64 hr)) pu_ne (nomark _) (se_callB crM_len pu_len rfl g.b_len bt_len (sa_cons (sv 0) sa_nil)) (se_callB crM_len pu_len rfl g.b_len bt_len (sa_cons (sv 1) sa_nil)))))) (sss_one (ss_ret se_bl)) sss_nil)) (sss_one (ss_if (st_w (sw_or (st_not (st_val (se_isi rfl g.b_isinstance rfl g.b_list bt_list (sv 0)))) (sw_or1 (st_cmp (opM_ne (Room.u64 hr)) pu_ne (nomark _) (se_callB crM_len pu_len rfl g.b_len bt_len (sa_cons (sv 0) sa_nil)) (se_callB crM_len pu_len rfl g.b_len bt_len (sa_cons (sv 1) sa_nil)))))) (sss_one (ss_ret se_bl)) sss_nil))) (sss_cons (ss_for pass_cx rfl (si_rng rfl g.b_range (sa_cons (se_callB crM_len pu_len rfl g.b_len bt_len (sa_cons (sv 1) sa_nil)) sa_nil)) (sn 2 sc_m_law_like_2.nd) (sss_one (ss_if (st_not (st_val (se_callN h_law_like_1 hr (by decide) rfl takes_cx (sa_cons (se_ix (Room.u1 hr) (fun _ _ => rfl) (sv 0) (sv 2) pu_ix) (sa_cons (se_ix (Room.u1 hr) (fun _ _ => rfl) (sv 1) (sv 2) pu_ix) sa_nil)) (lenCons (lenCons lenNil))))) (sss_one (ss_ret se_bl)) sss_nil))) (sss_one (ss_ret se_bl))))))))
def m_law_like_3_s1 : MS := (mRet (mOp isM (mVar 0) (mC .non)))
def m_law_like_3_s0 : MS := (mIfS (mTest (mOp isM (mVar 1) (mC .non))) m_law_like_3_s1 mNext)
def m_law_like_3_s3 : MS := (mRet (mAndV (mIsi "bool" (mVar 0)) (mOp eqM (mVar 0) (mVar 1))))
def m_law_like_3_s2 : MS := (mIfS (mTest (mIsi "bool" (mVar 1))) m_law_like_3_s3 mNext)
def m_law_like_3_s5 : MS := (mRet (mAndV (mIsi "int" (mVar 0)) (mAndV (mNotV (mIsi "bool" (mVar 0))) (mOp eqM (mVar 0) (mVar 1)))))
def m_law_like_3_s4 : MS := (mIfS (mTest (mIsi "int" (mVar 1))) m_law_like_3_s5 mNext)
def m_law_like_3_s7 : MS := (mRet (mAndV (mIsi "str" (mVar 0)) (mOp eqM (mVar 0) (mVar 1))))
def m_law_like_3_s6 : MS := (mIfS (mTest (mIsi "str" (mVar 1))) m_law_like_3_s7 mNext)
def m_law_like_3_s10 : MS := (mRet (mC (.bl false)))
def m_law_like_3_s9 : MS := (mIfS (mOr (mNot (mTest (mIsi "tuple" (mVar 0)))) (mTest (mOp neM (mCallF lenM (mCons (mVar 0) mNil)) (mCallF lenM (mCons (mVar 1) mNil))))) m_law_like_3_s10 mNext)
def m_law_like_3_s12 : MS := (mRet (mC (.bl false)))
def m_law_like_3_s11 : MS := (mIfS (mOr (mNot (mTest (mIsi "list" (mVar 0)))) (mTest (mOp neM (mCallF lenM (mCons (mVar 0) mNil)) (mCallF lenM (mCons (mVar 1) mNil))))) m_law_like_3_s12 mNext)
def m_law_like_3_s8 : MS := (mIfS (mTest (mIsi "tuple" (mVar 1))) m_law_like_3_s9 m_law_like_3_s11)
def m_law_like_3_s15 : MS := (mRet (mC (.bl false)))
def m_law_like_3_s14 : MS := (mIfS (mNot (mTest (mCallF m_law_like_2 (mCons (mOp idxM (mVar 0) (mVar 2)) (mCons (mOp idxM (mVar 1) (mVar 2)) mNil))))) m_law_like_3_s15 mNext)
def m_law_like_3_s13 : MS := (mFor (mRng (mCons (mCallF lenM (mCons (mVar 1) mNil)) mNil)) (tgName 2) m_law_like_3_s14)
def m_law_like_3_s16 : MS := (mRet (mC (.bl true)))
def m_law_like_3 : MF := mFn 3 ((mSeq m_law_like_3_s0 (mSeq m_law_like_3_s2 (mSeq m_law_like_3_s4 (mSeq m_law_like_3_s6 (mSeq m_law_like_3_s8 (mSeq m_law_like_3_s13 m_law_like_3_s16)))))))
theorem sc_m_law_like_3 : FnScope ["_law_actual", "_law_due_here", "_law_k"] ["_law_actual", "_law_due_here"] (defScope s_law_like_3) := ⟨rfl, rfl, rfl, by decide +kernel, rfl, by decide +kernel, by decide +kernel⟩
theorem ok_law_like_3 {P : Program} {w : PySem.World} {K : PySem.W.Frag} {mg : Str → Option Value} {base : Heap} {f : Addr} {fd : FuncData} (g : Gs K mg) (h_law_like_2 : FN P w K mg base 3 2 "_law_like" m_law_like_2) (F : FunD K "_law_like" "_law_like" (defArgs s_law_like_3) (defBody s_law_like_3) (defScope s_law_like_3) [] [] f fd) (hg : mg "_law_like" = some (.ref f)) : FN P w K mg base 4 2 "_law_like" m_law_like_3 := by
  refine ⟨f, fd, ["_law_actual", "_law_due_here"], ?_, hg, F.kp, F.bindsN fun _ _ _ _ _ _ us hl => match us, hl with | [_, _], _ => rfl⟩
  refine F.ok sc_m_law_like_3 (fun vs H Q E h => h.1) (fun cdv A outer s H vs Q E hr h => body_ok (m := (mSeq m_law_like_3_s0 (mSeq m_law_like_3_s2 (mSeq m_law_like_3_s4 (mSeq m_law_like_3_s6 (mSeq m_law_like_3_s8 (mSeq m_law_like_3_s13 m_law_like_3_s16))))))) (by decide) ?_ h)
  exact (sss_cons (ss_if (st_cmp opM_is pu_is (nomark _) (sv 1) se_non) (sss_one (ss_ret (se_cmp opM_is pu_is (nomark _) (sv 0) se_non))) sss_nil) (sss_cons (ss_if (st_val (se_isi rfl g.b_isinstance rfl g.b_bool bt_bool (sv 1))) (sss_one (ss_ret (se_and (se_isi rfl g.b_isinstance rfl g.b_bool bt_bool (sv 0)) (se_one (se_cmp (opM_eq (Room.u64 hr)) pu_eq (nomark _) (sv 0) (sv 1)))))) sss_nil) (sss_cons (ss_if (st_val (se_isi rfl g.b_isinstance rfl g.b_int bt_int (sv 1))) (sss_one (ss_ret (se_and (se_isi rfl g.b_isinstance rfl g.b_int bt_int (sv 0)) (se_and (se_not (se_isi rfl g.b_isinstance rfl g.b_bool bt_bool (sv 0))) (se_one (se_cmp (opM_eq (Room.u64 hr)) pu_eq (nomark _) (sv 0) (sv 1))))))) sss_nil) (sss_cons (ss_if (st_val (se_isi rfl g.b_isinstance rfl g.b_str bt_str (sv 1))) (sss_one (ss_ret (se_and (se_isi rfl g.b_isinstance rfl g.b_str bt_str (sv 0)) (se_one (se_cmp (opM_eq (Room.u64 hr)) pu_eq (nomark _) (sv 0) (sv 1)))))) sss_nil) (sss_cons (ss_if (st_val (se_isi rfl g.b_isinstance rfl g.b_tuple bt_tuple (sv 1))) (sss_one (ss_if (st_w (sw_or (st_not (st_val (se_isi rfl g.b_isinstance rfl g.b_tuple bt_tuple (sv 0)))) (sw_or1 (st_cmp (opM_ne (Room.u64 hr)) pu_ne (nomark _) (se_callB crM_len pu_len rfl g.b_len bt_len (sa_cons (sv 0) sa_nil)) (se_callB crM_len pu_len rfl g.b_len bt_len (sa_cons (sv 1) sa_nil)))))) (sss_one (ss_ret se_bl)) sss_nil)) (sss_one (ss_if (st_w (sw_or (st_not (st_val (se_isi rfl g.b_isinstance rfl g.b_list bt_list (sv 0)))) (sw_or1 (st_cmp (opM_ne (Room.u64 hr)) pu_ne (nomark _) (se_callB crM_len pu_len rfl g.b_len bt_len (sa_cons (sv 0) sa_nil)) (se_callB crM_len pu_len rfl g.b_len bt_len (sa_cons (sv 1) sa_nil)))))) (sss_one (ss_ret se_bl)) sss_nil))) (sss_cons (ss_for pass_cx rfl (si_rng rfl g.b_range (sa_cons (se_callB crM_len pu_len rfl g.b_len bt_len (sa_cons (sv 1) sa_nil)) sa_nil)) (sn 2 sc_m_law_like_3.nd) (sss_one (ss_if (st_not (st_val (se_callN h_law_like_2 hr (by decide) rfl takes_cx (sa_cons (se_ix (Room.u1 hr) (fun _ _ => rfl) (sv 0) (sv 2) pu_ix) (sa_cons (se_ix (Room.u1 hr) (fun _ _ => rfl) (sv 1) (sv 2) pu_ix) sa_nil)) (lenCons (lenCons lenNil))))) (sss_one (ss_ret se_bl)) sss_nil))) (sss_one (ss_ret se_bl))))))))
def m_law_like_4_s1 : MS := (mRet (mOp isM (mVar 0) (mC .non)))
def m_law_like_4_s0 : MS := (mIfS (mTest (mOp isM (mVar 1) (mC .non))) m_law_like_4_s1 mNext)
def m_law_like_4_s3 : MS := (mRet (mAndV (mIsi "bool" (mVar 0)) (mOp eqM (mVar 0) (mVar 1))))
def m_law_like_4_s2 : MS := (mIfS (mTest (mIsi "bool" (mVar 1))) m_law_like_4_s3 mNext)
def m_law_like_4_s5 : MS := (mRet (mAndV (mIsi "int" (mVar 0)) (mAndV (mNotV (mIsi "bool" (mVar 0))) (mOp eqM (mVar 0) (mVar 1)))))
def m_law_like_4_s4 : MS := (mIfS (mTest (mIsi "int" (mVar 1))) m_law_like_4_s5 mNext)
def m_law_like_4_s7 : MS := (mRet (mAndV (mIsi "str" (mVar 0)) (mOp eqM (mVar 0) (mVar 1))))
def m_law_like_4_s6 : MS := (mIfS (mTest (mIsi "str" (mVar 1))) m_law_like_4_s7 mNext)
def m_law_like_4_s10 : MS := (mRet (mC (.bl false)))
def m_law_like_4_s9 : MS := (mIfS (mOr (mNot (mTest (mIsi "tuple" (mVar 0)))) (mTest (mOp neM (mCallF lenM (mCons (mVar 0) mNil)) (mCallF lenM (mCons (mVar 1) mNil))))) m_law_like_4_s10 mNext)
def m_law_like_4_s12 : MS := (mRet (mC (.bl false)))
def m_law_like_4_s11 : MS := (mIfS (mOr (mNot (mTest (mIsi "list" (mVar 0)))) (mTest (mOp neM (mCallF lenM (mCons (mVar 0) mNil)) (mCallF lenM (mCons (mVar 1) mNil))))) m_law_like_4_s12 mNext)
def m_law_like_4_s8 : MS := (mIfS (mTest (mIsi "tuple" (mVar 1))) m_law_like_4_s9 m_law_like_4_s11)
def m_law_like_4_s15 : MS := (mRet (mC (.bl false)))
def m_law_like_4_s14 : MS := (mIfS (mNot (mTest (mCallF m_law_like_3 (mCons (mOp idxM (mVar 0) (mVar 2)) (mCons (mOp idxM (mVar 1) (mVar 2)) mNil))))) m_law_like_4_s15 mNext)
def m_law_like_4_s13 : MS := (mFor (mRng (mCons (mCallF lenM (mCons (mVar 1) mNil)) mNil)) (tgName 2) m_law_like_4_s14)
def m_law_like_4_s16 : MS := (mRet (mC (.bl true)))
def m_law_like_4 : MF := mFn 3 ((mSeq m_law_like_4_s0 (mSeq m_law_like_4_s2 (mSeq m_law_like_4_s4 (mSeq m_law_like_4_s6 (mSeq m_law_like_4_s8 (mSeq m_law_like_4_s13 m_law_like_4_s16)))))))
theorem sc_m_law_like_4 : FnScope ["_law_actual", "_law_due_here", "_law_k"] ["_law_actual", "_law_due_here"] (defScope s_law_like_4) := ⟨rfl, rfl, rfl, by decide +kernel, rfl, by decide +kernel, by decide +kernel⟩
theorem ok_law_like_4 {P : Program} {w : PySem.World} {K : PySem.W.Frag} {mg : Str → Option Value} {base : Heap} {f : Addr} {fd : FuncData} (g : Gs K mg) (h_law_like_3 : FN P w K mg base 4 2 "_law_like" m_law_like_3) (F : FunD K "_law_like" "_law_like" (defArgs s_law_like_4) (defBody s_law_like_4) (defScope s_law_like_4) [] [] f fd) (hg : mg "_law_like" = some (.ref f)) : FN P w K mg base 5 2 "_law_like" m_law_like_4 := by
  refine ⟨f, fd, ["_law_actual", "_law_due_here"], ?_, hg, F.kp, F.bindsN fun _ _ _ _ _ _ us hl => match us, hl with | [_, _], _ => rfl⟩
  refine F.ok sc_m_law_like_4 (fun vs H Q E h => h.1) (fun cdv A outer s H vs Q E hr h => body_ok (m := (mSeq m_law_like_4_s0 (mSeq m_law_like_4_s2 (mSeq m_law_like_4_s4 (mSeq m_law_like_4_s6 (mSeq m_law_like_4_s8 (mSeq m_law_like_4_s13 m_law_like_4_s16))))))) (by decide) ?_ h)
  exact (sss_cons (ss_if (st_cmp opM_is pu_is (nomark _) (sv 1) se_non) (sss_one (ss_ret (se_cmp opM_is pu_is (nomark _) (sv 0) se_non))) sss_nil) (sss_cons (ss_if (st_val (se_isi rfl g.b_isinstance rfl g.b_bool bt_bool (sv 1))) (sss_one (ss_ret (se_and (se_isi rfl g.b_isinstance rfl g.b_bool bt_bool (sv 0)) (se_one (se_cmp (opM_eq (Room.u64 hr)) pu_eq (nomark _) (sv 0) (sv 1)))))) sss_nil) (sss_cons (ss_if (st_val (se_isi rfl g.b_isinstance rfl g.b_int bt_int (sv 1))) (sss_one (ss_ret (se_and (se_isi rfl g.b_isinstance rfl g.b_int bt_int (sv 0)) (se_and (se_not (se_isi rfl g.b_isinstance rfl g.b_bool bt_bool (sv 0))) (se_one (se_cmp (opM_eq (Room.u64 hr)) pu_eq (nomark _) (sv 0) (sv 1))))))) sss_nil) (sss_cons (ss_if (st_val (se_isi rfl g.b_isinstance rfl g.b_str bt_str (sv 1))) (sss_one (ss_ret (se_and (se_isi rfl g.b_isinstance rfl g.b_str bt_str (sv 0)) (se_one (se_cmp (opM_eq (Room.u64 hr)) pu_eq (nomark _) (sv 0) (sv 1)))))) sss_nil) (sss_cons (ss_if (st_val (se_isi rfl g.b_isinstance rfl g.b_tuple bt_tuple (sv 1))) (sss_one (ss_if (st_w (sw_or (st_not (st_val (se_isi rfl g.b_isinstance rfl g.b_tuple bt_tuple (sv 0)))) (sw_or1 (st_cmp (opM_ne (Room.u64 hr)) pu_ne (nomark _) (se_callB crM_len pu_len rfl g.b_len bt_len (sa_cons (sv 0) sa_nil)) (se_callB crM_len pu_len rfl g.b_len bt_len (sa_cons (sv 1) sa_nil)))))) (sss_one (ss_ret se_bl)) sss_nil)) (sss_one (ss_if (st_w (sw_or (st_not (st_val (se_isi rfl g.b_isinstance rfl g.b_list bt_list (sv 0)))) (sw_or1 (st_cmp (opM_ne (Room.u64 hr)) pu_ne (nomark _) (se_callB crM_len pu_len rfl g.b_len bt_len (sa_cons (sv 0) sa_nil)) (se_callB crM_len pu_len rfl g.b_len bt_len (sa_cons (sv 1) sa_nil)))))) (sss_one (ss_ret se_bl)) sss_nil))) (sss_cons (ss_for pass_cx rfl (si_rng rfl g.b_range (sa_cons (se_callB crM_len pu_len rfl g.b_len bt_len (sa_cons (sv 1) sa_nil)) sa_nil)) (sn 2 sc_m_law_like_4.nd) (sss_one (ss_if (st_not (st_val (se_callN h_law_like_3 hr (by decide) rfl takes_cx (sa_cons (se_ix (Room.u1 hr) (fun _ _ => rfl) (sv 0) (sv 2) pu_ix) (sa_cons (se_ix (Room.u1 hr) (fun _ _ => rfl) (sv 1) (sv 2) pu_ix) sa_nil)) (lenCons (lenCons lenNil))))) (sss_one (ss_ret se_bl)) sss_nil))) (sss_one (ss_ret se_bl))))))))
def m_law_like_5_s1 : MS := (mRet (mOp isM (mVar 0) (mC .non)))
def m_law_like_5_s0 : MS := (mIfS (mTest (mOp isM (mVar 1) (mC .non))) m_law_like_5_s1 mNext)
def m_law_like_5_s3 : MS := (mRet (mAndV (mIsi "bool" (mVar 0)) (mOp eqM (mVar 0) (mVar 1))))
def m_law_like_5_s2 : MS := (mIfS (mTest (mIsi "bool" (mVar 1))) m_law_like_5_s3 mNext)
def m_law_like_5_s5 : MS := (mRet (mAndV (mIsi "int" (mVar 0)) (mAndV (mNotV (mIsi "bool" (mVar 0))) (mOp eqM (mVar 0) (mVar 1)))))
def m_law_like_5_s4 : MS := (mIfS (mTest (mIsi "int" (mVar 1))) m_law_like_5_s5 mNext)
def m_law_like_5_s7 : MS := (mRet (mAndV (mIsi "str" (mVar 0)) (mOp eqM (mVar 0) (mVar 1))))
def m_law_like_5_s6 : MS := (mIfS (mTest (mIsi "str" (mVar 1))) m_law_like_5_s7 mNext)
def m_law_like_5_s10 : MS := (mRet (mC (.bl false)))
def m_law_like_5_s9 : MS := (mIfS (mOr (mNot (mTest (mIsi "tuple" (mVar 0)))) (mTest (mOp neM (mCallF lenM (mCons (mVar 0) mNil)) (mCallF lenM (mCons (mVar 1) mNil))))) m_law_like_5_s10 mNext)
def m_law_like_5_s12 : MS := (mRet (mC (.bl false)))
def m_law_like_5_s11 : MS := (mIfS (mOr (mNot (mTest (mIsi "list" (mVar 0)))) (mTest (mOp neM (mCallF lenM (mCons (mVar 0) mNil)) (mCallF lenM (mCons (mVar 1) mNil))))) m_law_like_5_s12 mNext)
def m_law_like_5_s8 : MS := (mIfS (mTest (mIsi "tuple" (mVar 1))) m_law_like_5_s9 m_law_like_5_s11)
def m_law_like_5_s15 : MS := (mRet (mC (.bl false)))
def m_law_like_5_s14 : MS := (mIfS (mNot (mTest (mCallF m_law_like_4 (mCons (mOp idxM (mVar 0) (mVar 2)) (mCons (mOp idxM (mVar 1) (mVar 2)) mNil))))) m_law_like_5_s15 mNext)
def m_law_like_5_s13 : MS := (mFor (mRng (mCons (mCallF lenM (mCons (mVar 1) mNil)) mNil)) (tgName 2) m_law_like_5_s14)
def m_law_like_5_s16 : MS := (mRet (mC (.bl true)))
def m_law_like_5 : MF := mFn 3 ((mSeq m_law_like_5_s0 (mSeq m_law_like_5_s2 (mSeq m_law_like_5_s4 (mSeq m_law_like_5_s6 (mSeq m_law_like_5_s8 (mSeq m_law_like_5_s13 m_law_like_5_s16)))))))
theorem sc_m_law_like_5 : FnScope ["_law_actual", "_law_due_here", "_law_k"] ["_law_actual", "_law_due_here"] (defScope s_law_like_5) := ⟨rfl, rfl, rfl, by decide +kernel, rfl, by decide +kernel, by decide +kernel⟩
theorem ok_law_like_5 {P : Program} {w : PySem.World} {K : PySem.W.Frag} {mg : Str → Option Value} {base : Heap} {f : Addr} {fd : FuncData} (g : Gs K mg) (h_law_like_4 : FN P w K mg base 5 2 "_law_like" m_law_like_4) (F : FunD K "_law_like" "_law_like" (defArgs s_law_like_5) (defBody s_law_like_5) (defScope s_law_like_5) [] [] f fd) (hg : mg "_law_like" = some (.ref f)) : FN P w K mg base 6 2 "_law_like" m_law_like_5 := by
  refine ⟨f, fd, ["_law_actual", "_law_due_here"], ?_, hg, F.kp, F.bindsN fun _ _ _ _ _ _ us hl => match us, hl with | [_, _], _ => rfl⟩
  refine F.ok sc_m_law_like_5 (fun vs H Q E h => h.1) (fun cdv A outer s H vs Q E hr h => body_ok (m := (mSeq m_law_like_5_s0 (mSeq m_law_like_5_s2 (mSeq m_law_like_5_s4 (mSeq m_law_like_5_s6 (mSeq m_law_like_5_s8 (mSeq m_law_like_5_s13 m_law_like_5_s16))))))) (by decide) ?_ h)
  exact (sss_cons (ss_if (st_cmp opM_is pu_is (nomark _) (sv 1) se_non) (sss_one (ss_ret (se_cmp opM_is pu_is (nomark _) (sv 0) se_non))) sss_nil) (sss_cons (ss_if (st_val (se_isi rfl g.b_isinstance rfl g.b_bool bt_bool (sv 1))) (sss_one (ss_ret (se_and (se_isi rfl g.b_isinstance rfl g.b_bool bt_bool (sv 0)) (se_one (se_cmp (opM_eq (Room.u64 hr)) pu_eq (nomark _) (sv 0) (sv 1)))))) sss_nil) (sss_cons (ss_if (st_val (se_isi rfl g.b_isinstance rfl g.b_int bt_int (sv 1))) (sss_one (ss_ret (se_and (se_isi rfl g.b_isinstance rfl g.b_int bt_int (sv 0)) (se_and (se_not (se_isi rfl g.b_isinstance rfl g.b_bool bt_bool (sv 0))) (se_one (se_cmp (opM_eq (Room.u64 hr)) pu_eq (nomark _) (sv 0) (sv 1))))))) sss_nil) (sss_cons (ss_if (st_val (se_isi rfl g.b_isinstance rfl g.b_str bt_str (sv 1))) (sss_one (ss_ret (se_and (se_isi rfl g.b_isinstance rfl g.b_str bt_str (sv 0)) (se_one (se_cmp (opM_eq (Room.u64 hr)) pu_eq (nomark _) (sv 0) (sv 1)))))) sss_nil) (sss_cons (ss_if (st_val (se_isi rfl g.b_isinstance rfl g.b_tuple bt_tuple (sv 1))) (sss_one (ss_if (st_w (sw_or (st_not (st_val (se_isi rfl g.b_isinstance rfl g.b_tuple bt_tuple (sv 0)))) (sw_or1 (st_cmp (opM_ne (Room.u64 hr)) pu_ne (nomark _) (se_callB crM_len pu_len rfl g.b_len bt_len (sa_cons (sv 0) sa_nil)) (se_callB crM_len pu_len rfl g.b_len bt_len (sa_cons (sv 1) sa_nil)))))) (sss_one (ss_ret se_bl)) sss_nil)) (sss_one (ss_if (st_w (sw_or (st_not (st_val (se_isi rfl g.b_isinstance rfl g.b_list bt_list (sv 0)))) (sw_or1 (st_cmp (opM_ne (Room.u64 hr)) pu_ne (nomark _) (se_callB crM_len pu_len rfl g.b_len bt_len (sa_cons (sv 0) sa_nil)) (se_callB crM_len pu_len rfl g.b_len bt_len (sa_cons (sv 1) sa_nil)))))) (sss_one (ss_ret se_bl)) sss_nil))) (sss_cons (ss_for pass_cx rfl (si_rng rfl g.b_range (sa_cons (se_callB crM_len pu_len rfl g.b_len bt_len (sa_cons (sv 1) sa_nil)) sa_nil)) (sn 2 sc_m_law_like_5.nd) (sss_one (ss_if (st_not (st_val (se_callN h_law_like_4 hr (by decide) rfl takes_cx (sa_cons (se_ix (Room.u1 hr) (fun _ _ => rfl) (sv 0) (sv 2) pu_ix) (sa_cons (se_ix (Room.u1 hr) (fun _ _ => rfl) (sv 1) (sv 2) pu_ix) sa_nil)) (lenCons (lenCons lenNil))))) (sss_one (ss_ret se_bl)) sss_nil))) (sss_one (ss_ret se_bl))))))))
def m_law_like_6_s1 : MS := (mRet (mOp isM (mVar 0) (mC .non)))
def m_law_like_6_s0 : MS := (mIfS (mTest (mOp isM (mVar 1) (mC .non))) m_law_like_6_s1 mNext)
def m_law_like_6_s3 : MS := (mRet (mAndV (mIsi "bool" (mVar 0)) (mOp eqM (mVar 0) (mVar 1))))
def m_law_like_6_s2 : MS := (mIfS (mTest (mIsi "bool" (mVar 1))) m_law_like_6_s3 mNext)
def m_law_like_6_s5 : MS := (mRet (mAndV (mIsi "int" (mVar 0)) (mAndV (mNotV (mIsi "bool" (mVar 0))) (mOp eqM (mVar 0) (mVar 1)))))
def m_law_like_6_s4 : MS := (mIfS (mTest (mIsi "int" (mVar 1))) m_law_like_6_s5 mNext)
def m_law_like_6_s7 : MS := (mRet (mAndV (mIsi "str" (mVar 0)) (mOp eqM (mVar 0) (mVar 1))))
def m_law_like_6_s6 : MS := (mIfS (mTest (mIsi "str" (mVar 1))) m_law_like_6_s7 mNext)
def m_law_like_6_s10 : MS := (mRet (mC (.bl false)))
def m_law_like_6_s9 : MS := (mIfS (mOr (mNot (mTest (mIsi "tuple" (mVar 0)))) (mTest (mOp neM (mCallF lenM (mCons (mVar 0) mNil)) (mCallF lenM (mCons (mVar 1) mNil))))) m_law_like_6_s10 mNext)
def m_law_like_6_s12 : MS := (mRet (mC (.bl false)))
def m_law_like_6_s11 : MS := (mIfS (mOr (mNot (mTest (mIsi "list" (mVar 0)))) (mTest (mOp neM (mCallF lenM (mCons (mVar 0) mNil)) (mCallF lenM (mCons (mVar 1) mNil))))) m_law_like_6_s12 mNext)
def m_law_like_6_s8 : MS := (mIfS (mTest (mIsi "tuple" (mVar 1))) m_law_like_6_s9 m_law_like_6_s11)
def m_law_like_6_s15 : MS := (mRet (mC (.bl false)))
def m_law_like_6_s14 : MS := (mIfS (mNot (mTest (mCallF m_law_like_5 (mCons (mOp idxM (mVar 0) (mVar 2)) (mCons (mOp idxM (mVar 1) (mVar 2)) mNil))))) m_law_like_6_s15 mNext)
def m_law_like_6_s13 : MS := (mFor (mRng (mCons (mCallF lenM (mCons (mVar 1) mNil)) mNil)) (tgName 2) m_law_like_6_s14)
def m_law_like_6_s16 : MS := (mRet (mC (.bl true)))
def m_law_like_6 : MF := mFn 3 ((mSeq m_law_like_6_s0 (mSeq m_law_like_6_s2 (mSeq m_law_like_6_s4 (mSeq m_law_like_6_s6 (mSeq m_law_like_6_s8 (mSeq m_law_like_6_s13 m_law_like_6_s16)))))))
theorem sc_m_law_like_6 : FnScope ["_law_actual", "_law_due_here", "_law_k"] ["_law_actual", "_law_due_here"] (defScope s_law_like_6) := ⟨rfl, rfl, rfl, by decide +kernel, rfl, by decide +kernel, by decide +kernel⟩
theorem ok_law_like_6 {P : Program} {w : PySem.World} {K : PySem.W.Frag} {mg : Str → Option Value} {base : Heap} {f : Addr} {fd : FuncData} (g : Gs K mg) (h_law_like_5 : FN P w K mg base 6 2 "_law_like" m_law_like_5) (F : FunD K "_law_like" "_law_like" (defArgs s_law_like_6) (defBody s_law_like_6) (defScope s_law_like_6) [] [] f fd) (hg : mg "_law_like" = some (.ref f)) : FN P w K mg base 7 2 "_law_like" m_law_like_6 := by
  refine ⟨f, fd, ["_law_actual", "_law_due_here"], ?_, hg, F.kp, F.bindsN fun _ _ _ _ _ _ us hl => match us, hl with | [_, _], _ => rfl⟩
  refine F.ok sc_m_law_like_6 (fun vs H Q E h => h.1) (fun cdv A outer s H vs Q E hr h => body_ok (m := (mSeq m_law_like_6_s0 (mSeq m_law_like_6_s2 (mSeq m_law_like_6_s4 (mSeq m_law_like_6_s6 (mSeq m_law_like_6_s8 (mSeq m_law_like_6_s13 m_law_like_6_s16))))))) (by decide) ?_ h)
  exact (sss_cons (ss_if (st_cmp opM_is pu_is (nomark _) (sv 1) se_non) (sss_one (ss_ret (se_cmp opM_is pu_is (nomark _) (sv 0) se_non))) sss_nil) (sss_cons (ss_if (st_val (se_isi rfl g.b_isinstance rfl g.b_bool bt_bool (sv 1))) (sss_one (ss_ret (se_and (se_isi rfl g.b_isinstance rfl g.b_bool bt_bool (sv 0)) (se_one (se_cmp (opM_eq (Room.u64 hr)) pu_eq (nomark _) (sv 0) (sv 1)))))) sss_nil) (sss_cons (ss_if (st_val (se_isi rfl g.b_isinstance rfl g.b_int bt_int (sv 1))) (sss_one (ss_ret (se_and (se_isi rfl g.b_isinstance rfl g.b_int bt_int (sv 0)) (se_and (se_not (se_isi rfl g.b_isinstance rfl g.b_bool bt_bool (sv 0))) (se_one (se_cmp (opM_eq (Room.u64 hr)) pu_eq (nomark _) (sv 0) (sv 1))))))) sss_nil) (sss_cons (ss_if (st_val (se_isi rfl g.b_isinstance rfl g.b_str bt_str (sv 1))) (sss_one (ss_ret (se_and (se_isi rfl g.b_isinstance rfl g.b_str bt_str (sv 0)) (se_one (se_cmp (opM_eq (Room.u64 hr)) pu_eq (nomark _) (sv 0) (sv 1)))))) sss_nil) (sss_cons (ss_if (st_val (se_isi rfl g.b_isinstance rfl g.b_tuple bt_tuple (sv 1))) (sss_one (ss_if (st_w (sw_or (st_not (st_val (se_isi rfl g.b_isinstance rfl g.b_tuple bt_tuple (sv 0)))) (sw_or1 (st_cmp (opM_ne (Room.u64 hr)) pu_ne (nomark _) (se_callB crM_len pu_len rfl g.b_len bt_len (sa_cons (sv 0) sa_nil)) (se_callB crM_len pu_len rfl g.b_len bt_len (sa_cons (sv 1) sa_nil)))))) (sss_one (ss_ret se_bl)) sss_nil)) (sss_one (ss_if (st_w (sw_or (st_not (st_val (se_isi rfl g.b_isinstance rfl g.b_list bt_list (sv 0)))) (sw_or1 (st_cmp (opM_ne (Room.u64 hr)) pu_ne (nomark _) (se_callB crM_len pu_len rfl g.b_len bt_len (sa_cons (sv 0) sa_nil)) (se_callB crM_len pu_len rfl g.b_len bt_len (sa_cons (sv 1) sa_nil)))))) (sss_one (ss_ret se_bl)) sss_nil))) (sss_cons (ss_for pass_cx rfl (si_rng rfl g.b_range (sa_cons (se_callB crM_len pu_len rfl g.b_len bt_len (sa_cons (sv 1) sa_nil)) sa_nil)) (sn 2 sc_m_law_like_6.nd) (sss_one (ss_if (st_not (st_val (se_callN h_law_like_5 hr (by decide) rfl takes_cx (sa_cons (se_ix (Room.u1 hr) (fun _ _ => rfl) (sv 0) (sv 2) pu_ix) (sa_cons (se_ix (Room.u1 hr) (fun _ _ => rfl) (sv 1) (sv 2) pu_ix) sa_nil)) (lenCons (lenCons lenNil))))) (sss_one (ss_ret se_bl)) sss_nil))) (sss_one (ss_ret se_bl))))))))
def m_law_sets_0 : MF := mFn 7 (mStk)
theorem sc_m_law_sets_0 : FnScope ["_law_parts_here", "_law_first", "_law_size", "_law_found", "_law_k", "_law_value", "_law_row"] ["_law_parts_here", "_law_first", "_law_size"] (defScope s_law_sets_0) := ⟨rfl, rfl, rfl, by decide +kernel, rfl, by decide +kernel, by decide +kernel⟩
theorem ok_law_sets_0 {P : Program} {w : PySem.World} {K : PySem.W.Frag} {mg : Str → Option Value} {base : Heap} {f : Addr} {fd : FuncData} (g : Gs K mg) (F : FunD K "_law_sets" "_law_sets" (defArgs s_law_sets_0) (defBody s_law_sets_0) (defScope s_law_sets_0) [] [] f fd) (hg : mg "_law_sets" = some (.ref f)) : FN P w K mg base 1 3 "_law_sets" m_law_sets_0 := by
  refine ⟨f, fd, ["_law_parts_here", "_law_first", "_law_size"], ?_, hg, F.kp, F.bindsN fun _ _ _ _ _ _ us hl => match us, hl with | [_, _, _], _ => rfl⟩
  refine F.ok sc_m_law_sets_0 (fun vs H Q E h => h.1) (fun cdv A outer s H vs Q E hr h => body_ok (m := mStk) (by decide) ?_ h)
  exact sss_stk
def m_law_names_s0 : MS := (mRet (mLst (mCons (mC (.str "checking")) (mCons (mC (.str "singles")) (mCons (mC (.str "halves")) (mCons (mC (.str "telling")) mNil))))))
def m_law_names : MF := mFn 0 (m_law_names_s0)
theorem sc_m_law_names : FnScope [] [] (defScope s_law_names) := ⟨rfl, rfl, rfl, by decide +kernel, rfl, by decide +kernel, by decide +kernel⟩
theorem ok_law_names {P : Program} {w : PySem.World} {K : PySem.W.Frag} {mg : Str → Option Value} {base : Heap} {f : Addr} {fd : FuncData} (g : Gs K mg) (F : FunD K "_law_names" "_law_names" (defArgs s_law_names) (defBody s_law_names) (defScope s_law_names) [] [] f fd) (hg : mg "_law_names" = some (.ref f)) : FN P w K mg base 1 0 "_law_names" m_law_names := by
  refine ⟨f, fd, [], ?_, hg, F.kp, F.bindsN fun _ _ _ _ _ _ us hl => match us, hl with | [], _ => rfl⟩
  refine F.ok sc_m_law_names (fun vs H Q E h => h.1) (fun cdv A outer s H vs Q E hr h => body_ok (m := m_law_names_s0) (by decide) ?_ h)
  exact (sss_one (ss_ret (se_lst (sa_cons se_str (sa_cons se_str (sa_cons se_str (sa_cons se_str sa_nil)))) (lenCons (lenCons (lenCons (lenCons lenNil)))) (by decide))))
theorem px_law_names : ∀ S c d S', m_law_names [] S ≠ .exc c d S' := by intro S c d S' h; first | (exact absurd h (by intro h; cases h)) | cases h
def m_law_sets_1_s1 : MS := (mRet (mLst (mCons (mLst mNil) mNil)))
def m_law_sets_1_s0 : MS := (mIfS (mTest (mOp eqM (mVar 2) (mC (.int 0)))) m_law_sets_1_s1 mNext)
def m_law_sets_1_s2 : MS := (mAsg (mLst mNil) (tgName 3))
def m_law_sets_1_s6 : MS := (mAsg (mOp addM (mVar 3) (mLc true [6] (mSrc (mCallF m_law_sets_0 (mCons (mVar 0) (mCons (mOp addM (mVar 4) (mC (.int 1))) (mCons (mOp subM (mVar 2) (mC (.int 1))) mNil))))) (tgName 6) mTrue (mOp addM (mLst (mCons (mTup (mCons (mOp idxM (mCallF m_law_names mNil) (mVar 4)) (mCons (mVar 5) mNil))) mNil)) (mVar 6)))) (tgName 3))
def m_law_sets_1_s5 : MS := (mIfS (mTest (mOp neM (mVar 5) (mOp idxM (mVar 0) (mVar 4)))) m_law_sets_1_s6 mNext)
def m_law_sets_1_s4 : MS := (mFor (mSrc (mOp idxM (mCallF m_law_values mNil) (mVar 4))) (tgName 5) m_law_sets_1_s5)
def m_law_sets_1_s3 : MS := (mFor (mRng2 (mCons (mVar 1) (mCons (mC (.int 4)) mNil))) (tgName 4) m_law_sets_1_s4)
def m_law_sets_1_s7 : MS := (mRet (mVar 3))
def m_law_sets_1 : MF := mFn 7 ((mSeq m_law_sets_1_s0 (mSeq m_law_sets_1_s2 (mSeq m_law_sets_1_s3 m_law_sets_1_s7))))
theorem sc_m_law_sets_1 : FnScope ["_law_parts_here", "_law_first", "_law_size", "_law_found", "_law_k", "_law_value", "_law_row"] ["_law_parts_here", "_law_first", "_law_size"] (defScope s_law_sets_1) := ⟨rfl, rfl, rfl, by decide +kernel, rfl, by decide +kernel, by decide +kernel⟩
theorem ok_law_sets_1 {P : Program} {w : PySem.World} {K : PySem.W.Frag} {mg : Str → Option Value} {base : Heap} {f : Addr} {fd : FuncData} (g : Gs K mg) (h_law_values : FN P w K mg base 1 0 "_law_values" m_law_values) (h_law_sets_0 : FN P w K mg base 1 3 "_law_sets" m_law_sets_0) (h_law_names : FN P w K mg base 1 0 "_law_names" m_law_names) (F : FunD K "_law_sets" "_law_sets" (defArgs s_law_sets_1) (defBody s_law_sets_1) (defScope s_law_sets_1) [] [] f fd) (hg : mg "_law_sets" = some (.ref f)) : FN P w K mg base 2 3 "_law_sets" m_law_sets_1 := by
  refine ⟨f, fd, ["_law_parts_here", "_law_first", "_law_size"], ?_, hg, F.kp, F.bindsN fun _ _ _ _ _ _ us hl => match us, hl with | [_, _, _], _ => rfl⟩
  refine F.ok sc_m_law_sets_1 (fun vs H Q E h => h.1) (fun cdv A outer s H vs Q E hr h => body_ok (m := (mSeq m_law_sets_1_s0 (mSeq m_law_sets_1_s2 (mSeq m_law_sets_1_s3 m_law_sets_1_s7)))) (by decide) ?_ h)
  exact (sss_cons (ss_if (st_cmp (opM_eq (Room.u64 hr)) pu_eq (nomark _) (sv 2) se_int) (sss_one (ss_ret (se_lst (sa_cons (se_lst sa_nil lenNil (by decide)) sa_nil) (lenCons lenNil) (by decide)))) sss_nil) (sss_cons (sset 3 sc_m_law_sets_1.nd (se_lst sa_nil lenNil (by decide))) (sss_cons (ss_for pass_cx rfl (si_rng2 rfl g.b_range (sa_cons (sv 1) (sa_cons se_int sa_nil))) (sn 4 sc_m_law_sets_1.nd) (sss_one (ss_for pass_cx rfl (si_seq (se_ix (Room.u1 hr) (fun _ _ => rfl) (se_callN0 h_law_values hr (by decide) rfl px_law_values) (sv 4) pu_ix)) (sn 5 sc_m_law_sets_1.nd) (sss_one (ss_if (st_cmp (opM_ne (Room.u64 hr)) pu_ne (nomark _) (sv 5) (se_ix (Room.u1 hr) (fun _ _ => rfl) (sv 0) (sv 4) pu_ix)) (sss_one (sset 3 sc_m_law_sets_1.nd (se_op opM_add pu_add (sv 3) (se_lc (fr := true) (own := [("_law_row", 6)]) rfl sc_m_law_sets_1.nd (si_seq (se_callN h_law_sets_0 hr (by decide) rfl takes_cx (sa_cons (sv 0) (sa_cons (se_op opM_add pu_add (sv 4) se_int) (sa_cons (se_op opM_sub pu_sub (sv 2) se_int) sa_nil))) (lenCons (lenCons (lenCons lenNil))))) (blkOk_by rfl) (fun _ _ _ _ _ => (sn 6 sc_m_law_sets_1.nd)) (fun _ _ _ _ _ => sts_nil) (fun _ _ _ _ _ => (se_op opM_add pu_add (se_lst (sa_cons (se_tup (sa_cons (se_ix (Room.u1 hr) (fun _ _ => rfl) (se_callN0 h_law_names hr (by decide) rfl px_law_names) (sv 4) pu_ix) (sa_cons (sv 5) sa_nil)) (lenCons (lenCons lenNil)) (by decide)) sa_nil) (lenCons lenNil) (by decide)) (sv 6))) (by decide))))) sss_nil))))) (sss_one (ss_ret (sv 3))))))
def m_law_sets_2_s1 : MS := (mRet (mLst (mCons (mLst mNil) mNil)))
def m_law_sets_2_s0 : MS := (mIfS (mTest (mOp eqM (mVar 2) (mC (.int 0)))) m_law_sets_2_s1 mNext)
def m_law_sets_2_s2 : MS := (mAsg (mLst mNil) (tgName 3))
def m_law_sets_2_s6 : MS := (mAsg (mOp addM (mVar 3) (mLc true [6] (mSrc (mCallF m_law_sets_1 (mCons (mVar 0) (mCons (mOp addM (mVar 4) (mC (.int 1))) (mCons (mOp subM (mVar 2) (mC (.int 1))) mNil))))) (tgName 6) mTrue (mOp addM (mLst (mCons (mTup (mCons (mOp idxM (mCallF m_law_names mNil) (mVar 4)) (mCons (mVar 5) mNil))) mNil)) (mVar 6)))) (tgName 3))
def m_law_sets_2_s5 : MS := (mIfS (mTest (mOp neM (mVar 5) (mOp idxM (mVar 0) (mVar 4)))) m_law_sets_2_s6 mNext)
def m_law_sets_2_s4 : MS := (mFor (mSrc (mOp idxM (mCallF m_law_values mNil) (mVar 4))) (tgName 5) m_law_sets_2_s5)
def m_law_sets_2_s3 : MS := (mFor (mRng2 (mCons (mVar 1) (mCons (mC (.int 4)) mNil))) (tgName 4) m_law_sets_2_s4)
def m_law_sets_2_s7 : MS := (mRet (mVar 3))
def m_law_sets_2 : MF := mFn 7 ((mSeq m_law_sets_2_s0 (mSeq m_law_sets_2_s2 (mSeq m_law_sets_2_s3 m_law_sets_2_s7))))
theorem sc_m_law_sets_2 : FnScope ["_law_parts_here", "_law_first", "_law_size", "_law_found", "_law_k", "_law_value", "_law_row"] ["_law_parts_here", "_law_first", "_law_size"] (defScope s_law_sets_2) := ⟨rfl, rfl, rfl, by decide +kernel, rfl, by decide +kernel, by decide +kernel⟩
theorem ok_law_sets_2 {P : Program} {w : PySem.World} {K : PySem.W.Frag} {mg : Str → Option Value} {base : Heap} {f : Addr} {fd : FuncData} (g : Gs K mg) (h_law_values : FN P w K mg base 1 0 "_law_values" m_law_values) (h_law_sets_1 : FN P w K mg base 2 3 "_law_sets" m_law_sets_1) (h_law_names : FN P w K mg base 1 0 "_law_names" m_law_names) (F : FunD K "_law_sets" "_law_sets" (defArgs s_law_sets_2) (defBody s_law_sets_2) (defScope s_law_sets_2) [] [] f fd) (hg : mg "_law_sets" = some (.ref f)) : FN P w K mg base 3 3 "_law_sets" m_law_sets_2 := by
  refine ⟨f, fd, ["_law_parts_here", "_law_first", "_law_size"], ?_, hg, F.kp, F.bindsN fun _ _ _ _ _ _ us hl => match us, hl with | [_, _, _], _ => rfl⟩
  refine F.ok sc_m_law_sets_2 (fun vs H Q E h => h.1) (fun cdv A outer s H vs Q E hr h => body_ok (m := (mSeq m_law_sets_2_s0 (mSeq m_law_sets_2_s2 (mSeq m_law_sets_2_s3 m_law_sets_2_s7)))) (by decide) ?_ h)
  exact (sss_cons (ss_if (st_cmp (opM_eq (Room.u64 hr)) pu_eq (nomark _) (sv 2) se_int) (sss_one (ss_ret (se_lst (sa_cons (se_lst sa_nil lenNil (by decide)) sa_nil) (lenCons lenNil) (by decide)))) sss_nil) (sss_cons (sset 3 sc_m_law_sets_2.nd (se_lst sa_nil lenNil (by decide))) (sss_cons (ss_for pass_cx rfl (si_rng2 rfl g.b_range (sa_cons (sv 1) (sa_cons se_int sa_nil))) (sn 4 sc_m_law_sets_2.nd) (sss_one (ss_for pass_cx rfl (si_seq (se_ix (Room.u1 hr) (fun _ _ => rfl) (se_callN0 h_law_values hr (by decide) rfl px_law_values) (sv 4) pu_ix)) (sn 5 sc_m_law_sets_2.nd) (sss_one (ss_if (st_cmp (opM_ne (Room.u64 hr)) pu_ne (nomark _) (sv 5) (se_ix (Room.u1 hr) (fun _ _ => rfl) (sv 0) (sv 4) pu_ix)) (sss_one (sset 3 sc_m_law_sets_2.nd (se_op opM_add pu_add (sv 3) (se_lc (fr := true) (own := [("_law_row", 6)]) rfl sc_m_law_sets_2.nd (si_seq (se_callN h_law_sets_1 hr (by decide) rfl takes_cx (sa_cons (sv 0) (sa_cons (se_op opM_add pu_add (sv 4) se_int) (sa_cons (se_op opM_sub pu_sub (sv 2) se_int) sa_nil))) (lenCons (lenCons (lenCons lenNil))))) (blkOk_by rfl) (fun _ _ _ _ _ => (sn 6 sc_m_law_sets_2.nd)) (fun _ _ _ _ _ => sts_nil) (fun _ _ _ _ _ => (se_op opM_add pu_add (se_lst (sa_cons (se_tup (sa_cons (se_ix (Room.u1 hr) (fun _ _ => rfl) (se_callN0 h_law_names hr (by decide) rfl px_law_names) (sv 4) pu_ix) (sa_cons (sv 5) sa_nil)) (lenCons (lenCons lenNil)) (by decide)) sa_nil) (lenCons lenNil) (by decide)) (sv 6))) (by decide))))) sss_nil))))) (sss_one (ss_ret (sv 3))))))
def m_law_sets_3_s1 : MS := (mRet (mLst (mCons (mLst mNil) mNil)))
def m_law_sets_3_s0 : MS := (mIfS (mTest (mOp eqM (mVar 2) (mC (.int 0)))) m_law_sets_3_s1 mNext)
def m_law_sets_3_s2 : MS := (mAsg (mLst mNil) (tgName 3))
def m_law_sets_3_s6 : MS := (mAsg (mOp addM (mVar 3) (mLc true [6] (mSrc (mCallF m_law_sets_2 (mCons (mVar 0) (mCons (mOp addM (mVar 4) (mC (.int 1))) (mCons (mOp subM (mVar 2) (mC (.int 1))) mNil))))) (tgName 6) mTrue (mOp addM (mLst (mCons (mTup (mCons (mOp idxM (mCallF m_law_names mNil) (mVar 4)) (mCons (mVar 5) mNil))) mNil)) (mVar 6)))) (tgName 3))
def m_law_sets_3_s5 : MS := (mIfS (mTest (mOp neM (mVar 5) (mOp idxM (mVar 0) (mVar 4)))) m_law_sets_3_s6 mNext)
def m_law_sets_3_s4 : MS := (mFor (mSrc (mOp idxM (mCallF m_law_values mNil) (mVar 4))) (tgName 5) m_law_sets_3_s5)
def m_law_sets_3_s3 : MS := (mFor (mRng2 (mCons (mVar 1) (mCons (mC (.int 4)) mNil))) (tgName 4) m_law_sets_3_s4)
def m_law_sets_3_s7 : MS := (mRet (mVar 3))
def m_law_sets_3 : MF := mFn 7 ((mSeq m_law_sets_3_s0 (mSeq m_law_sets_3_s2 (mSeq m_law_sets_3_s3 m_law_sets_3_s7))))
theorem sc_m_law_sets_3 : FnScope ["_law_parts_here", "_law_first", "_law_size", "_law_found", "_law_k", "_law_value", "_law_row"] ["_law_parts_here", "_law_first", "_law_size"] (defScope s_law_sets_3) := ⟨rfl, rfl, rfl, by decide +kernel, rfl, by decide +kernel, by decide +kernel⟩
theorem ok_law_sets_3 {P : Program} {w : PySem.World} {K : PySem.W.Frag} {mg : Str → Option Value} {base : Heap} {f : Addr} {fd : FuncData} (g : Gs K mg) (h_law_values : FN P w K mg base 1 0 "_law_values" m_law_values) (h_law_sets_2 : FN P w K mg base 3 3 "_law_sets" m_law_sets_2) (h_law_names : FN P w K mg base 1 0 "_law_names" m_law_names) (F : FunD K "_law_sets" "_law_sets" (defArgs s_law_sets_3) (defBody s_law_sets_3) (defScope s_law_sets_3) [] [] f fd) (hg : mg "_law_sets" = some (.ref f)) : FN P w K mg base 4 3 "_law_sets" m_law_sets_3 := by
  refine ⟨f, fd, ["_law_parts_here", "_law_first", "_law_size"], ?_, hg, F.kp, F.bindsN fun _ _ _ _ _ _ us hl => match us, hl with | [_, _, _], _ => rfl⟩
  refine F.ok sc_m_law_sets_3 (fun vs H Q E h => h.1) (fun cdv A outer s H vs Q E hr h => body_ok (m := (mSeq m_law_sets_3_s0 (mSeq m_law_sets_3_s2 (mSeq m_law_sets_3_s3 m_law_sets_3_s7)))) (by decide) ?_ h)
  exact (sss_cons (ss_if (st_cmp (opM_eq (Room.u64 hr)) pu_eq (nomark _) (sv 2) se_int) (sss_one (ss_ret (se_lst (sa_cons (se_lst sa_nil lenNil (by decide)) sa_nil) (lenCons lenNil) (by decide)))) sss_nil) (sss_cons (sset 3 sc_m_law_sets_3.nd (se_lst sa_nil lenNil (by decide))) (sss_cons (ss_for pass_cx rfl (si_rng2 rfl g.b_range (sa_cons (sv 1) (sa_cons se_int sa_nil))) (sn 4 sc_m_law_sets_3.nd) (sss_one (ss_for pass_cx rfl (si_seq (se_ix (Room.u1 hr) (fun _ _ => rfl) (se_callN0 h_law_values hr (by decide) rfl px_law_values) (sv 4) pu_ix)) (sn 5 sc_m_law_sets_3.nd) (sss_one (ss_if (st_cmp (opM_ne (Room.u64 hr)) pu_ne (nomark _) (sv 5) (se_ix (Room.u1 hr) (fun _ _ => rfl) (sv 0) (sv 4) pu_ix)) (sss_one (sset 3 sc_m_law_sets_3.nd (se_op opM_add pu_add (sv 3) (se_lc (fr := true) (own := [("_law_row", 6)]) rfl sc_m_law_sets_3.nd (si_seq (se_callN h_law_sets_2 hr (by decide) rfl takes_cx (sa_cons (sv 0) (sa_cons (se_op opM_add pu_add (sv 4) se_int) (sa_cons (se_op opM_sub pu_sub (sv 2) se_int) sa_nil))) (lenCons (lenCons (lenCons lenNil))))) (blkOk_by rfl) (fun _ _ _ _ _ => (sn 6 sc_m_law_sets_3.nd)) (fun _ _ _ _ _ => sts_nil) (fun _ _ _ _ _ => (se_op opM_add pu_add (se_lst (sa_cons (se_tup (sa_cons (se_ix (Room.u1 hr) (fun _ _ => rfl) (se_callN0 h_law_names hr (by decide) rfl px_law_names) (sv 4) pu_ix) (sa_cons (sv 5) sa_nil)) (lenCons (lenCons lenNil)) (by decide)) sa_nil) (lenCons lenNil) (by decide)) (sv 6))) (by decide))))) sss_nil))))) (sss_one (ss_ret (sv 3))))))
def m_law_sets_4_s1 : MS := (mRet (mLst (mCons (mLst mNil) mNil)))
def m_law_sets_4_s0 : MS := (mIfS (mTest (mOp eqM (mVar 2) (mC (.int 0)))) m_law_sets_4_s1 mNext)
def m_law_sets_4_s2 : MS := (mAsg (mLst mNil) (tgName 3))
def m_law_sets_4_s6 : MS := (mAsg (mOp addM (mVar 3) (mLc true [6] (mSrc (mCallF m_law_sets_3 (mCons (mVar 0) (mCons (mOp addM (mVar 4) (mC (.int 1))) (mCons (mOp subM (mVar 2) (mC (.int 1))) mNil))))) (tgName 6) mTrue (mOp addM (mLst (mCons (mTup (mCons (mOp idxM (mCallF m_law_names mNil) (mVar 4)) (mCons (mVar 5) mNil))) mNil)) (mVar 6)))) (tgName 3))
def m_law_sets_4_s5 : MS := (mIfS (mTest (mOp neM (mVar 5) (mOp idxM (mVar 0) (mVar 4)))) m_law_sets_4_s6 mNext)
def m_law_sets_4_s4 : MS := (mFor (mSrc (mOp idxM (mCallF m_law_values mNil) (mVar 4))) (tgName 5) m_law_sets_4_s5)
def m_law_sets_4_s3 : MS := (mFor (mRng2 (mCons (mVar 1) (mCons (mC (.int 4)) mNil))) (tgName 4) m_law_sets_4_s4)
def m_law_sets_4_s7 : MS := (mRet (mVar 3))
def m_law_sets_4 : MF := mFn 7 ((mSeq m_law_sets_4_s0 (mSeq m_law_sets_4_s2 (mSeq m_law_sets_4_s3 m_law_sets_4_s7))))
theorem sc_m_law_sets_4 : FnScope ["_law_parts_here", "_law_first", "_law_size", "_law_found", "_law_k", "_law_value", "_law_row"] ["_law_parts_here", "_law_first", "_law_size"] (defScope s_law_sets_4) := ⟨rfl, rfl, rfl, by decide +kernel, rfl, by decide +kernel, by decide +kernel⟩
theorem ok_law_sets_4 {P : Program} {w : PySem.World} {K : PySem.W.Frag} {mg : Str → Option Value} {base : Heap} {f : Addr} {fd : FuncData} (g : Gs K mg) (h_law_values : FN P w K mg base 1 0 "_law_values" m_law_values) (h_law_sets_3 : FN P w K mg base 4 3 "_law_sets" m_law_sets_3) (h_law_names : FN P w K mg base 1 0 "_law_names" m_law_names) (F : FunD K "_law_sets" "_law_sets" (defArgs s_law_sets_4) (defBody s_law_sets_4) (defScope s_law_sets_4) [] [] f fd) (hg : mg "_law_sets" = some (.ref f)) : FN P w K mg base 5 3 "_law_sets" m_law_sets_4 := by
  refine ⟨f, fd, ["_law_parts_here", "_law_first", "_law_size"], ?_, hg, F.kp, F.bindsN fun _ _ _ _ _ _ us hl => match us, hl with | [_, _, _], _ => rfl⟩
  refine F.ok sc_m_law_sets_4 (fun vs H Q E h => h.1) (fun cdv A outer s H vs Q E hr h => body_ok (m := (mSeq m_law_sets_4_s0 (mSeq m_law_sets_4_s2 (mSeq m_law_sets_4_s3 m_law_sets_4_s7)))) (by decide) ?_ h)
  exact (sss_cons (ss_if (st_cmp (opM_eq (Room.u64 hr)) pu_eq (nomark _) (sv 2) se_int) (sss_one (ss_ret (se_lst (sa_cons (se_lst sa_nil lenNil (by decide)) sa_nil) (lenCons lenNil) (by decide)))) sss_nil) (sss_cons (sset 3 sc_m_law_sets_4.nd (se_lst sa_nil lenNil (by decide))) (sss_cons (ss_for pass_cx rfl (si_rng2 rfl g.b_range (sa_cons (sv 1) (sa_cons se_int sa_nil))) (sn 4 sc_m_law_sets_4.nd) (sss_one (ss_for pass_cx rfl (si_seq (se_ix (Room.u1 hr) (fun _ _ => rfl) (se_callN0 h_law_values hr (by decide) rfl px_law_values) (sv 4) pu_ix)) (sn 5 sc_m_law_sets_4.nd) (sss_one (ss_if (st_cmp (opM_ne (Room.u64 hr)) pu_ne (nomark _) (sv 5) (se_ix (Room.u1 hr) (fun _ _ => rfl) (sv 0) (sv 4) pu_ix)) (sss_one (sset 3 sc_m_law_sets_4.nd (se_op opM_add pu_add (sv 3) (se_lc (fr := true) (own := [("_law_row", 6)]) rfl sc_m_law_sets_4.nd (si_seq (se_callN h_law_sets_3 hr (by decide) rfl takes_cx (sa_cons (sv 0) (sa_cons (se_op opM_add pu_add (sv 4) se_int) (sa_cons (se_op opM_sub pu_sub (sv 2) se_int) sa_nil))) (lenCons (lenCons (lenCons lenNil))))) (blkOk_by rfl) (fun _ _ _ _ _ => (sn 6 sc_m_law_sets_4.nd)) (fun _ _ _ _ _ => sts_nil) (fun _ _ _ _ _ => (se_op opM_add pu_add (se_lst (sa_cons (se_tup (sa_cons (se_ix (Room.u1 hr) (fun _ _ => rfl) (se_callN0 h_law_names hr (by decide) rfl px_law_names) (sv 4) pu_ix) (sa_cons (sv 5) sa_nil)) (lenCons (lenCons lenNil)) (by decide)) sa_nil) (lenCons lenNil) (by decide)) (sv 6))) (by decide))))) sss_nil))))) (sss_one (ss_ret (sv 3))))))
def m_law_sets_5_s1 : MS := (mRet (mLst (mCons (mLst mNil) mNil)))
def m_law_sets_5_s0 : MS := (mIfS (mTest (mOp eqM (mVar 2) (mC (.int 0)))) m_law_sets_5_s1 mNext)
def m_law_sets_5_s2 : MS := (mAsg (mLst mNil) (tgName 3))
def m_law_sets_5_s6 : MS := (mAsg (mOp addM (mVar 3) (mLc true [6] (mSrc (mCallF m_law_sets_4 (mCons (mVar 0) (mCons (mOp addM (mVar 4) (mC (.int 1))) (mCons (mOp subM (mVar 2) (mC (.int 1))) mNil))))) (tgName 6) mTrue (mOp addM (mLst (mCons (mTup (mCons (mOp idxM (mCallF m_law_names mNil) (mVar 4)) (mCons (mVar 5) mNil))) mNil)) (mVar 6)))) (tgName 3))
def m_law_sets_5_s5 : MS := (mIfS (mTest (mOp neM (mVar 5) (mOp idxM (mVar 0) (mVar 4)))) m_law_sets_5_s6 mNext)
def m_law_sets_5_s4 : MS := (mFor (mSrc (mOp idxM (mCallF m_law_values mNil) (mVar 4))) (tgName 5) m_law_sets_5_s5)
def m_law_sets_5_s3 : MS := (mFor (mRng2 (mCons (mVar 1) (mCons (mC (.int 4)) mNil))) (tgName 4) m_law_sets_5_s4)
def m_law_sets_5_s7 : MS := (mRet (mVar 3))
def m_law_sets_5 : MF := mFn 7 ((mSeq m_law_sets_5_s0 (mSeq m_law_sets_5_s2 (mSeq m_law_sets_5_s3 m_law_sets_5_s7))))
theorem sc_m_law_sets_5 : FnScope ["_law_parts_here", "_law_first", "_law_size", "_law_found", "_law_k", "_law_value", "_law_row"] ["_law_parts_here", "_law_first", "_law_size"] (defScope s_law_sets_5) := ⟨rfl, rfl, rfl, by decide +kernel, rfl, by decide +kernel, by decide +kernel⟩
theorem ok_law_sets_5 {P : Program} {w : PySem.World} {K : PySem.W.Frag} {mg : Str → Option Value} {base : Heap} {f : Addr} {fd : FuncData} (g : Gs K mg) (h_law_values : FN P w K mg base 1 0 "_law_values" m_law_values) (h_law_sets_4 : FN P w K mg base 5 3 "_law_sets" m_law_sets_4) (h_law_names : FN P w K mg base 1 0 "_law_names" m_law_names) (F : FunD K "_law_sets" "_law_sets" (defArgs s_law_sets_5) (defBody s_law_sets_5) (defScope s_law_sets_5) [] [] f fd) (hg : mg "_law_sets" = some (.ref f)) : FN P w K mg base 6 3 "_law_sets" m_law_sets_5 := by
  refine ⟨f, fd, ["_law_parts_here", "_law_first", "_law_size"], ?_, hg, F.kp, F.bindsN fun _ _ _ _ _ _ us hl => match us, hl with | [_, _, _], _ => rfl⟩
  refine F.ok sc_m_law_sets_5 (fun vs H Q E h => h.1) (fun cdv A outer s H vs Q E hr h => body_ok (m := (mSeq m_law_sets_5_s0 (mSeq m_law_sets_5_s2 (mSeq m_law_sets_5_s3 m_law_sets_5_s7)))) (by decide) ?_ h)
  exact (sss_cons (ss_if (st_cmp (opM_eq (Room.u64 hr)) pu_eq (nomark _) (sv 2) se_int) (sss_one (ss_ret (se_lst (sa_cons (se_lst sa_nil lenNil (by decide)) sa_nil) (lenCons lenNil) (by decide)))) sss_nil) (sss_cons (sset 3 sc_m_law_sets_5.nd (se_lst sa_nil lenNil (by decide))) (sss_cons (ss_for pass_cx rfl (si_rng2 rfl g.b_range (sa_cons (sv 1) (sa_cons se_int sa_nil))) (sn 4 sc_m_law_sets_5.nd) (sss_one (ss_for pass_cx rfl (si_seq (se_ix (Room.u1 hr) (fun _ _ => rfl) (se_callN0 h_law_values hr (by decide) rfl px_law_values) (sv 4) pu_ix)) (sn 5 sc_m_law_sets_5.nd) (sss_one (ss_if (st_cmp (opM_ne (Room.u64 hr)) pu_ne (nomark _) (sv 5) (se_ix (Room.u1 hr) (fun _ _ => rfl) (sv 0) (sv 4) pu_ix)) (sss_one (sset 3 sc_m_law_sets_5.nd (se_op opM_add pu_add (sv 3) (se_lc (fr := true) (own := [("_law_row", 6)]) rfl sc_m_law_sets_5.nd (si_seq (se_callN h_law_sets_4 hr (by decide) rfl takes_cx (sa_cons (sv 0) (sa_cons (se_op opM_add pu_add (sv 4) se_int) (sa_cons (se_op opM_sub pu_sub (sv 2) se_int) sa_nil))) (lenCons (lenCons (lenCons lenNil))))) (blkOk_by rfl) (fun _ _ _ _ _ => (sn 6 sc_m_law_sets_5.nd)) (fun _ _ _ _ _ => sts_nil) (fun _ _ _ _ _ => (se_op opM_add pu_add (se_lst (sa_cons (se_tup (sa_cons (se_ix (Room.u1 hr) (fun _ _ => rfl) (se_callN0 h_law_names hr (by decide) rfl px_law_names) (sv 4) pu_ix) (sa_cons (sv 5) sa_nil)) (lenCons (lenCons lenNil)) (by decide)) sa_nil) (lenCons lenNil) (by decide)) (sv 6))) (by decide))))) sss_nil))))) (sss_one (ss_ret (sv 3))))))
def m_law_set_s0 : MS := (mAsg (mCallF (lstM false) (mCons (mVar 0) mNil)) (tgName 2))
def m_law_set_s2 : MS := (mSub (mOp idxM (mVar 3) (mC (.int 1))) (mVar 2) (mBM kLst idxOfM (mCallF m_law_names mNil) (mCons (mOp idxM (mVar 3) (mC (.int 0))) mNil)))
def m_law_set_s1 : MS := (mFor (mSrc (mVar 1)) (tgName 3) m_law_set_s2)
def m_law_set_s3 : MS := (mRet (mVar 2))
def m_law_set : MF := frzF (mFn 4 ((mSeq m_law_set_s0 (mSeq m_law_set_s1 m_law_set_s3))))
theorem sc_m_law_set : FnScope ["_law_parts_here", "_law_row", "_law_found", "_law_pair"] ["_law_parts_here", "_law_row"] (defScope s_law_set) := ⟨rfl, rfl, rfl, by decide +kernel, rfl, by decide +kernel, by decide +kernel⟩
theorem ok_law_set {P : Program} {w : PySem.World} {K : PySem.W.Frag} {mg : Str → Option Value} {base : Heap} {f : Addr} {fd : FuncData} (g : Gs K mg) (h_law_names : FN P w K mg base 1 0 "_law_names" m_law_names) (F : FunD K "_law_set" "_law_set" (defArgs s_law_set) (defBody s_law_set) (defScope s_law_set) [] [] f fd) (hg : mg "_law_set" = some (.ref f)) : FN P w K mg base 2 2 "_law_set" m_law_set := by
  refine ⟨f, fd, ["_law_parts_here", "_law_row"], ?_, hg, F.kp, F.bindsN fun _ _ _ _ _ _ us hl => match us, hl with | [_, _], _ => rfl⟩
  refine frz_ok (m := mFn _ _) (F.ok sc_m_law_set (fun vs H Q E h => h.1) (fun cdv A outer s H vs Q E hr h => body_ok (m := (mSeq m_law_set_s0 (mSeq m_law_set_s1 m_law_set_s3))) (by decide) ?_ h))
  exact (sss_cons (sset 2 sc_m_law_set.nd (se_callTy (crM_list false) pu_list rfl g.b_list bt_list (sa_cons (sv 0) sa_nil))) (sss_cons (ss_for pass_cx rfl (si_seq (sv 1)) (sn 3 sc_m_law_set.nd) (sss_one (ss_sub (Room.u1 hr) (se_ix (Room.u1 hr) (fun _ _ => rfl) (sv 3) se_int pu_ix) (sv 2) (se_bx PySem.F.plainAttrs_list PySem.F.slot_list_index PySem.F.type_list_index mt_idxOf pu_idxOf kd_lst (se_callN0 h_law_names hr (by decide) rfl px_law_names) (sa_cons (se_ix (Room.u1 hr) (fun _ _ => rfl) (sv 3) se_int pu_ix) sa_nil) ⟨rfl, rfl, rfl⟩)))) (sss_one (ss_ret (sv 2)))))
def m_law_due_s1 : MS := (mAsg (mCell mNil) (tgName 4))
def m_law_due_s3 : MS := (mAsg (mOp idxM (mCallF m_law_walk (mCons (mCallF m_law_set (mCons (mVar 0) (mCons (mVar 5) mNil))) (mCons (mVar 1) (mCons (mLst mNil) mNil)))) (mC (.int 1))) (tgName 6))
def m_law_due_s5 : MS := (mDrop (mApp (mVar 4) (mCallF tupM (mCons (mVar 5) mNil))))
def m_law_due_s4 : MS := (mIfS (mTest (mOp eqM (mCallF lenM (mCons (mLc true [7] (mSrc (mVar 2)) (tgName 7) (mTest (mOp inM (mVar 7) (mVar 6))) (mVar 7)) mNil)) (mC (.int 0)))) m_law_due_s5 mNext)
def m_law_due_s2 : MS := (mFor (mSrc (mCallF m_law_sets_5 (mCons (mVar 0) (mCons (mC (.int 0)) (mCons (mVar 3) mNil))))) (tgName 5) (mSeq m_law_due_s3 m_law_due_s4))
def m_law_due_s7 : MS := (mRet (mVar 4))
def m_law_due_s6 : MS := (mIfS (mTest (mOp gtM (mCallF lenM (mCons (mVar 4) mNil)) (mC (.int 0)))) m_law_due_s7 mNext)
def m_law_due_s0 : MS := (mFor (mRng (mCons (mC (.int 5)) mNil)) (tgName 3) (mSeq m_law_due_s1 (mSeq m_law_due_s2 m_law_due_s6)))
def m_law_due_s8 : MS := (mRet (mLst mNil))
def m_law_due : MF := frzF (mFn 8 ((mSeq m_law_due_s0 m_law_due_s8)))
theorem sc_m_law_due : FnScope ["_law_parts_here", "_law_world_here", "_law_names_here", "_law_size", "_law_found", "_law_row", "_law_there", "_law_name"] ["_law_parts_here", "_law_world_here", "_law_names_here"] (defScope s_law_due) := ⟨rfl, rfl, rfl, by decide +kernel, rfl, by decide +kernel, by decide +kernel⟩
theorem ok_law_due {P : Program} {w : PySem.World} {K : PySem.W.Frag} {mg : Str → Option Value} {base : Heap} {f : Addr} {fd : FuncData} (g : Gs K mg) (h_law_sets_5 : FN P w K mg base 6 3 "_law_sets" m_law_sets_5) (h_law_walk : FN P w K mg base 5 3 "_law_walk" m_law_walk) (h_law_set : FN P w K mg base 2 2 "_law_set" m_law_set) (F : FunD K "_law_due" "_law_due" (defArgs s_law_due) (defBody s_law_due) (defScope s_law_due) [] [] f fd) (hg : mg "_law_due" = some (.ref f)) : FN P w K mg base 7 3 "_law_due" m_law_due := by
  refine ⟨f, fd, ["_law_parts_here", "_law_world_here", "_law_names_here"], ?_, hg, F.kp, F.bindsN fun _ _ _ _ _ _ us hl => match us, hl with | [_, _, _], _ => rfl⟩
  refine frz_ok (m := mFn _ _) (F.ok sc_m_law_due (fun vs H Q E h => h.1) (fun cdv A outer s H vs Q E hr h => body_ok (m := (mSeq m_law_due_s0 m_law_due_s8)) (by decide) ?_ h))
  exact (sss_cons (ss_for pass_cx rfl (si_rng rfl g.b_range (sa_cons se_int sa_nil)) (sn 3 sc_m_law_due.nd) (sss_cons (sset 4 sc_m_law_due.nd (se_cell sa_nil lenNil (by decide))) (sss_cons (ss_for pass_cx rfl (si_seq (se_callN h_law_sets_5 hr (by decide) rfl takes_cx (sa_cons (sv 0) (sa_cons se_int (sa_cons (sv 3) sa_nil))) (lenCons (lenCons (lenCons lenNil))))) (sn 5 sc_m_law_due.nd) (sss_cons (sset 6 sc_m_law_due.nd (se_ix (Room.u1 hr) (fun _ _ => rfl) (se_callN h_law_walk hr (by decide) rfl takes_cx (sa_cons (se_callN h_law_set hr (by decide) rfl takes_cx (sa_cons (sv 0) (sa_cons (sv 5) sa_nil)) (lenCons (lenCons lenNil))) (sa_cons (sv 1) (sa_cons (se_lst sa_nil lenNil (by decide)) sa_nil))) (lenCons (lenCons (lenCons lenNil)))) se_int pu_ix)) (sss_one (ss_if (st_cmp (opM_eq (Room.u64 hr)) pu_eq (nomark _) (se_callB crM_len pu_len rfl g.b_len bt_len (sa_cons (se_lc (fr := true) (own := [("_law_name", 7)]) rfl sc_m_law_due.nd (si_seq (sv 2)) (blkOk_by rfl) (fun _ _ _ _ _ => (sn 7 sc_m_law_due.nd)) (fun _ _ _ _ _ => (sts_one (st_cmp (opM_in (Room.u65 hr)) pu_in (by with_unfolding_all rfl) (sv 7) (sv 6)))) (fun _ _ _ _ _ => (sv 7)) (by decide)) sa_nil)) se_int) (sss_one (ss_expr (se_app (sv 4) (se_callTy crM_tuple pu_tuple rfl g.b_tuple bt_tuple (sa_cons (sv 5) sa_nil))))) sss_nil)))) (sss_one (ss_if (st_cmp (opM_int op_gt) pu_cmpI (nomark _) (se_callB crM_len pu_len rfl g.b_len bt_len (sa_cons (sv 4) sa_nil)) se_int) (sss_one (ss_ret (sv 4))) sss_nil))))) (sss_one (ss_ret (se_lst sa_nil lenNil (by decide)))))
def m_is_whole_s0 : MS := (mRet (mAndV (mIsi "int" (mVar 0)) (mAndV (mNotV (mIsi "bool" (mVar 0))) (mChain leM leM (mVar 1) (mVar 0) (mVar 2)))))
def m_is_whole : MF := mFn 3 (m_is_whole_s0)
theorem sc_m_is_whole : FnScope ["thing", "least", "most"] ["thing", "least", "most"] (defScope s_is_whole) := ⟨rfl, rfl, rfl, by decide +kernel, rfl, by decide +kernel, by decide +kernel⟩
theorem ok_is_whole {P : Program} {w : PySem.World} {K : PySem.W.Frag} {mg : Str → Option Value} {base : Heap} {f : Addr} {fd : FuncData} (g : Gs K mg) (F : FunD K "is_whole" "is_whole" (defArgs s_is_whole) (defBody s_is_whole) (defScope s_is_whole) [] [] f fd) (hg : mg "is_whole" = some (.ref f)) : FN P w K mg base 1 3 "is_whole" m_is_whole := by
  refine ⟨f, fd, ["thing", "least", "most"], ?_, hg, F.kp, F.bindsN fun _ _ _ _ _ _ us hl => match us, hl with | [_, _, _], _ => rfl⟩
  refine F.ok sc_m_is_whole (fun vs H Q E h => h.1) (fun cdv A outer s H vs Q E hr h => body_ok (m := m_is_whole_s0) (by decide) ?_ h)
  exact (sss_one (ss_ret (se_and (se_isi rfl g.b_isinstance rfl g.b_int bt_int (sv 0)) (se_and (se_not (se_isi rfl g.b_isinstance rfl g.b_bool bt_bool (sv 0))) (se_one (se_chain (opM_int op_le) pu_cmpI (opM_int op_le) pu_cmpI (sv 1) (sv 0) (sv 2)))))))
def m_are_series_s1 : MS := (mRet (mC (.bl false)))
def m_are_series_s0 : MS := (mIfS (mOr (mNot (mTest (mIsi "tuple" (mVar 0)))) (mNot (mTest (mChain leM leM (mC (.int 1)) (mCallF lenM (mCons (mVar 0) mNil)) (mC (.int 3)))))) m_are_series_s1 mNext)
def m_are_series_s4 : MS := (mRet (mC (.bl false)))
def m_are_series_s3 : MS := (mIfS (mOr (mNot (mTest (mIsi "tuple" (mVar 2)))) (mTest (mOp neM (mCallF lenM (mCons (mVar 2) mNil)) (mC (.int 2))))) m_are_series_s4 mNext)
def m_are_series_s6 : MS := (mRet (mC (.bl false)))
def m_are_series_s5 : MS := (mIfS (mOr (mNot (mTest (mCallF m_is_whole (mCons (mOp idxM (mVar 2) (mC (.int 0))) (mCons (mC (.int 0)) (mCons (mC (.int 2)) mNil)))))) (mNot (mTest (mCallF m_is_whole (mCons (mOp idxM (mVar 2) (mC (.int 1))) (mCons (mC (.int 0)) (mCons (mOp subM (mVar 1) (mC (.int 1))) mNil))))))) m_are_series_s6 mNext)
def m_are_series_s2 : MS := (mFor (mSrc (mVar 0)) (tgName 2) (mSeq m_are_series_s3 m_are_series_s5))
def m_are_series_s7 : MS := (mRet (mOp eqM (mCallF lenM (mCons (mDc true [2] (mSrc (mVar 0)) (tgName 2) mTrue (mOp idxM (mVar 2) (mC (.int 1))) (mC (.bl true))) mNil)) (mCallF lenM (mCons (mVar 0) mNil))))
def m_are_series : MF := mFn 3 ((mSeq m_are_series_s0 (mSeq m_are_series_s2 m_are_series_s7)))
theorem sc_m_are_series : FnScope ["thing", "hours", "row"] ["thing", "hours"] (defScope s_are_series) := ⟨rfl, rfl, rfl, by decide +kernel, rfl, by decide +kernel, by decide +kernel⟩
theorem ok_are_series {P : Program} {w : PySem.World} {K : PySem.W.Frag} {mg : Str → Option Value} {base : Heap} {f : Addr} {fd : FuncData} (g : Gs K mg) (h_is_whole : FN P w K mg base 1 3 "is_whole" m_is_whole) (F : FunD K "are_series" "are_series" (defArgs s_are_series) (defBody s_are_series) (defScope s_are_series) [] [] f fd) (hg : mg "are_series" = some (.ref f)) : FN P w K mg base 2 2 "are_series" m_are_series := by
  refine ⟨f, fd, ["thing", "hours"], ?_, hg, F.kp, F.bindsN fun _ _ _ _ _ _ us hl => match us, hl with | [_, _], _ => rfl⟩
  refine F.ok sc_m_are_series (fun vs H Q E h => h.1) (fun cdv A outer s H vs Q E hr h => body_ok (m := (mSeq m_are_series_s0 (mSeq m_are_series_s2 m_are_series_s7))) (by decide) ?_ h)
  exact (sss_cons (ss_if (st_w (sw_or (st_not (st_val (se_isi rfl g.b_isinstance rfl g.b_tuple bt_tuple (sv 0)))) (sw_or1 (st_not (st_chain (opM_int op_le) pu_cmpI (opM_int op_le) pu_cmpI se_int (se_callB crM_len pu_len rfl g.b_len bt_len (sa_cons (sv 0) sa_nil)) se_int))))) (sss_one (ss_ret se_bl)) sss_nil) (sss_cons (ss_for pass_cx rfl (si_seq (sv 0)) (sn 2 sc_m_are_series.nd) (sss_cons (ss_if (st_w (sw_or (st_not (st_val (se_isi rfl g.b_isinstance rfl g.b_tuple bt_tuple (sv 2)))) (sw_or1 (st_cmp (opM_ne (Room.u64 hr)) pu_ne (nomark _) (se_callB crM_len pu_len rfl g.b_len bt_len (sa_cons (sv 2) sa_nil)) se_int)))) (sss_one (ss_ret se_bl)) sss_nil) (sss_one (ss_if (st_w (sw_or (st_not (st_val (se_callN h_is_whole hr (by decide) rfl takes_cx (sa_cons (se_ix (Room.u1 hr) (fun _ _ => rfl) (sv 2) se_int pu_ix) (sa_cons se_int (sa_cons se_int sa_nil))) (lenCons (lenCons (lenCons lenNil)))))) (sw_or1 (st_not (st_val (se_callN h_is_whole hr (by decide) rfl takes_cx (sa_cons (se_ix (Room.u1 hr) (fun _ _ => rfl) (sv 2) se_int pu_ix) (sa_cons se_int (sa_cons (se_op opM_sub pu_sub (sv 1) se_int) sa_nil))) (lenCons (lenCons (lenCons lenNil))))))))) (sss_one (ss_ret se_bl)) sss_nil)))) (sss_one (ss_ret (se_cmp (opM_eq (Room.u64 hr)) pu_eq (nomark _) (se_callB crM_len pu_len rfl g.b_len bt_len (sa_cons (se_dc (fr := true) (own := [("row", 2)]) rfl sc_m_are_series.nd (si_seq (sv 0)) (blkOk_by rfl) (fun _ _ _ _ _ => (sn 2 sc_m_are_series.nd)) (fun _ _ _ _ _ => sts_nil) (fun _ _ _ _ _ => (se_ix (Room.u1 hr) (fun _ _ => rfl) (sv 2) se_int pu_ix)) (fun _ _ _ _ _ => se_bl) (by decide)) sa_nil)) (se_callB crM_len pu_len rfl g.b_len bt_len (sa_cons (sv 0) sa_nil)))))))
def m_is_step_s1 : MS := (mRet (mC (.bl false)))
def m_is_step_s0 : MS := (mIfS (mOr (mNot (mTest (mIsi "tuple" (mVar 0)))) (mOr (mNot (mTruth (mVar 0))) (mNot (mTest (mIsi "str" (mOp idxM (mVar 0) (mC (.int 0)))))))) m_is_step_s1 mNext)
def m_is_step_s3 : MS := (mRet (mAndV (mOp eqM (mCallF lenM (mCons (mVar 0) mNil)) (mC (.int 2))) (mCallF m_is_whole (mCons (mOp idxM (mVar 0) (mC (.int 1))) (mCons (mC (.int 0)) (mCons (mOp subM (mVar 2) (mC (.int 1))) mNil))))))
def m_is_step_s2 : MS := (mIfS (mTest (mOp inM (mOp idxM (mVar 0) (mC (.int 0))) (mTup (mCons (mC (.str "find")) (mCons (mC (.str "room")) mNil))))) m_is_step_s3 mNext)
def m_is_step_s5 : MS := (mRet (mOp eqM (mCallF lenM (mCons (mVar 0) mNil)) (mC (.int 1))))
def m_is_step_s4 : MS := (mIfS (mTest (mOp inM (mOp idxM (mVar 0) (mC (.int 0))) (mTup (mCons (mC (.str "person")) (mCons (mC (.str "tell")) mNil))))) m_is_step_s5 mNext)
def m_is_step_s7 : MS := (mRet (mAndV (mOp eqM (mCallF lenM (mCons (mVar 0) mNil)) (mC (.int 2))) (mCallF m_is_whole (mCons (mOp idxM (mVar 0) (mC (.int 1))) (mCons (mC (.int 0)) (mCons (mOp subM (mVar 1) (mC (.int 1))) mNil))))))
def m_is_step_s6 : MS := (mIfS (mTest (mOp eqM (mOp idxM (mVar 0) (mC (.int 0))) (mC (.str "off")))) m_is_step_s7 mNext)
def m_is_step_s9 : MS := (mRet (mC (.bl false)))
def m_is_step_s8 : MS := (mIfS (mOr (mTest (mOp neM (mOp idxM (mVar 0) (mC (.int 0))) (mC (.str "one")))) (mTest (mOp neM (mCallF lenM (mCons (mVar 0) mNil)) (mC (.int 3))))) m_is_step_s9 mNext)
def m_is_step_s10 : MS := (mRet (mAndV (mCallF m_is_whole (mCons (mOp idxM (mVar 0) (mC (.int 1))) (mCons (mC (.int 0)) (mCons (mOp subM (mVar 1) (mC (.int 1))) mNil)))) (mCallF m_is_whole (mCons (mOp idxM (mVar 0) (mC (.int 2))) (mCons (mC (.int 0)) (mCons (mOp subM (mVar 2) (mC (.int 1))) mNil))))))
def m_is_step : MF := mFn 3 ((mSeq m_is_step_s0 (mSeq m_is_step_s2 (mSeq m_is_step_s4 (mSeq m_is_step_s6 (mSeq m_is_step_s8 m_is_step_s10))))))
theorem sc_m_is_step : FnScope ["thing", "days", "hours"] ["thing", "days", "hours"] (defScope s_is_step) := ⟨rfl, rfl, rfl, by decide +kernel, rfl, by decide +kernel, by decide +kernel⟩
theorem ok_is_step {P : Program} {w : PySem.World} {K : PySem.W.Frag} {mg : Str → Option Value} {base : Heap} {f : Addr} {fd : FuncData} (g : Gs K mg) (h_is_whole : FN P w K mg base 1 3 "is_whole" m_is_whole) (F : FunD K "is_step" "is_step" (defArgs s_is_step) (defBody s_is_step) (defScope s_is_step) [] [] f fd) (hg : mg "is_step" = some (.ref f)) : FN P w K mg base 2 3 "is_step" m_is_step := by
  refine ⟨f, fd, ["thing", "days", "hours"], ?_, hg, F.kp, F.bindsN fun _ _ _ _ _ _ us hl => match us, hl with | [_, _, _], _ => rfl⟩
  refine F.ok sc_m_is_step (fun vs H Q E h => h.1) (fun cdv A outer s H vs Q E hr h => body_ok (m := (mSeq m_is_step_s0 (mSeq m_is_step_s2 (mSeq m_is_step_s4 (mSeq m_is_step_s6 (mSeq m_is_step_s8 m_is_step_s10)))))) (by decide) ?_ h)
  exact (sss_cons (ss_if (st_w (sw_or (st_not (st_val (se_isi rfl g.b_isinstance rfl g.b_tuple bt_tuple (sv 0)))) (sw_or (st_not (st_truth (sv 0))) (sw_or1 (st_not (st_val (se_isi rfl g.b_isinstance rfl g.b_str bt_str (se_ix (Room.u1 hr) (fun _ _ => rfl) (sv 0) se_int pu_ix)))))))) (sss_one (ss_ret se_bl)) sss_nil) (sss_cons (ss_if (st_cmp (opM_in (Room.u65 hr)) pu_in (by with_unfolding_all rfl) (se_ix (Room.u1 hr) (fun _ _ => rfl) (sv 0) se_int pu_ix) (se_tup (sa_cons se_str (sa_cons se_str sa_nil)) (lenCons (lenCons lenNil)) (by decide))) (sss_one (ss_ret (se_and (se_cmp (opM_eq (Room.u64 hr)) pu_eq (nomark _) (se_callB crM_len pu_len rfl g.b_len bt_len (sa_cons (sv 0) sa_nil)) se_int) (se_one (se_callN h_is_whole hr (by decide) rfl takes_cx (sa_cons (se_ix (Room.u1 hr) (fun _ _ => rfl) (sv 0) se_int pu_ix) (sa_cons se_int (sa_cons (se_op opM_sub pu_sub (sv 2) se_int) sa_nil))) (lenCons (lenCons (lenCons lenNil)))))))) sss_nil) (sss_cons (ss_if (st_cmp (opM_in (Room.u65 hr)) pu_in (by with_unfolding_all rfl) (se_ix (Room.u1 hr) (fun _ _ => rfl) (sv 0) se_int pu_ix) (se_tup (sa_cons se_str (sa_cons se_str sa_nil)) (lenCons (lenCons lenNil)) (by decide))) (sss_one (ss_ret (se_cmp (opM_eq (Room.u64 hr)) pu_eq (nomark _) (se_callB crM_len pu_len rfl g.b_len bt_len (sa_cons (sv 0) sa_nil)) se_int))) sss_nil) (sss_cons (ss_if (st_cmp (opM_eq (Room.u64 hr)) pu_eq (nomark _) (se_ix (Room.u1 hr) (fun _ _ => rfl) (sv 0) se_int pu_ix) se_str) (sss_one (ss_ret (se_and (se_cmp (opM_eq (Room.u64 hr)) pu_eq (nomark _) (se_callB crM_len pu_len rfl g.b_len bt_len (sa_cons (sv 0) sa_nil)) se_int) (se_one (se_callN h_is_whole hr (by decide) rfl takes_cx (sa_cons (se_ix (Room.u1 hr) (fun _ _ => rfl) (sv 0) se_int pu_ix) (sa_cons se_int (sa_cons (se_op opM_sub pu_sub (sv 1) se_int) sa_nil))) (lenCons (lenCons (lenCons lenNil)))))))) sss_nil) (sss_cons (ss_if (st_w (sw_or (st_cmp (opM_ne (Room.u64 hr)) pu_ne (nomark _) (se_ix (Room.u1 hr) (fun _ _ => rfl) (sv 0) se_int pu_ix) se_str) (sw_or1 (st_cmp (opM_ne (Room.u64 hr)) pu_ne (nomark _) (se_callB crM_len pu_len rfl g.b_len bt_len (sa_cons (sv 0) sa_nil)) se_int)))) (sss_one (ss_ret se_bl)) sss_nil) (sss_one (ss_ret (se_and (se_callN h_is_whole hr (by decide) rfl takes_cx (sa_cons (se_ix (Room.u1 hr) (fun _ _ => rfl) (sv 0) se_int pu_ix) (sa_cons se_int (sa_cons (se_op opM_sub pu_sub (sv 1) se_int) sa_nil))) (lenCons (lenCons (lenCons lenNil)))) (se_one (se_callN h_is_whole hr (by decide) rfl takes_cx (sa_cons (se_ix (Room.u1 hr) (fun _ _ => rfl) (sv 0) se_int pu_ix) (sa_cons se_int (sa_cons (se_op opM_sub pu_sub (sv 2) se_int) sa_nil))) (lenCons (lenCons (lenCons lenNil)))))))))))))
def m_is_hand_s1 : MS := (mRet (mC (.bl false)))
def m_is_hand_s0 : MS := (mIfS (mOr (mNot (mTest (mIsi "tuple" (mVar 0)))) (mOr (mTest (mOp neM (mCallF lenM (mCons (mVar 0) mNil)) (mC (.int 2)))) (mNot (mTest (mCallF m_is_whole (mCons (mOp idxM (mVar 0) (mC (.int 0))) (mCons (mC (.int 0)) (mCons (mOp subM (mVar 3) (mC (.int 1))) mNil)))))))) m_is_hand_s1 mNext)
def m_is_hand_s3 : MS := (mRet (mC (.bl false)))
def m_is_hand_s2 : MS := (mIfS (mOr (mNot (mTest (mIsi "tuple" (mOp idxM (mVar 0) (mC (.int 1)))))) (mNot (mTest (mChain leM leM (mC (.int 1)) (mCallF lenM (mCons (mOp idxM (mVar 0) (mC (.int 1))) mNil)) (mC (.int 4)))))) m_is_hand_s3 mNext)
def m_is_hand_s4 : MS := (mRet (mCallF allM (mCons (mLc true [4] (mSrc (mOp idxM (mVar 0) (mC (.int 1)))) (tgName 4) mTrue (mCallF m_is_step (mCons (mVar 4) (mCons (mVar 1) (mCons (mVar 2) mNil))))) mNil)))
def m_is_hand : MF := mFn 5 ((mSeq m_is_hand_s0 (mSeq m_is_hand_s2 m_is_hand_s4)))
theorem sc_m_is_hand : FnScope ["thing", "days", "hours", "many", "step"] ["thing", "days", "hours", "many"] (defScope s_is_hand) := ⟨rfl, rfl, rfl, by decide +kernel, rfl, by decide +kernel, by decide +kernel⟩
theorem ok_is_hand {P : Program} {w : PySem.World} {K : PySem.W.Frag} {mg : Str → Option Value} {base : Heap} {f : Addr} {fd : FuncData} (g : Gs K mg) (h_is_whole : FN P w K mg base 1 3 "is_whole" m_is_whole) (h_is_step : FN P w K mg base 2 3 "is_step" m_is_step) (F : FunD K "is_hand" "is_hand" (defArgs s_is_hand) (defBody s_is_hand) (defScope s_is_hand) [] [] f fd) (hg : mg "is_hand" = some (.ref f)) : FN P w K mg base 3 4 "is_hand" m_is_hand := by
  refine ⟨f, fd, ["thing", "days", "hours", "many"], ?_, hg, F.kp, F.bindsN fun _ _ _ _ _ _ us hl => match us, hl with | [_, _, _, _], _ => rfl⟩
  refine F.ok sc_m_is_hand (fun vs H Q E h => h.1) (fun cdv A outer s H vs Q E hr h => body_ok (m := (mSeq m_is_hand_s0 (mSeq m_is_hand_s2 m_is_hand_s4))) (by decide) ?_ h)
  exact (sss_cons (ss_if (st_w (sw_or (st_not (st_val (se_isi rfl g.b_isinstance rfl g.b_tuple bt_tuple (sv 0)))) (sw_or (st_cmp (opM_ne (Room.u64 hr)) pu_ne (nomark _) (se_callB crM_len pu_len rfl g.b_len bt_len (sa_cons (sv 0) sa_nil)) se_int) (sw_or1 (st_not (st_val (se_callN h_is_whole hr (by decide) rfl takes_cx (sa_cons (se_ix (Room.u1 hr) (fun _ _ => rfl) (sv 0) se_int pu_ix) (sa_cons se_int (sa_cons (se_op opM_sub pu_sub (sv 3) se_int) sa_nil))) (lenCons (lenCons (lenCons lenNil)))))))))) (sss_one (ss_ret se_bl)) sss_nil) (sss_cons (ss_if (st_w (sw_or (st_not (st_val (se_isi rfl g.b_isinstance rfl g.b_tuple bt_tuple (se_ix (Room.u1 hr) (fun _ _ => rfl) (sv 0) se_int pu_ix)))) (sw_or1 (st_not (st_chain (opM_int op_le) pu_cmpI (opM_int op_le) pu_cmpI se_int (se_callB crM_len pu_len rfl g.b_len bt_len (sa_cons (se_ix (Room.u1 hr) (fun _ _ => rfl) (sv 0) se_int pu_ix) sa_nil)) se_int))))) (sss_one (ss_ret se_bl)) sss_nil) (sss_one (ss_ret (se_callB (crM_all rfl) pu_all rfl g.b_all bt_all (sa_cons (se_lc (fr := true) (own := [("step", 4)]) rfl sc_m_is_hand.nd (si_seq (se_ix (Room.u1 hr) (fun _ _ => rfl) (sv 0) se_int pu_ix)) (blkOk_by rfl) (fun _ _ _ _ _ => (sn 4 sc_m_is_hand.nd)) (fun _ _ _ _ _ => sts_nil) (fun _ _ _ _ _ => (se_callN h_is_step hr (by decide) rfl takesNo (sa_cons (sv 4) (sa_cons (sv 1) (sa_cons (sv 2) sa_nil))) (lenCons (lenCons (lenCons lenNil))))) (by decide)) sa_nil))))))
def m_is_world_s1 : MS := (mRet (mC (.bl false)))
def m_is_world_s0 : MS := (mIfS (mOr (mNot (mTest (mIsi "tuple" (mVar 0)))) (mOr (mTest (mOp neM (mCallF lenM (mCons (mVar 0) mNil)) (mC (.int 4)))) (mOr (mNot (mTest (mCallF m_is_whole (mCons (mOp idxM (mVar 0) (mC (.int 0))) (mCons (mC (.int 1)) (mCons (mC (.int 2)) mNil)))))) (mNot (mTest (mCallF m_is_whole (mCons (mOp idxM (mVar 0) (mC (.int 1))) (mCons (mC (.int 2)) (mCons (mC (.int 3)) mNil))))))))) m_is_world_s1 mNext)
def m_is_world_s2 : MS := (mAsg (mVar 0) (tgTup (tgCons (tgName 1) (tgCons (tgName 2) (tgCons (tgName 3) (tgCons (tgName 4) tgNil))))))
def m_is_world_s4 : MS := (mRet (mC (.bl false)))
def m_is_world_s3 : MS := (mIfS (mOr (mNot (mTest (mCallF m_are_series (mCons (mVar 3) (mCons (mVar 2) mNil))))) (mOr (mNot (mTest (mIsi "tuple" (mVar 4)))) (mNot (mTest (mChain leM leM (mC (.int 1)) (mCallF lenM (mCons (mVar 4) mNil)) (mC (.int 3))))))) m_is_world_s4 mNext)
def m_is_world_s6 : MS := (mRet (mC (.bl false)))
def m_is_world_s5 : MS := (mIfS (mNot (mTest (mCallF allM (mCons (mLc true [5] (mSrc (mVar 4)) (tgName 5) mTrue (mCallF m_is_hand (mCons (mVar 5) (mCons (mVar 1) (mCons (mVar 2) (mCons (mCallF lenM (mCons (mVar 3) mNil)) mNil)))))) mNil)))) m_is_world_s6 mNext)
def m_is_world_s7 : MS := (mRet (mOp leM (mCallF sumM (mCons (mLc true [5] (mSrc (mVar 4)) (tgName 5) mTrue (mCallF lenM (mCons (mOp idxM (mVar 5) (mC (.int 1))) mNil))) mNil)) (mC (.int 8))))
def m_is_world : MF := mFn 6 ((mSeq m_is_world_s0 (mSeq m_is_world_s2 (mSeq m_is_world_s3 (mSeq m_is_world_s5 m_is_world_s7)))))
theorem sc_m_is_world : FnScope ["thing", "days", "hours", "series", "hands", "hand"] ["thing"] (defScope s_is_world) := ⟨rfl, rfl, rfl, by decide +kernel, rfl, by decide +kernel, by decide +kernel⟩
theorem ok_is_world {P : Program} {w : PySem.World} {K : PySem.W.Frag} {mg : Str → Option Value} {base : Heap} {f : Addr} {fd : FuncData} (g : Gs K mg) (h_is_whole : FN P w K mg base 1 3 "is_whole" m_is_whole) (h_are_series : FN P w K mg base 2 2 "are_series" m_are_series) (h_is_hand : FN P w K mg base 3 4 "is_hand" m_is_hand) (F : FunD K "is_world" "is_world" (defArgs s_is_world) (defBody s_is_world) (defScope s_is_world) [] [] f fd) (hg : mg "is_world" = some (.ref f)) : FN P w K mg base 4 1 "is_world" m_is_world := by
  refine ⟨f, fd, ["thing"], ?_, hg, F.kp, F.bindsN fun _ _ _ _ _ _ us hl => match us, hl with | [_], _ => rfl⟩
  refine F.ok sc_m_is_world (fun vs H Q E h => h.1) (fun cdv A outer s H vs Q E hr h => body_ok (m := (mSeq m_is_world_s0 (mSeq m_is_world_s2 (mSeq m_is_world_s3 (mSeq m_is_world_s5 m_is_world_s7))))) (by decide) ?_ h)
  exact (sss_cons (ss_if (st_w (sw_or (st_not (st_val (se_isi rfl g.b_isinstance rfl g.b_tuple bt_tuple (sv 0)))) (sw_or (st_cmp (opM_ne (Room.u64 hr)) pu_ne (nomark _) (se_callB crM_len pu_len rfl g.b_len bt_len (sa_cons (sv 0) sa_nil)) se_int) (sw_or (st_not (st_val (se_callN h_is_whole hr (by decide) rfl takes_cx (sa_cons (se_ix (Room.u1 hr) (fun _ _ => rfl) (sv 0) se_int pu_ix) (sa_cons se_int (sa_cons se_int sa_nil))) (lenCons (lenCons (lenCons lenNil)))))) (sw_or1 (st_not (st_val (se_callN h_is_whole hr (by decide) rfl takes_cx (sa_cons (se_ix (Room.u1 hr) (fun _ _ => rfl) (sv 0) se_int pu_ix) (sa_cons se_int (sa_cons se_int sa_nil))) (lenCons (lenCons (lenCons lenNil))))))))))) (sss_one (ss_ret se_bl)) sss_nil) (sss_cons (ss_asg (sv 0) (sg_tup rfl (sgs_cons (sn 1 sc_m_is_world.nd) (sgs_cons (sn 2 sc_m_is_world.nd) (sgs_cons (sn 3 sc_m_is_world.nd) (sgs_cons (sn 4 sc_m_is_world.nd) sgs_nil)))))) (sss_cons (ss_if (st_w (sw_or (st_not (st_val (se_callN h_are_series hr (by decide) rfl takes_cx (sa_cons (sv 3) (sa_cons (sv 2) sa_nil)) (lenCons (lenCons lenNil))))) (sw_or (st_not (st_val (se_isi rfl g.b_isinstance rfl g.b_tuple bt_tuple (sv 4)))) (sw_or1 (st_not (st_chain (opM_int op_le) pu_cmpI (opM_int op_le) pu_cmpI se_int (se_callB crM_len pu_len rfl g.b_len bt_len (sa_cons (sv 4) sa_nil)) se_int)))))) (sss_one (ss_ret se_bl)) sss_nil) (sss_cons (ss_if (st_not (st_val (se_callB (crM_all rfl) pu_all rfl g.b_all bt_all (sa_cons (se_lc (fr := true) (own := [("hand", 5)]) rfl sc_m_is_world.nd (si_seq (sv 4)) (blkOk_by rfl) (fun _ _ _ _ _ => (sn 5 sc_m_is_world.nd)) (fun _ _ _ _ _ => sts_nil) (fun _ _ _ _ _ => (se_callN h_is_hand hr (by decide) rfl takesNo (sa_cons (sv 5) (sa_cons (sv 1) (sa_cons (sv 2) (sa_cons (se_callB crM_len pu_len rfl g.b_len bt_len (sa_cons (sv 3) sa_nil)) sa_nil)))) (lenCons (lenCons (lenCons (lenCons lenNil)))))) (by decide)) sa_nil)))) (sss_one (ss_ret se_bl)) sss_nil) (sss_one (ss_ret (se_cmp (opM_int op_le) pu_cmpI (nomark _) (se_callB (crM_sum rfl) pu_sum rfl g.b_sum bt_sum (sa_cons (se_lc (fr := true) (own := [("hand", 5)]) rfl sc_m_is_world.nd (si_seq (sv 4)) (blkOk_by rfl) (fun _ _ _ _ _ => (sn 5 sc_m_is_world.nd)) (fun _ _ _ _ _ => sts_nil) (fun _ _ _ _ _ => (se_callB crM_len pu_len rfl g.b_len bt_len (sa_cons (se_ix (Room.u1 hr) (fun _ _ => rfl) (sv 5) se_int pu_ix) sa_nil))) (by decide)) sa_nil)) se_int)))))))
def m_check_world_s1 : MS := mStk
def m_check_world_s0 : MS := (mIfS (mNot (mTest (mCallF m_is_world (mCons (mVar 0) mNil)))) m_check_world_s1 mNext)
def m_check_world : MF := mFn 1 (m_check_world_s0)
theorem sc_m_check_world : FnScope ["world"] ["world"] (defScope s_check_world) := ⟨rfl, rfl, rfl, by decide +kernel, rfl, by decide +kernel, by decide +kernel⟩
theorem ok_check_world {P : Program} {w : PySem.World} {K : PySem.W.Frag} {mg : Str → Option Value} {base : Heap} {f : Addr} {fd : FuncData} (g : Gs K mg) (h_is_world : FN P w K mg base 4 1 "is_world" m_is_world) (F : FunD K "check_world" "check_world" (defArgs s_check_world) (defBody s_check_world) (defScope s_check_world) [] [] f fd) (hg : mg "check_world" = some (.ref f)) : FN P w K mg base 5 1 "check_world" m_check_world := by
  refine ⟨f, fd, ["world"], ?_, hg, F.kp, F.bindsN fun _ _ _ _ _ _ us hl => match us, hl with | [_], _ => rfl⟩
  refine F.ok sc_m_check_world (fun vs H Q E h => h.1) (fun cdv A outer s H vs Q E hr h => body_ok (m := m_check_world_s0) (by decide) ?_ h)
  exact (sss_one (ss_if (st_not (st_val (se_callN h_is_world hr (by decide) rfl takes_cx (sa_cons (sv 0) sa_nil) (lenCons lenNil)))) (sss_one ss_stk) sss_nil))
def m_check_faults_s1 : MS := mStk
def m_check_faults_s0 : MS := (mIfS (mOr (mNot (mTest (mIsi "list" (mVar 0)))) (mNot (mTest (mCallF allM (mCons (mLc true [1] (mSrc (mVar 0)) (tgName 1) mTrue (mAndV (mIsi "str" (mVar 1)) (mOp inM (mVar 1) (mC d_FAULTS)))) mNil))))) m_check_faults_s1 mNext)
def m_check_faults : MF := mFn 2 (m_check_faults_s0)
theorem sc_m_check_faults : FnScope ["faults", "one"] ["faults"] (defScope s_check_faults) := ⟨rfl, rfl, rfl, by decide +kernel, rfl, by decide +kernel, by decide +kernel⟩
theorem ok_check_faults {P : Program} {w : PySem.World} {K : PySem.W.Frag} {mg : Str → Option Value} {base : Heap} {f : Addr} {fd : FuncData} (g : Gs K mg) (F : FunD K "check_faults" "check_faults" (defArgs s_check_faults) (defBody s_check_faults) (defScope s_check_faults) [] [] f fd) (hg : mg "check_faults" = some (.ref f)) : FN P w K mg base 1 1 "check_faults" m_check_faults := by
  refine ⟨f, fd, ["faults"], ?_, hg, F.kp, F.bindsN fun _ _ _ _ _ _ us hl => match us, hl with | [_], _ => rfl⟩
  refine F.ok sc_m_check_faults (fun vs H Q E h => h.1) (fun cdv A outer s H vs Q E hr h => body_ok (m := m_check_faults_s0) (by decide) ?_ h)
  exact (sss_one (ss_if (st_w (sw_or (st_not (st_val (se_isi rfl g.b_isinstance rfl g.b_list bt_list (sv 0)))) (sw_or1 (st_not (st_val (se_callB (crM_all rfl) pu_all rfl g.b_all bt_all (sa_cons (se_lc (fr := true) (own := [("one", 1)]) rfl sc_m_check_faults.nd (si_seq (sv 0)) (blkOk_by rfl) (fun _ _ _ _ _ => (sn 1 sc_m_check_faults.nd)) (fun _ _ _ _ _ => sts_nil) (fun _ _ _ _ _ => (se_and (se_isi rfl g.b_isinstance rfl g.b_str bt_str (sv 1)) (se_one (se_cmp (opM_in (Room.u65 hr)) pu_in (by with_unfolding_all rfl) (sv 1) (se_globN g.k_FAULTS rfl))))) (by decide)) sa_nil))))))) (sss_one ss_stk) sss_nil))
def m_Rule_parts_s0 : MS := (mRet (mTup (mCons (mFld "Rule" "checking" (mVar 0)) (mCons (mFld "Rule" "singles" (mVar 0)) (mCons (mFld "Rule" "halves" (mVar 0)) (mCons (mFld "Rule" "telling" (mVar 0)) mNil))))))
def m_Rule_parts : MF := mFn 1 (m_Rule_parts_s0)
theorem sc_m_Rule_parts : FnScope ["self"] ["self"] (defScope s_Rule_parts) := ⟨rfl, rfl, rfl, by decide +kernel, rfl, by decide +kernel, by decide +kernel⟩
theorem ok_Rule_parts {P : Program} {w : PySem.World} {K : PySem.W.Frag} {mg : Str → Option Value} {base : Heap} {fd : FuncData} (g : Gs K mg) (F : FunD K "parts" "Rule.parts" (defArgs s_Rule_parts) (defBody s_Rule_parts) (defScope s_Rule_parts) [] [] (He.ma K (He.ga K "Rule") "parts") fd) : MN P w K mg base 1 1 "Rule" "parts" m_Rule_parts := by
  refine ⟨fd, ["self"], ?_, F.bindsN fun _ _ _ _ _ _ us hl => match us, hl with | [_], _ => rfl⟩
  refine F.ok sc_m_Rule_parts (fun vs H Q E h => h.1) (fun cdv A outer s H vs Q E hr h => body_ok (m := m_Rule_parts_s0) (by decide) ?_ h)
  exact (sss_one (ss_ret (se_tup (sa_cons (se_fld g.c_Rule g.n_Rule_checking (sv 0)) (sa_cons (se_fld g.c_Rule g.n_Rule_singles (sv 0)) (sa_cons (se_fld g.c_Rule g.n_Rule_halves (sv 0)) (sa_cons (se_fld g.c_Rule g.n_Rule_telling (sv 0)) sa_nil)))) (lenCons (lenCons (lenCons (lenCons lenNil)))) (by decide))))
def m_turnings_0 : MF := mFn 7 (mStk)
theorem sc_m_turnings_0 : FnScope ["rule", "first", "size", "found", "at", "value", "row"] ["rule", "first", "size"] (defScope s_turnings_0) := ⟨rfl, rfl, rfl, by decide +kernel, rfl, by decide +kernel, by decide +kernel⟩
theorem ok_turnings_0 {P : Program} {w : PySem.World} {K : PySem.W.Frag} {mg : Str → Option Value} {base : Heap} {f : Addr} {fd : FuncData} (g : Gs K mg) (F : FunD K "turnings" "turnings" (defArgs s_turnings_0) (defBody s_turnings_0) (defScope s_turnings_0) [] [] f fd) (hg : mg "turnings" = some (.ref f)) : FN P w K mg base 1 3 "turnings" m_turnings_0 := by
  refine ⟨f, fd, ["rule", "first", "size"], ?_, hg, F.kp, F.bindsN fun _ _ _ _ _ _ us hl => match us, hl with | [_, _, _], _ => rfl⟩
  refine F.ok sc_m_turnings_0 (fun vs H Q E h => h.1) (fun cdv A outer s H vs Q E hr h => body_ok (m := mStk) (by decide) ?_ h)
  exact sss_stk
def m_turnings_1_s1 : MS := (mRet (mLst (mCons (mPtp mNil) mNil)))
def m_turnings_1_s0 : MS := (mIfS (mTest (mOp eqM (mVar 2) (mC (.int 0)))) m_turnings_1_s1 mNext)
def m_turnings_1_s2 : MS := (mAsg (mLst mNil) (tgName 3))
def m_turnings_1_s6 : MS := (mAsg (mOp addM (mVar 3) (mLc true [6] (mSrc (mCallF m_turnings_0 (mCons (mVar 0) (mCons (mOp addM (mVar 4) (mC (.int 1))) (mCons (mOp subM (mVar 2) (mC (.int 1))) mNil))))) (tgName 6) mTrue (mOp addPM (mPtp (mCons (mTup (mCons (mOp idxM (mC d_PARTS) (mVar 4)) (mCons (mVar 5) mNil))) mNil)) (mVar 6)))) (tgName 3))
def m_turnings_1_s5 : MS := (mIfS (mTest (mOp neM (mVar 5) (mOp idxM (mMeth "Rule" "parts" m_Rule_parts (mVar 0) mNil) (mVar 4)))) m_turnings_1_s6 mNext)
def m_turnings_1_s4 : MS := (mFor (mSrc (mOp idxM (mC d_VALUES) (mVar 4))) (tgName 5) m_turnings_1_s5)
def m_turnings_1_s3 : MS := (mFor (mRng2 (mCons (mVar 1) (mCons (mCallF lenM (mCons (mC d_PARTS) mNil)) mNil))) (tgName 4) m_turnings_1_s4)
def m_turnings_1_s7 : MS := (mRet (mVar 3))
def m_turnings_1 : MF := mFn 7 ((mSeq m_turnings_1_s0 (mSeq m_turnings_1_s2 (mSeq m_turnings_1_s3 m_turnings_1_s7))))
theorem sc_m_turnings_1 : FnScope ["rule", "first", "size", "found", "at", "value", "row"] ["rule", "first", "size"] (defScope s_turnings_1) := ⟨rfl, rfl, rfl, by decide +kernel, rfl, by decide +kernel, by decide +kernel⟩
theorem ok_turnings_1 {P : Program} {w : PySem.World} {K : PySem.W.Frag} {mg : Str → Option Value} {base : Heap} {f : Addr} {fd : FuncData} (g : Gs K mg) (h_Rule_parts : MN P w K mg base 1 1 "Rule" "parts" m_Rule_parts) (h_turnings_0 : FN P w K mg base 1 3 "turnings" m_turnings_0) (F : FunD K "turnings" "turnings" (defArgs s_turnings_1) (defBody s_turnings_1) (defScope s_turnings_1) [] [] f fd) (hg : mg "turnings" = some (.ref f)) : FN P w K mg base 2 3 "turnings" m_turnings_1 := by
  refine ⟨f, fd, ["rule", "first", "size"], ?_, hg, F.kp, F.bindsN fun _ _ _ _ _ _ us hl => match us, hl with | [_, _, _], _ => rfl⟩
  refine F.ok sc_m_turnings_1 (fun vs H Q E h => h.1) (fun cdv A outer s H vs Q E hr h => body_ok (m := (mSeq m_turnings_1_s0 (mSeq m_turnings_1_s2 (mSeq m_turnings_1_s3 m_turnings_1_s7)))) (by decide) ?_ h)
  exact (sss_cons (ss_if (st_cmp (opM_eq (Room.u64 hr)) pu_eq (nomark _) (sv 2) se_int) (sss_one (ss_ret (se_lst (sa_cons (se_ptp sa_nil lenNil (by decide)) sa_nil) (lenCons lenNil) (by decide)))) sss_nil) (sss_cons (sset 3 sc_m_turnings_1.nd (se_lst sa_nil lenNil (by decide))) (sss_cons (ss_for pass_cx rfl (si_rng2 rfl g.b_range (sa_cons (sv 1) (sa_cons (se_callB crM_len pu_len rfl g.b_len bt_len (sa_cons (se_globN g.k_PARTS rfl) sa_nil)) sa_nil))) (sn 4 sc_m_turnings_1.nd) (sss_one (ss_for pass_cx rfl (si_seq (se_ix (Room.u1 hr) (fun _ _ => rfl) (se_globN g.k_VALUES rfl) (sv 4) pu_ix)) (sn 5 sc_m_turnings_1.nd) (sss_one (ss_if (st_cmp (opM_ne (Room.u64 hr)) pu_ne (nomark _) (sv 5) (se_ix (Room.u1 hr) (fun _ _ => rfl) (se_methN0 h_Rule_parts g.c_Rule g.m_Rule_parts hr (by decide) takes_cx (sv 0)) (sv 4) pu_ix)) (sss_one (sset 3 sc_m_turnings_1.nd (se_op opM_add pu_add (sv 3) (se_lc (fr := true) (own := [("row", 6)]) rfl sc_m_turnings_1.nd (si_seq (se_callN h_turnings_0 hr (by decide) rfl takes_cx (sa_cons (sv 0) (sa_cons (se_op opM_add pu_add (sv 4) se_int) (sa_cons (se_op opM_sub pu_sub (sv 2) se_int) sa_nil))) (lenCons (lenCons (lenCons lenNil))))) (blkOk_by rfl) (fun _ _ _ _ _ => (sn 6 sc_m_turnings_1.nd)) (fun _ _ _ _ _ => sts_nil) (fun _ _ _ _ _ => (se_op opM_addP pu_addP (se_ptp (sa_cons (se_tup (sa_cons (se_ix (Room.u1 hr) (fun _ _ => rfl) (se_globN g.k_PARTS rfl) (sv 4) pu_ix) (sa_cons (sv 5) sa_nil)) (lenCons (lenCons lenNil)) (by decide)) sa_nil) (lenCons lenNil) (by decide)) (sv 6))) (by decide))))) sss_nil))))) (sss_one (ss_ret (sv 3))))))
def m_turnings_2_s1 : MS := (mRet (mLst (mCons (mPtp mNil) mNil)))
def m_turnings_2_s0 : MS := (mIfS (mTest (mOp eqM (mVar 2) (mC (.int 0)))) m_turnings_2_s1 mNext)
def m_turnings_2_s2 : MS := (mAsg (mLst mNil) (tgName 3))
def m_turnings_2_s6 : MS := (mAsg (mOp addM (mVar 3) (mLc true [6] (mSrc (mCallF m_turnings_1 (mCons (mVar 0) (mCons (mOp addM (mVar 4) (mC (.int 1))) (mCons (mOp subM (mVar 2) (mC (.int 1))) mNil))))) (tgName 6) mTrue (mOp addPM (mPtp (mCons (mTup (mCons (mOp idxM (mC d_PARTS) (mVar 4)) (mCons (mVar 5) mNil))) mNil)) (mVar 6)))) (tgName 3))
def m_turnings_2_s5 : MS := (mIfS (mTest (mOp neM (mVar 5) (mOp idxM (mMeth "Rule" "parts" m_Rule_parts (mVar 0) mNil) (mVar 4)))) m_turnings_2_s6 mNext)
def m_turnings_2_s4 : MS := (mFor (mSrc (mOp idxM (mC d_VALUES) (mVar 4))) (tgName 5) m_turnings_2_s5)
def m_turnings_2_s3 : MS := (mFor (mRng2 (mCons (mVar 1) (mCons (mCallF lenM (mCons (mC d_PARTS) mNil)) mNil))) (tgName 4) m_turnings_2_s4)
def m_turnings_2_s7 : MS := (mRet (mVar 3))
def m_turnings_2 : MF := mFn 7 ((mSeq m_turnings_2_s0 (mSeq m_turnings_2_s2 (mSeq m_turnings_2_s3 m_turnings_2_s7))))
theorem sc_m_turnings_2 : FnScope ["rule", "first", "size", "found", "at", "value", "row"] ["rule", "first", "size"] (defScope s_turnings_2) := ⟨rfl, rfl, rfl, by decide +kernel, rfl, by decide +kernel, by decide +kernel⟩
theorem ok_turnings_2 {P : Program} {w : PySem.World} {K : PySem.W.Frag} {mg : Str → Option Value} {base : Heap} {f : Addr} {fd : FuncData} (g : Gs K mg) (h_Rule_parts : MN P w K mg base 1 1 "Rule" "parts" m_Rule_parts) (h_turnings_1 : FN P w K mg base 2 3 "turnings" m_turnings_1) (F : FunD K "turnings" "turnings" (defArgs s_turnings_2) (defBody s_turnings_2) (defScope s_turnings_2) [] [] f fd) (hg : mg "turnings" = some (.ref f)) : FN P w K mg base 3 3 "turnings" m_turnings_2 := by
  refine ⟨f, fd, ["rule", "first", "size"], ?_, hg, F.kp, F.bindsN fun _ _ _ _ _ _ us hl => match us, hl with | [_, _, _], _ => rfl⟩
  refine F.ok sc_m_turnings_2 (fun vs H Q E h => h.1) (fun cdv A outer s H vs Q E hr h => body_ok (m := (mSeq m_turnings_2_s0 (mSeq m_turnings_2_s2 (mSeq m_turnings_2_s3 m_turnings_2_s7)))) (by decide) ?_ h)
  exact (sss_cons (ss_if (st_cmp (opM_eq (Room.u64 hr)) pu_eq (nomark _) (sv 2) se_int) (sss_one (ss_ret (se_lst (sa_cons (se_ptp sa_nil lenNil (by decide)) sa_nil) (lenCons lenNil) (by decide)))) sss_nil) (sss_cons (sset 3 sc_m_turnings_2.nd (se_lst sa_nil lenNil (by decide))) (sss_cons (ss_for pass_cx rfl (si_rng2 rfl g.b_range (sa_cons (sv 1) (sa_cons (se_callB crM_len pu_len rfl g.b_len bt_len (sa_cons (se_globN g.k_PARTS rfl) sa_nil)) sa_nil))) (sn 4 sc_m_turnings_2.nd) (sss_one (ss_for pass_cx rfl (si_seq (se_ix (Room.u1 hr) (fun _ _ => rfl) (se_globN g.k_VALUES rfl) (sv 4) pu_ix)) (sn 5 sc_m_turnings_2.nd) (sss_one (ss_if (st_cmp (opM_ne (Room.u64 hr)) pu_ne (nomark _) (sv 5) (se_ix (Room.u1 hr) (fun _ _ => rfl) (se_methN0 h_Rule_parts g.c_Rule g.m_Rule_parts hr (by decide) takes_cx (sv 0)) (sv 4) pu_ix)) (sss_one (sset 3 sc_m_turnings_2.nd (se_op opM_add pu_add (sv 3) (se_lc (fr := true) (own := [("row", 6)]) rfl sc_m_turnings_2.nd (si_seq (se_callN h_turnings_1 hr (by decide) rfl takes_cx (sa_cons (sv 0) (sa_cons (se_op opM_add pu_add (sv 4) se_int) (sa_cons (se_op opM_sub pu_sub (sv 2) se_int) sa_nil))) (lenCons (lenCons (lenCons lenNil))))) (blkOk_by rfl) (fun _ _ _ _ _ => (sn 6 sc_m_turnings_2.nd)) (fun _ _ _ _ _ => sts_nil) (fun _ _ _ _ _ => (se_op opM_addP pu_addP (se_ptp (sa_cons (se_tup (sa_cons (se_ix (Room.u1 hr) (fun _ _ => rfl) (se_globN g.k_PARTS rfl) (sv 4) pu_ix) (sa_cons (sv 5) sa_nil)) (lenCons (lenCons lenNil)) (by decide)) sa_nil) (lenCons lenNil) (by decide)) (sv 6))) (by decide))))) sss_nil))))) (sss_one (ss_ret (sv 3))))))
def m_turnings_3_s1 : MS := (mRet (mLst (mCons (mPtp mNil) mNil)))
def m_turnings_3_s0 : MS := (mIfS (mTest (mOp eqM (mVar 2) (mC (.int 0)))) m_turnings_3_s1 mNext)
def m_turnings_3_s2 : MS := (mAsg (mLst mNil) (tgName 3))
def m_turnings_3_s6 : MS := (mAsg (mOp addM (mVar 3) (mLc true [6] (mSrc (mCallF m_turnings_2 (mCons (mVar 0) (mCons (mOp addM (mVar 4) (mC (.int 1))) (mCons (mOp subM (mVar 2) (mC (.int 1))) mNil))))) (tgName 6) mTrue (mOp addPM (mPtp (mCons (mTup (mCons (mOp idxM (mC d_PARTS) (mVar 4)) (mCons (mVar 5) mNil))) mNil)) (mVar 6)))) (tgName 3))
def m_turnings_3_s5 : MS := (mIfS (mTest (mOp neM (mVar 5) (mOp idxM (mMeth "Rule" "parts" m_Rule_parts (mVar 0) mNil) (mVar 4)))) m_turnings_3_s6 mNext)
def m_turnings_3_s4 : MS := (mFor (mSrc (mOp idxM (mC d_VALUES) (mVar 4))) (tgName 5) m_turnings_3_s5)
def m_turnings_3_s3 : MS := (mFor (mRng2 (mCons (mVar 1) (mCons (mCallF lenM (mCons (mC d_PARTS) mNil)) mNil))) (tgName 4) m_turnings_3_s4)
def m_turnings_3_s7 : MS := (mRet (mVar 3))
def m_turnings_3 : MF := mFn 7 ((mSeq m_turnings_3_s0 (mSeq m_turnings_3_s2 (mSeq m_turnings_3_s3 m_turnings_3_s7))))
theorem sc_m_turnings_3 : FnScope ["rule", "first", "size", "found", "at", "value", "row"] ["rule", "first", "size"] (defScope s_turnings_3) := ⟨rfl, rfl, rfl, by decide +kernel, rfl, by decide +kernel, by decide +kernel⟩
theorem ok_turnings_3 {P : Program} {w : PySem.World} {K : PySem.W.Frag} {mg : Str → Option Value} {base : Heap} {f : Addr} {fd : FuncData} (g : Gs K mg) (h_Rule_parts : MN P w K mg base 1 1 "Rule" "parts" m_Rule_parts) (h_turnings_2 : FN P w K mg base 3 3 "turnings" m_turnings_2) (F : FunD K "turnings" "turnings" (defArgs s_turnings_3) (defBody s_turnings_3) (defScope s_turnings_3) [] [] f fd) (hg : mg "turnings" = some (.ref f)) : FN P w K mg base 4 3 "turnings" m_turnings_3 := by
  refine ⟨f, fd, ["rule", "first", "size"], ?_, hg, F.kp, F.bindsN fun _ _ _ _ _ _ us hl => match us, hl with | [_, _, _], _ => rfl⟩
  refine F.ok sc_m_turnings_3 (fun vs H Q E h => h.1) (fun cdv A outer s H vs Q E hr h => body_ok (m := (mSeq m_turnings_3_s0 (mSeq m_turnings_3_s2 (mSeq m_turnings_3_s3 m_turnings_3_s7)))) (by decide) ?_ h)
  exact (sss_cons (ss_if (st_cmp (opM_eq (Room.u64 hr)) pu_eq (nomark _) (sv 2) se_int) (sss_one (ss_ret (se_lst (sa_cons (se_ptp sa_nil lenNil (by decide)) sa_nil) (lenCons lenNil) (by decide)))) sss_nil) (sss_cons (sset 3 sc_m_turnings_3.nd (se_lst sa_nil lenNil (by decide))) (sss_cons (ss_for pass_cx rfl (si_rng2 rfl g.b_range (sa_cons (sv 1) (sa_cons (se_callB crM_len pu_len rfl g.b_len bt_len (sa_cons (se_globN g.k_PARTS rfl) sa_nil)) sa_nil))) (sn 4 sc_m_turnings_3.nd) (sss_one (ss_for pass_cx rfl (si_seq (se_ix (Room.u1 hr) (fun _ _ => rfl) (se_globN g.k_VALUES rfl) (sv 4) pu_ix)) (sn 5 sc_m_turnings_3.nd) (sss_one (ss_if (st_cmp (opM_ne (Room.u64 hr)) pu_ne (nomark _) (sv 5) (se_ix (Room.u1 hr) (fun _ _ => rfl) (se_methN0 h_Rule_parts g.c_Rule g.m_Rule_parts hr (by decide) takes_cx (sv 0)) (sv 4) pu_ix)) (sss_one (sset 3 sc_m_turnings_3.nd (se_op opM_add pu_add (sv 3) (se_lc (fr := true) (own := [("row", 6)]) rfl sc_m_turnings_3.nd (si_seq (se_callN h_turnings_2 hr (by decide) rfl takes_cx (sa_cons (sv 0) (sa_cons (se_op opM_add pu_add (sv 4) se_int) (sa_cons (se_op opM_sub pu_sub (sv 2) se_int) sa_nil))) (lenCons (lenCons (lenCons lenNil))))) (blkOk_by rfl) (fun _ _ _ _ _ => (sn 6 sc_m_turnings_3.nd)) (fun _ _ _ _ _ => sts_nil) (fun _ _ _ _ _ => (se_op opM_addP pu_addP (se_ptp (sa_cons (se_tup (sa_cons (se_ix (Room.u1 hr) (fun _ _ => rfl) (se_globN g.k_PARTS rfl) (sv 4) pu_ix) (sa_cons (sv 5) sa_nil)) (lenCons (lenCons lenNil)) (by decide)) sa_nil) (lenCons lenNil) (by decide)) (sv 6))) (by decide))))) sss_nil))))) (sss_one (ss_ret (sv 3))))))
def m_turnings_4_s1 : MS := (mRet (mLst (mCons (mPtp mNil) mNil)))
def m_turnings_4_s0 : MS := (mIfS (mTest (mOp eqM (mVar 2) (mC (.int 0)))) m_turnings_4_s1 mNext)
def m_turnings_4_s2 : MS := (mAsg (mLst mNil) (tgName 3))
def m_turnings_4_s6 : MS := (mAsg (mOp addM (mVar 3) (mLc true [6] (mSrc (mCallF m_turnings_3 (mCons (mVar 0) (mCons (mOp addM (mVar 4) (mC (.int 1))) (mCons (mOp subM (mVar 2) (mC (.int 1))) mNil))))) (tgName 6) mTrue (mOp addPM (mPtp (mCons (mTup (mCons (mOp idxM (mC d_PARTS) (mVar 4)) (mCons (mVar 5) mNil))) mNil)) (mVar 6)))) (tgName 3))
def m_turnings_4_s5 : MS := (mIfS (mTest (mOp neM (mVar 5) (mOp idxM (mMeth "Rule" "parts" m_Rule_parts (mVar 0) mNil) (mVar 4)))) m_turnings_4_s6 mNext)
def m_turnings_4_s4 : MS := (mFor (mSrc (mOp idxM (mC d_VALUES) (mVar 4))) (tgName 5) m_turnings_4_s5)
def m_turnings_4_s3 : MS := (mFor (mRng2 (mCons (mVar 1) (mCons (mCallF lenM (mCons (mC d_PARTS) mNil)) mNil))) (tgName 4) m_turnings_4_s4)
def m_turnings_4_s7 : MS := (mRet (mVar 3))
def m_turnings_4 : MF := mFn 7 ((mSeq m_turnings_4_s0 (mSeq m_turnings_4_s2 (mSeq m_turnings_4_s3 m_turnings_4_s7))))
theorem sc_m_turnings_4 : FnScope ["rule", "first", "size", "found", "at", "value", "row"] ["rule", "first", "size"] (defScope s_turnings_4) := ⟨rfl, rfl, rfl, by decide +kernel, rfl, by decide +kernel, by decide +kernel⟩
theorem ok_turnings_4 {P : Program} {w : PySem.World} {K : PySem.W.Frag} {mg : Str → Option Value} {base : Heap} {f : Addr} {fd : FuncData} (g : Gs K mg) (h_Rule_parts : MN P w K mg base 1 1 "Rule" "parts" m_Rule_parts) (h_turnings_3 : FN P w K mg base 4 3 "turnings" m_turnings_3) (F : FunD K "turnings" "turnings" (defArgs s_turnings_4) (defBody s_turnings_4) (defScope s_turnings_4) [] [] f fd) (hg : mg "turnings" = some (.ref f)) : FN P w K mg base 5 3 "turnings" m_turnings_4 := by
  refine ⟨f, fd, ["rule", "first", "size"], ?_, hg, F.kp, F.bindsN fun _ _ _ _ _ _ us hl => match us, hl with | [_, _, _], _ => rfl⟩
  refine F.ok sc_m_turnings_4 (fun vs H Q E h => h.1) (fun cdv A outer s H vs Q E hr h => body_ok (m := (mSeq m_turnings_4_s0 (mSeq m_turnings_4_s2 (mSeq m_turnings_4_s3 m_turnings_4_s7)))) (by decide) ?_ h)
  exact (sss_cons (ss_if (st_cmp (opM_eq (Room.u64 hr)) pu_eq (nomark _) (sv 2) se_int) (sss_one (ss_ret (se_lst (sa_cons (se_ptp sa_nil lenNil (by decide)) sa_nil) (lenCons lenNil) (by decide)))) sss_nil) (sss_cons (sset 3 sc_m_turnings_4.nd (se_lst sa_nil lenNil (by decide))) (sss_cons (ss_for pass_cx rfl (si_rng2 rfl g.b_range (sa_cons (sv 1) (sa_cons (se_callB crM_len pu_len rfl g.b_len bt_len (sa_cons (se_globN g.k_PARTS rfl) sa_nil)) sa_nil))) (sn 4 sc_m_turnings_4.nd) (sss_one (ss_for pass_cx rfl (si_seq (se_ix (Room.u1 hr) (fun _ _ => rfl) (se_globN g.k_VALUES rfl) (sv 4) pu_ix)) (sn 5 sc_m_turnings_4.nd) (sss_one (ss_if (st_cmp (opM_ne (Room.u64 hr)) pu_ne (nomark _) (sv 5) (se_ix (Room.u1 hr) (fun _ _ => rfl) (se_methN0 h_Rule_parts g.c_Rule g.m_Rule_parts hr (by decide) takes_cx (sv 0)) (sv 4) pu_ix)) (sss_one (sset 3 sc_m_turnings_4.nd (se_op opM_add pu_add (sv 3) (se_lc (fr := true) (own := [("row", 6)]) rfl sc_m_turnings_4.nd (si_seq (se_callN h_turnings_3 hr (by decide) rfl takes_cx (sa_cons (sv 0) (sa_cons (se_op opM_add pu_add (sv 4) se_int) (sa_cons (se_op opM_sub pu_sub (sv 2) se_int) sa_nil))) (lenCons (lenCons (lenCons lenNil))))) (blkOk_by rfl) (fun _ _ _ _ _ => (sn 6 sc_m_turnings_4.nd)) (fun _ _ _ _ _ => sts_nil) (fun _ _ _ _ _ => (se_op opM_addP pu_addP (se_ptp (sa_cons (se_tup (sa_cons (se_ix (Room.u1 hr) (fun _ _ => rfl) (se_globN g.k_PARTS rfl) (sv 4) pu_ix) (sa_cons (sv 5) sa_nil)) (lenCons (lenCons lenNil)) (by decide)) sa_nil) (lenCons lenNil) (by decide)) (sv 6))) (by decide))))) sss_nil))))) (sss_one (ss_ret (sv 3))))))
def m_turnings_5_s1 : MS := (mRet (mLst (mCons (mPtp mNil) mNil)))
def m_turnings_5_s0 : MS := (mIfS (mTest (mOp eqM (mVar 2) (mC (.int 0)))) m_turnings_5_s1 mNext)
def m_turnings_5_s2 : MS := (mAsg (mLst mNil) (tgName 3))
def m_turnings_5_s6 : MS := (mAsg (mOp addM (mVar 3) (mLc true [6] (mSrc (mCallF m_turnings_4 (mCons (mVar 0) (mCons (mOp addM (mVar 4) (mC (.int 1))) (mCons (mOp subM (mVar 2) (mC (.int 1))) mNil))))) (tgName 6) mTrue (mOp addPM (mPtp (mCons (mTup (mCons (mOp idxM (mC d_PARTS) (mVar 4)) (mCons (mVar 5) mNil))) mNil)) (mVar 6)))) (tgName 3))
def m_turnings_5_s5 : MS := (mIfS (mTest (mOp neM (mVar 5) (mOp idxM (mMeth "Rule" "parts" m_Rule_parts (mVar 0) mNil) (mVar 4)))) m_turnings_5_s6 mNext)
def m_turnings_5_s4 : MS := (mFor (mSrc (mOp idxM (mC d_VALUES) (mVar 4))) (tgName 5) m_turnings_5_s5)
def m_turnings_5_s3 : MS := (mFor (mRng2 (mCons (mVar 1) (mCons (mCallF lenM (mCons (mC d_PARTS) mNil)) mNil))) (tgName 4) m_turnings_5_s4)
def m_turnings_5_s7 : MS := (mRet (mVar 3))
def m_turnings_5 : MF := mFn 7 ((mSeq m_turnings_5_s0 (mSeq m_turnings_5_s2 (mSeq m_turnings_5_s3 m_turnings_5_s7))))
theorem sc_m_turnings_5 : FnScope ["rule", "first", "size", "found", "at", "value", "row"] ["rule", "first", "size"] (defScope s_turnings_5) := ⟨rfl, rfl, rfl, by decide +kernel, rfl, by decide +kernel, by decide +kernel⟩
theorem ok_turnings_5 {P : Program} {w : PySem.World} {K : PySem.W.Frag} {mg : Str → Option Value} {base : Heap} {f : Addr} {fd : FuncData} (g : Gs K mg) (h_Rule_parts : MN P w K mg base 1 1 "Rule" "parts" m_Rule_parts) (h_turnings_4 : FN P w K mg base 5 3 "turnings" m_turnings_4) (F : FunD K "turnings" "turnings" (defArgs s_turnings_5) (defBody s_turnings_5) (defScope s_turnings_5) [] [] f fd) (hg : mg "turnings" = some (.ref f)) : FN P w K mg base 6 3 "turnings" m_turnings_5 := by
  refine ⟨f, fd, ["rule", "first", "size"], ?_, hg, F.kp, F.bindsN fun _ _ _ _ _ _ us hl => match us, hl with | [_, _, _], _ => rfl⟩
  refine F.ok sc_m_turnings_5 (fun vs H Q E h => h.1) (fun cdv A outer s H vs Q E hr h => body_ok (m := (mSeq m_turnings_5_s0 (mSeq m_turnings_5_s2 (mSeq m_turnings_5_s3 m_turnings_5_s7)))) (by decide) ?_ h)
  exact (sss_cons (ss_if (st_cmp (opM_eq (Room.u64 hr)) pu_eq (nomark _) (sv 2) se_int) (sss_one (ss_ret (se_lst (sa_cons (se_ptp sa_nil lenNil (by decide)) sa_nil) (lenCons lenNil) (by decide)))) sss_nil) (sss_cons (sset 3 sc_m_turnings_5.nd (se_lst sa_nil lenNil (by decide))) (sss_cons (ss_for pass_cx rfl (si_rng2 rfl g.b_range (sa_cons (sv 1) (sa_cons (se_callB crM_len pu_len rfl g.b_len bt_len (sa_cons (se_globN g.k_PARTS rfl) sa_nil)) sa_nil))) (sn 4 sc_m_turnings_5.nd) (sss_one (ss_for pass_cx rfl (si_seq (se_ix (Room.u1 hr) (fun _ _ => rfl) (se_globN g.k_VALUES rfl) (sv 4) pu_ix)) (sn 5 sc_m_turnings_5.nd) (sss_one (ss_if (st_cmp (opM_ne (Room.u64 hr)) pu_ne (nomark _) (sv 5) (se_ix (Room.u1 hr) (fun _ _ => rfl) (se_methN0 h_Rule_parts g.c_Rule g.m_Rule_parts hr (by decide) takes_cx (sv 0)) (sv 4) pu_ix)) (sss_one (sset 3 sc_m_turnings_5.nd (se_op opM_add pu_add (sv 3) (se_lc (fr := true) (own := [("row", 6)]) rfl sc_m_turnings_5.nd (si_seq (se_callN h_turnings_4 hr (by decide) rfl takes_cx (sa_cons (sv 0) (sa_cons (se_op opM_add pu_add (sv 4) se_int) (sa_cons (se_op opM_sub pu_sub (sv 2) se_int) sa_nil))) (lenCons (lenCons (lenCons lenNil))))) (blkOk_by rfl) (fun _ _ _ _ _ => (sn 6 sc_m_turnings_5.nd)) (fun _ _ _ _ _ => sts_nil) (fun _ _ _ _ _ => (se_op opM_addP pu_addP (se_ptp (sa_cons (se_tup (sa_cons (se_ix (Room.u1 hr) (fun _ _ => rfl) (se_globN g.k_PARTS rfl) (sv 4) pu_ix) (sa_cons (sv 5) sa_nil)) (lenCons (lenCons lenNil)) (by decide)) sa_nil) (lenCons lenNil) (by decide)) (sv 6))) (by decide))))) sss_nil))))) (sss_one (ss_ret (sv 3))))))
def m_fresh_s0 : MS := (mRet (mTup (mCons (mVar 0) (mCons (mVar 1) (mCons (mOp mulM (mTup (mCons (mTup (mCons (mVar 1) (mCons (mVar 1) (mCons (mC (.bl false)) mNil)))) mNil)) (mVar 2)) mNil)))))
def m_fresh : MF := mFn 3 (m_fresh_s0)
theorem sc_m_fresh : FnScope ["person", "hour", "days"] ["person", "hour", "days"] (defScope s_fresh) := ⟨rfl, rfl, rfl, by decide +kernel, rfl, by decide +kernel, by decide +kernel⟩
theorem ok_fresh {P : Program} {w : PySem.World} {K : PySem.W.Frag} {mg : Str → Option Value} {base : Heap} {f : Addr} {fd : FuncData} (g : Gs K mg) (F : FunD K "fresh" "fresh" (defArgs s_fresh) (defBody s_fresh) (defScope s_fresh) [] [] f fd) (hg : mg "fresh" = some (.ref f)) : FN P w K mg base 1 3 "fresh" m_fresh := by
  refine ⟨f, fd, ["person", "hour", "days"], ?_, hg, F.kp, F.bindsN fun _ _ _ _ _ _ us hl => match us, hl with | [_, _, _], _ => rfl⟩
  refine F.ok sc_m_fresh (fun vs H Q E h => h.1) (fun cdv A outer s H vs Q E hr h => body_ok (m := m_fresh_s0) (by decide) ?_ h)
  exact (sss_one (ss_ret (se_tup (sa_cons (sv 0) (sa_cons (sv 1) (sa_cons (se_op opM_mul pu_mul (se_tup (sa_cons (se_tup (sa_cons (sv 1) (sa_cons (sv 1) (sa_cons se_bl sa_nil))) (lenCons (lenCons (lenCons lenNil))) (by decide)) sa_nil) (lenCons lenNil) (by decide)) (sv 2)) sa_nil))) (lenCons (lenCons (lenCons lenNil))) (by decide))))
def m_begin_s0 : MS := (mAsg (mVar 0) (tgTup (tgCons (tgName 2) (tgCons (tgName 3) (tgCons (tgName 4) (tgCons (tgName 5) tgNil))))))
def m_begin_s1 : MS := (mAsg (mCallF tupM (mCons (mLc true [6, 7] (mSrc (mVar 4)) (tgTup (tgCons (tgName 6) (tgCons (tgName 7) tgNil))) mTrue (mCallF m_fresh (mCons (mVar 6) (mCons (mVar 7) (mCons (mVar 2) mNil))))) mNil)) (tgName 1))
def m_begin_s2 : MS := (mRet (mTup (mCons (mOp mulM (mTup (mCons (mC (.int 0)) mNil)) (mCallF lenM (mCons (mVar 5) mNil))) (mCons (mOp mulM (mTup (mCons (mC d_BLANK) mNil)) (mCallF lenM (mCons (mVar 5) mNil))) (mCons (mVar 1) mNil)))))
def m_begin : MF := mFn 8 ((mSeq m_begin_s0 (mSeq m_begin_s1 m_begin_s2)))
theorem sc_m_begin : FnScope ["world", "standing", "days", "hours", "series", "hands", "person", "hour"] ["world"] (defScope s_begin) := ⟨rfl, rfl, rfl, by decide +kernel, rfl, by decide +kernel, by decide +kernel⟩
theorem ok_begin {P : Program} {w : PySem.World} {K : PySem.W.Frag} {mg : Str → Option Value} {base : Heap} {f : Addr} {fd : FuncData} (g : Gs K mg) (h_fresh : FN P w K mg base 1 3 "fresh" m_fresh) (F : FunD K "begin" "begin" (defArgs s_begin) (defBody s_begin) (defScope s_begin) [] [] f fd) (hg : mg "begin" = some (.ref f)) : FN P w K mg base 2 1 "begin" m_begin := by
  refine ⟨f, fd, ["world"], ?_, hg, F.kp, F.bindsN fun _ _ _ _ _ _ us hl => match us, hl with | [_], _ => rfl⟩
  refine F.ok sc_m_begin (fun vs H Q E h => h.1) (fun cdv A outer s H vs Q E hr h => body_ok (m := (mSeq m_begin_s0 (mSeq m_begin_s1 m_begin_s2))) (by decide) ?_ h)
  exact (sss_cons (ss_asg (sv 0) (sg_tup rfl (sgs_cons (sn 2 sc_m_begin.nd) (sgs_cons (sn 3 sc_m_begin.nd) (sgs_cons (sn 4 sc_m_begin.nd) (sgs_cons (sn 5 sc_m_begin.nd) sgs_nil)))))) (sss_cons (sset 1 sc_m_begin.nd (se_callTy crM_tuple pu_tuple rfl g.b_tuple bt_tuple (sa_cons (se_lc (fr := true) (own := [("person", 6), ("hour", 7)]) rfl sc_m_begin.nd (si_seq (sv 4)) (blkOk_by rfl) (fun _ _ _ _ _ => (sg_tup rfl (sgs_cons (sn 6 sc_m_begin.nd) (sgs_cons (sn 7 sc_m_begin.nd) sgs_nil)))) (fun _ _ _ _ _ => sts_nil) (fun _ _ _ _ _ => (se_callN h_fresh hr (by decide) rfl takesNo (sa_cons (sv 6) (sa_cons (sv 7) (sa_cons (sv 2) sa_nil))) (lenCons (lenCons (lenCons lenNil))))) (by decide)) sa_nil))) (sss_one (ss_ret (se_tup (sa_cons (se_op opM_mul pu_mul (se_tup (sa_cons se_int sa_nil) (lenCons lenNil) (by decide)) (se_callB crM_len pu_len rfl g.b_len bt_len (sa_cons (sv 5) sa_nil))) (sa_cons (se_op opM_mul pu_mul (se_tup (sa_cons (se_globN g.k_BLANK rfl) sa_nil) (lenCons lenNil) (by decide)) (se_callB crM_len pu_len rfl g.b_len bt_len (sa_cons (sv 5) sa_nil))) (sa_cons (sv 1) sa_nil))) (lenCons (lenCons (lenCons lenNil))) (by decide))))))
def m_has_step_s1 : MS := (mRet (mC (.bl false)))
def m_has_step_s0 : MS := (mIfS (mNot (mTest (mCallF m_is_whole (mCons (mVar 2) (mCons (mC (.int 0)) (mCons (mOp subM (mCallF lenM (mCons (mOp idxM (mVar 0) (mC (.int 3))) mNil)) (mC (.int 1))) mNil)))))) m_has_step_s1 mNext)
def m_has_step_s2 : MS := (mRet (mOp ltM (mOp idxM (mOp idxM (mVar 1) (mC (.int 0))) (mVar 2)) (mCallF lenM (mCons (mOp idxM (mOp idxM (mOp idxM (mVar 0) (mC (.int 3))) (mVar 2)) (mC (.int 1))) mNil))))
def m_has_step : MF := mFn 3 ((mSeq m_has_step_s0 m_has_step_s2))
theorem sc_m_has_step : FnScope ["world", "state", "hand"] ["world", "state", "hand"] (defScope s_has_step) := ⟨rfl, rfl, rfl, by decide +kernel, rfl, by decide +kernel, by decide +kernel⟩
theorem ok_has_step {P : Program} {w : PySem.World} {K : PySem.W.Frag} {mg : Str → Option Value} {base : Heap} {f : Addr} {fd : FuncData} (g : Gs K mg) (h_is_whole : FN P w K mg base 1 3 "is_whole" m_is_whole) (F : FunD K "has_step" "has_step" (defArgs s_has_step) (defBody s_has_step) (defScope s_has_step) [] [] f fd) (hg : mg "has_step" = some (.ref f)) : FN P w K mg base 2 3 "has_step" m_has_step := by
  refine ⟨f, fd, ["world", "state", "hand"], ?_, hg, F.kp, F.bindsN fun _ _ _ _ _ _ us hl => match us, hl with | [_, _, _], _ => rfl⟩
  refine F.ok sc_m_has_step (fun vs H Q E h => h.1) (fun cdv A outer s H vs Q E hr h => body_ok (m := (mSeq m_has_step_s0 m_has_step_s2)) (by decide) ?_ h)
  exact (sss_cons (ss_if (st_not (st_val (se_callN h_is_whole hr (by decide) rfl takes_cx (sa_cons (sv 2) (sa_cons se_int (sa_cons (se_op opM_sub pu_sub (se_callB crM_len pu_len rfl g.b_len bt_len (sa_cons (se_ix (Room.u1 hr) (fun _ _ => rfl) (sv 0) se_int pu_ix) sa_nil)) se_int) sa_nil))) (lenCons (lenCons (lenCons lenNil)))))) (sss_one (ss_ret se_bl)) sss_nil) (sss_one (ss_ret (se_cmp (opM_int op_lt) pu_cmpI (nomark _) (se_ix (Room.u1 hr) (fun _ _ => rfl) (se_ix (Room.u1 hr) (fun _ _ => rfl) (sv 1) se_int pu_ix) (sv 2) pu_ix) (se_callB crM_len pu_len rfl g.b_len bt_len (sa_cons (se_ix (Room.u1 hr) (fun _ _ => rfl) (se_ix (Room.u1 hr) (fun _ _ => rfl) (se_ix (Room.u1 hr) (fun _ _ => rfl) (sv 0) se_int pu_ix) (sv 2) pu_ix) se_int pu_ix) sa_nil))))))
def m_hands_at_s1 : MS := (mRet (mLst (mCons (mOp idxM (mVar 3) (mC (.int 0))) mNil)))
def m_hands_at_s0 : MS := (mIfS (mAnd (mTest (mOp isnM (mVar 3) (mC .non))) (mTest (mOp inM (mVar 3) (mVar 2)))) m_hands_at_s1 mNext)
def m_hands_at_s2 : MS := (mRet (mLc true [4] (mRng (mCons (mCallF lenM (mCons (mOp idxM (mVar 0) (mC (.int 3))) mNil)) mNil)) (tgName 4) (mTest (mCallF m_has_step (mCons (mVar 0) (mCons (mVar 1) (mCons (mVar 4) mNil))))) (mVar 4)))
def m_hands_at : MF := mFn 5 ((mSeq m_hands_at_s0 m_hands_at_s2))
theorem sc_m_hands_at : FnScope ["world", "state", "joints", "last", "hand"] ["world", "state", "joints", "last"] (defScope s_hands_at) := ⟨rfl, rfl, rfl, by decide +kernel, rfl, by decide +kernel, by decide +kernel⟩
theorem ok_hands_at {P : Program} {w : PySem.World} {K : PySem.W.Frag} {mg : Str → Option Value} {base : Heap} {f : Addr} {fd : FuncData} (g : Gs K mg) (h_has_step : FN P w K mg base 2 3 "has_step" m_has_step) (F : FunD K "hands_at" "hands_at" (defArgs s_hands_at) (defBody s_hands_at) (defScope s_hands_at) [] [] f fd) (hg : mg "hands_at" = some (.ref f)) : FN P w K mg base 3 4 "hands_at" m_hands_at := by
  refine ⟨f, fd, ["world", "state", "joints", "last"], ?_, hg, F.kp, F.bindsN fun _ _ _ _ _ _ us hl => match us, hl with | [_, _, _, _], _ => rfl⟩
  refine F.ok sc_m_hands_at (fun vs H Q E h => h.1) (fun cdv A outer s H vs Q E hr h => body_ok (m := (mSeq m_hands_at_s0 m_hands_at_s2)) (by decide) ?_ h)
  exact (sss_cons (ss_if (st_w (sw_and (st_cmp opM_isn pu_isn (nomark _) (sv 3) se_non) (sw_and1 (st_cmp (opM_in (Room.u65 hr)) pu_in (by with_unfolding_all rfl) (sv 3) (sv 2))))) (sss_one (ss_ret (se_lst (sa_cons (se_ix (Room.u1 hr) (fun _ _ => rfl) (sv 3) se_int pu_ix) sa_nil) (lenCons lenNil) (by decide)))) sss_nil) (sss_one (ss_ret (se_lc (fr := true) (own := [("hand", 4)]) rfl sc_m_hands_at.nd (si_rng rfl g.b_range (sa_cons (se_callB crM_len pu_len rfl g.b_len bt_len (sa_cons (se_ix (Room.u1 hr) (fun _ _ => rfl) (sv 0) se_int pu_ix) sa_nil)) sa_nil)) (blkOk_by rfl) (fun _ _ _ _ _ => (sn 4 sc_m_hands_at.nd)) (fun _ _ _ _ _ => (sts_one (st_val (se_callN h_has_step hr (by decide) rfl takesNo (sa_cons (sv 0) (sa_cons (sv 1) (sa_cons (sv 4) sa_nil))) (lenCons (lenCons (lenCons lenNil))))))) (fun _ _ _ _ _ => (sv 4)) (by decide)))))
def m_is_room_free_s0 : MS := (mRet (mNotV (mCallF anyM (mCons (mLc true [4, 5] (mEnum (mCons (mVar 0) mNil)) (tgTup (tgCons (tgName 4) (tgCons (tgName 5) tgNil))) mTrue (mAndV (mOp neM (mVar 4) (mVar 1)) (mOp eqM (mOp idxM (mOp idxM (mOp idxM (mVar 5) (mC (.int 2))) (mVar 2)) (mC (.int 0))) (mVar 3)))) mNil))))
def m_is_room_free : MF := mFn 6 (m_is_room_free_s0)
theorem sc_m_is_room_free : FnScope ["standing", "series", "day", "hour", "at", "row"] ["standing", "series", "day", "hour"] (defScope s_is_room_free) := ⟨rfl, rfl, rfl, by decide +kernel, rfl, by decide +kernel, by decide +kernel⟩
theorem ok_is_room_free {P : Program} {w : PySem.World} {K : PySem.W.Frag} {mg : Str → Option Value} {base : Heap} {f : Addr} {fd : FuncData} (g : Gs K mg) (F : FunD K "is_room_free" "is_room_free" (defArgs s_is_room_free) (defBody s_is_room_free) (defScope s_is_room_free) [] [] f fd) (hg : mg "is_room_free" = some (.ref f)) : FN P w K mg base 1 4 "is_room_free" m_is_room_free := by
  refine ⟨f, fd, ["standing", "series", "day", "hour"], ?_, hg, F.kp, F.bindsN fun _ _ _ _ _ _ us hl => match us, hl with | [_, _, _, _], _ => rfl⟩
  refine F.ok sc_m_is_room_free (fun vs H Q E h => h.1) (fun cdv A outer s H vs Q E hr h => body_ok (m := m_is_room_free_s0) (by decide) ?_ h)
  exact (sss_one (ss_ret (se_not (se_callB (crM_any rfl) pu_any rfl g.b_any bt_any (sa_cons (se_lc (fr := true) (own := [("at", 4), ("row", 5)]) rfl sc_m_is_room_free.nd (si_enum rfl g.b_enumerate (sa_cons (sv 0) sa_nil)) (blkOk_by rfl) (fun _ _ _ _ _ => (sg_tup rfl (sgs_cons (sn 4 sc_m_is_room_free.nd) (sgs_cons (sn 5 sc_m_is_room_free.nd) sgs_nil)))) (fun _ _ _ _ _ => sts_nil) (fun _ _ _ _ _ => (se_and (se_cmp (opM_ne (Room.u64 hr)) pu_ne (nomark _) (sv 4) (sv 1)) (se_one (se_cmp (opM_eq (Room.u64 hr)) pu_eq (nomark _) (se_ix (Room.u1 hr) (fun _ _ => rfl) (se_ix (Room.u1 hr) (fun _ _ => rfl) (se_ix (Room.u1 hr) (fun _ _ => rfl) (sv 5) se_int pu_ix) (sv 2) pu_ix) se_int pu_ix) (sv 3))))) (by decide)) sa_nil)))))
def m_is_person_free_s0 : MS := (mAsg (mOp idxM (mOp idxM (mVar 0) (mVar 1)) (mC (.int 0))) (tgName 4))
def m_is_person_free_s3 : MS := (mRet (mC (.bl false)))
def m_is_person_free_s2 : MS := (mIfS (mAnd (mTest (mOp neM (mVar 5) (mVar 1))) (mAnd (mTest (mOp eqM (mOp idxM (mVar 6) (mC (.int 0))) (mVar 4))) (mTest (mOp eqM (mOp idxM (mOp idxM (mOp idxM (mVar 6) (mC (.int 2))) (mVar 2)) (mC (.int 1))) (mVar 3))))) m_is_person_free_s3 mNext)
def m_is_person_free_s1 : MS := (mFor (mEnum (mCons (mVar 0) mNil)) (tgTup (tgCons (tgName 5) (tgCons (tgName 6) tgNil))) m_is_person_free_s2)
def m_is_person_free_s4 : MS := (mRet (mC (.bl true)))
def m_is_person_free : MF := mFn 7 ((mSeq m_is_person_free_s0 (mSeq m_is_person_free_s1 m_is_person_free_s4)))
theorem sc_m_is_person_free : FnScope ["standing", "series", "day", "hour", "person", "at", "row"] ["standing", "series", "day", "hour"] (defScope s_is_person_free) := ⟨rfl, rfl, rfl, by decide +kernel, rfl, by decide +kernel, by decide +kernel⟩
theorem ok_is_person_free {P : Program} {w : PySem.World} {K : PySem.W.Frag} {mg : Str → Option Value} {base : Heap} {f : Addr} {fd : FuncData} (g : Gs K mg) (F : FunD K "is_person_free" "is_person_free" (defArgs s_is_person_free) (defBody s_is_person_free) (defScope s_is_person_free) [] [] f fd) (hg : mg "is_person_free" = some (.ref f)) : FN P w K mg base 1 4 "is_person_free" m_is_person_free := by
  refine ⟨f, fd, ["standing", "series", "day", "hour"], ?_, hg, F.kp, F.bindsN fun _ _ _ _ _ _ us hl => match us, hl with | [_, _, _, _], _ => rfl⟩
  refine F.ok sc_m_is_person_free (fun vs H Q E h => h.1) (fun cdv A outer s H vs Q E hr h => body_ok (m := (mSeq m_is_person_free_s0 (mSeq m_is_person_free_s1 m_is_person_free_s4))) (by decide) ?_ h)
  exact (sss_cons (sset 4 sc_m_is_person_free.nd (se_ix (Room.u1 hr) (fun _ _ => rfl) (se_ix (Room.u1 hr) (fun _ _ => rfl) (sv 0) (sv 1) pu_ix) se_int pu_ix)) (sss_cons (ss_for pass_cx rfl (si_enum rfl g.b_enumerate (sa_cons (sv 0) sa_nil)) (sg_tup rfl (sgs_cons (sn 5 sc_m_is_person_free.nd) (sgs_cons (sn 6 sc_m_is_person_free.nd) sgs_nil))) (sss_one (ss_if (st_w (sw_and (st_cmp (opM_ne (Room.u64 hr)) pu_ne (nomark _) (sv 5) (sv 1)) (sw_and (st_cmp (opM_eq (Room.u64 hr)) pu_eq (nomark _) (se_ix (Room.u1 hr) (fun _ _ => rfl) (sv 6) se_int pu_ix) (sv 4)) (sw_and1 (st_cmp (opM_eq (Room.u64 hr)) pu_eq (nomark _) (se_ix (Room.u1 hr) (fun _ _ => rfl) (se_ix (Room.u1 hr) (fun _ _ => rfl) (se_ix (Room.u1 hr) (fun _ _ => rfl) (sv 6) se_int pu_ix) (sv 2) pu_ix) se_int pu_ix) (sv 3)))))) (sss_one (ss_ret se_bl)) sss_nil))) (sss_one (ss_ret se_bl))))
def m_is_gap_s3 : MS := (mRet (mC (.bl false)))
def m_is_gap_s2 : MS := (mIfS (mOr (mNot (mTest (mCallF m_is_room_free (mCons (mVar 0) (mCons (mVar 1) (mCons (mVar 3) (mCons (mVar 2) mNil))))))) (mNot (mTest (mCallF m_is_person_free (mCons (mVar 0) (mCons (mVar 1) (mCons (mVar 3) (mCons (mVar 2) mNil)))))))) m_is_gap_s3 mNext)
def m_is_gap_s1 : MS := (mIfS (mTest (mOp isnM (mVar 4) (mC .non))) m_is_gap_s2 mNext)
def m_is_gap_s0 : MS := (mFor (mEnum (mCons (mOp idxM (mOp idxM (mVar 0) (mVar 1)) (mC (.int 2))) mNil)) (tgTup (tgCons (tgName 3) (tgCons (tgTup (tgCons (tgName 4) (tgCons (tgName 5) (tgCons (tgName 6) tgNil)))) tgNil))) m_is_gap_s1)
def m_is_gap_s4 : MS := (mRet (mC (.bl true)))
def m_is_gap : MF := mFn 7 ((mSeq m_is_gap_s0 m_is_gap_s4))
theorem sc_m_is_gap : FnScope ["standing", "series", "hour", "day", "room", "there", "single"] ["standing", "series", "hour"] (defScope s_is_gap) := ⟨rfl, rfl, rfl, by decide +kernel, rfl, by decide +kernel, by decide +kernel⟩
theorem ok_is_gap {P : Program} {w : PySem.World} {K : PySem.W.Frag} {mg : Str → Option Value} {base : Heap} {f : Addr} {fd : FuncData} (g : Gs K mg) (h_is_room_free : FN P w K mg base 1 4 "is_room_free" m_is_room_free) (h_is_person_free : FN P w K mg base 1 4 "is_person_free" m_is_person_free) (F : FunD K "is_gap" "is_gap" (defArgs s_is_gap) (defBody s_is_gap) (defScope s_is_gap) [] [] f fd) (hg : mg "is_gap" = some (.ref f)) : FN P w K mg base 2 3 "is_gap" m_is_gap := by
  refine ⟨f, fd, ["standing", "series", "hour"], ?_, hg, F.kp, F.bindsN fun _ _ _ _ _ _ us hl => match us, hl with | [_, _, _], _ => rfl⟩
  refine F.ok sc_m_is_gap (fun vs H Q E h => h.1) (fun cdv A outer s H vs Q E hr h => body_ok (m := (mSeq m_is_gap_s0 m_is_gap_s4)) (by decide) ?_ h)
  exact (sss_cons (ss_for pass_cx rfl (si_enum rfl g.b_enumerate (sa_cons (se_ix (Room.u1 hr) (fun _ _ => rfl) (se_ix (Room.u1 hr) (fun _ _ => rfl) (sv 0) (sv 1) pu_ix) se_int pu_ix) sa_nil)) (sg_tup rfl (sgs_cons (sn 3 sc_m_is_gap.nd) (sgs_cons (sg_tup rfl (sgs_cons (sn 4 sc_m_is_gap.nd) (sgs_cons (sn 5 sc_m_is_gap.nd) (sgs_cons (sn 6 sc_m_is_gap.nd) sgs_nil)))) sgs_nil))) (sss_one (ss_if (st_cmp opM_isn pu_isn (nomark _) (sv 4) se_non) (sss_one (ss_if (st_w (sw_or (st_not (st_val (se_callN h_is_room_free hr (by decide) rfl takes_cx (sa_cons (sv 0) (sa_cons (sv 1) (sa_cons (sv 3) (sa_cons (sv 2) sa_nil)))) (lenCons (lenCons (lenCons (lenCons lenNil))))))) (sw_or1 (st_not (st_val (se_callN h_is_person_free hr (by decide) rfl takes_cx (sa_cons (sv 0) (sa_cons (sv 1) (sa_cons (sv 3) (sa_cons (sv 2) sa_nil)))) (lenCons (lenCons (lenCons (lenCons lenNil)))))))))) (sss_one (ss_ret se_bl)) sss_nil)) sss_nil))) (sss_one (ss_ret se_bl)))
def m_person_hours_s0 : MS := (mRet (mCallF tupM (mCons (mLc true [2, 3, 4] (mSrc (mOp idxM (mOp idxM (mVar 0) (mVar 1)) (mC (.int 2)))) (tgTup (tgCons (tgName 2) (tgCons (tgName 3) (tgCons (tgName 4) tgNil)))) mTrue (mVar 3)) mNil)))
def m_person_hours : MF := mFn 5 (m_person_hours_s0)
theorem sc_m_person_hours : FnScope ["standing", "series", "room", "there", "single"] ["standing", "series"] (defScope s_person_hours) := ⟨rfl, rfl, rfl, by decide +kernel, rfl, by decide +kernel, by decide +kernel⟩
theorem ok_person_hours {P : Program} {w : PySem.World} {K : PySem.W.Frag} {mg : Str → Option Value} {base : Heap} {f : Addr} {fd : FuncData} (g : Gs K mg) (F : FunD K "person_hours" "person_hours" (defArgs s_person_hours) (defBody s_person_hours) (defScope s_person_hours) [] [] f fd) (hg : mg "person_hours" = some (.ref f)) : FN P w K mg base 1 2 "person_hours" m_person_hours := by
  refine ⟨f, fd, ["standing", "series"], ?_, hg, F.kp, F.bindsN fun _ _ _ _ _ _ us hl => match us, hl with | [_, _], _ => rfl⟩
  refine F.ok sc_m_person_hours (fun vs H Q E h => h.1) (fun cdv A outer s H vs Q E hr h => body_ok (m := m_person_hours_s0) (by decide) ?_ h)
  exact (sss_one (ss_ret (se_callTy crM_tuple pu_tuple rfl g.b_tuple bt_tuple (sa_cons (se_lc (fr := true) (own := [("room", 2), ("there", 3), ("single", 4)]) rfl sc_m_person_hours.nd (si_seq (se_ix (Room.u1 hr) (fun _ _ => rfl) (se_ix (Room.u1 hr) (fun _ _ => rfl) (sv 0) (sv 1) pu_ix) se_int pu_ix)) (blkOk_by rfl) (fun _ _ _ _ _ => (sg_tup rfl (sgs_cons (sn 2 sc_m_person_hours.nd) (sgs_cons (sn 3 sc_m_person_hours.nd) (sgs_cons (sn 4 sc_m_person_hours.nd) sgs_nil))))) (fun _ _ _ _ _ => sts_nil) (fun _ _ _ _ _ => (sv 3)) (by decide)) sa_nil))))
def m_find_step_s0 : MS := (mAsg (mCallF m_is_gap (mCons (mVar 0) (mCons (mVar 1) (mCons (mVar 3) mNil)))) (tgName 4))
def m_find_step_s1 : MS := (mRet (mTup (mCons (mVar 4) (mCons (mTup (mCons (mVar 4) (mCons (mCallF m_person_hours (mCons (mVar 0) (mCons (mVar 1) mNil))) (mCons (mOp idxM (mVar 2) (mC (.int 2))) mNil)))) (mCons (mVar 0) mNil)))))
def m_find_step : MF := mFn 5 ((mSeq m_find_step_s0 m_find_step_s1))
theorem sc_m_find_step : FnScope ["standing", "series", "memory", "hour", "told"] ["standing", "series", "memory", "hour"] (defScope s_find_step) := ⟨rfl, rfl, rfl, by decide +kernel, rfl, by decide +kernel, by decide +kernel⟩
theorem ok_find_step {P : Program} {w : PySem.World} {K : PySem.W.Frag} {mg : Str → Option Value} {base : Heap} {f : Addr} {fd : FuncData} (g : Gs K mg) (h_is_gap : FN P w K mg base 2 3 "is_gap" m_is_gap) (h_person_hours : FN P w K mg base 1 2 "person_hours" m_person_hours) (F : FunD K "find_step" "find_step" (defArgs s_find_step) (defBody s_find_step) (defScope s_find_step) [] [] f fd) (hg : mg "find_step" = some (.ref f)) : FN P w K mg base 3 4 "find_step" m_find_step := by
  refine ⟨f, fd, ["standing", "series", "memory", "hour"], ?_, hg, F.kp, F.bindsN fun _ _ _ _ _ _ us hl => match us, hl with | [_, _, _, _], _ => rfl⟩
  refine F.ok sc_m_find_step (fun vs H Q E h => h.1) (fun cdv A outer s H vs Q E hr h => body_ok (m := (mSeq m_find_step_s0 m_find_step_s1)) (by decide) ?_ h)
  exact (sss_cons (sset 4 sc_m_find_step.nd (se_callN h_is_gap hr (by decide) rfl takes_cx (sa_cons (sv 0) (sa_cons (sv 1) (sa_cons (sv 3) sa_nil))) (lenCons (lenCons (lenCons lenNil))))) (sss_one (ss_ret (se_tup (sa_cons (sv 4) (sa_cons (se_tup (sa_cons (sv 4) (sa_cons (se_callN h_person_hours hr (by decide) rfl takes_cx (sa_cons (sv 0) (sa_cons (sv 1) sa_nil)) (lenCons (lenCons lenNil))) (sa_cons (se_ix (Room.u1 hr) (fun _ _ => rfl) (sv 2) se_int pu_ix) sa_nil))) (lenCons (lenCons (lenCons lenNil))) (by decide)) (sa_cons (sv 0) sa_nil))) (lenCons (lenCons (lenCons lenNil))) (by decide)))))
def m_tell_step_s0 : MS := (mAsg (mCallF m_person_hours (mCons (mVar 1) (mCons (mVar 2) mNil))) (tgName 4))
def m_tell_step_s2 : MS := (mAsg (mOp idxM (mVar 3) (mC (.int 1))) (tgName 4))
def m_tell_step_s1 : MS := (mIfS (mAnd (mTest (mOp eqM (mFld "Rule" "telling" (mVar 0)) (mC (.str "seen")))) (mTest (mOp isnM (mOp idxM (mVar 3) (mC (.int 1))) (mC .non)))) m_tell_step_s2 mNext)
def m_tell_step_s3 : MS := (mRet (mTup (mCons (mVar 4) (mCons (mTup (mCons (mOp idxM (mVar 3) (mC (.int 0))) (mCons (mVar 4) (mCons (mOp idxM (mVar 3) (mC (.int 2))) mNil)))) (mCons (mVar 1) mNil)))))
def m_tell_step : MF := mFn 5 ((mSeq m_tell_step_s0 (mSeq m_tell_step_s1 m_tell_step_s3)))
theorem sc_m_tell_step : FnScope ["rule", "standing", "series", "memory", "told"] ["rule", "standing", "series", "memory"] (defScope s_tell_step) := ⟨rfl, rfl, rfl, by decide +kernel, rfl, by decide +kernel, by decide +kernel⟩
theorem ok_tell_step {P : Program} {w : PySem.World} {K : PySem.W.Frag} {mg : Str → Option Value} {base : Heap} {f : Addr} {fd : FuncData} (g : Gs K mg) (h_person_hours : FN P w K mg base 1 2 "person_hours" m_person_hours) (F : FunD K "tell_step" "tell_step" (defArgs s_tell_step) (defBody s_tell_step) (defScope s_tell_step) [] [] f fd) (hg : mg "tell_step" = some (.ref f)) : FN P w K mg base 2 4 "tell_step" m_tell_step := by
  refine ⟨f, fd, ["rule", "standing", "series", "memory"], ?_, hg, F.kp, F.bindsN fun _ _ _ _ _ _ us hl => match us, hl with | [_, _, _, _], _ => rfl⟩
  refine F.ok sc_m_tell_step (fun vs H Q E h => h.1) (fun cdv A outer s H vs Q E hr h => body_ok (m := (mSeq m_tell_step_s0 (mSeq m_tell_step_s1 m_tell_step_s3))) (by decide) ?_ h)
  exact (sss_cons (sset 4 sc_m_tell_step.nd (se_callN h_person_hours hr (by decide) rfl takes_cx (sa_cons (sv 1) (sa_cons (sv 2) sa_nil)) (lenCons (lenCons lenNil)))) (sss_cons (ss_if (st_w (sw_and (st_cmp (opM_eq (Room.u64 hr)) pu_eq (nomark _) (se_fld g.c_Rule g.n_Rule_telling (sv 0)) se_str) (sw_and1 (st_cmp opM_isn pu_isn (nomark _) (se_ix (Room.u1 hr) (fun _ _ => rfl) (sv 3) se_int pu_ix) se_non)))) (sss_one (sset 4 sc_m_tell_step.nd (se_ix (Room.u1 hr) (fun _ _ => rfl) (sv 3) se_int pu_ix))) sss_nil) (sss_one (ss_ret (se_tup (sa_cons (sv 4) (sa_cons (se_tup (sa_cons (se_ix (Room.u1 hr) (fun _ _ => rfl) (sv 3) se_int pu_ix) (sa_cons (sv 4) (sa_cons (se_ix (Room.u1 hr) (fun _ _ => rfl) (sv 3) se_int pu_ix) sa_nil))) (lenCons (lenCons (lenCons lenNil))) (by decide)) (sa_cons (sv 1) sa_nil))) (lenCons (lenCons (lenCons lenNil))) (by decide))))))
def m_room_day_s0 : MS := (mAsg (mVar 3) (tgTup (tgCons (tgName 5) (tgCons (tgName 6) (tgCons (tgName 7) tgNil)))))
def m_room_day_s2 : MS := (mRet (mVar 3))
def m_room_day_s1 : MS := (mIfS (mTest (mOp isM (mVar 5) (mC .non))) m_room_day_s2 mNext)
def m_room_day_s4 : MS := (mRet (mVar 3))
def m_room_day_s3 : MS := (mIfS (mAnd (mTest (mVar 7)) (mTest (mOp eqM (mFld "Rule" "singles" (mVar 0)) (mC (.str "keep"))))) m_room_day_s4 mNext)
def m_room_day_s6 : MS := (mRet (mTup (mCons (mOp modM (mOp subM (mOp addM (mVar 5) (mVar 4)) (mOp idxM (mVar 2) (mC (.int 1)))) (mVar 1)) (mCons (mVar 6) (mCons (mC (.bl true)) mNil)))))
def m_room_day_s5 : MS := (mIfS (mAnd (mTest (mVar 7)) (mTest (mOp eqM (mFld "Rule" "singles" (mVar 0)) (mC (.str "move"))))) m_room_day_s6 mNext)
def m_room_day_s7 : MS := (mRet (mTup (mCons (mVar 4) (mCons (mVar 6) (mCons (mC (.bl false)) mNil)))))
def m_room_day : MF := mFn 8 ((mSeq m_room_day_s0 (mSeq m_room_day_s1 (mSeq m_room_day_s3 (mSeq m_room_day_s5 m_room_day_s7)))))
theorem sc_m_room_day : FnScope ["rule", "hours", "row", "day", "hour", "room", "there", "single"] ["rule", "hours", "row", "day", "hour"] (defScope s_room_day) := ⟨rfl, rfl, rfl, by decide +kernel, rfl, by decide +kernel, by decide +kernel⟩
theorem ok_room_day {P : Program} {w : PySem.World} {K : PySem.W.Frag} {mg : Str → Option Value} {base : Heap} {f : Addr} {fd : FuncData} (g : Gs K mg) (F : FunD K "room_day" "room_day" (defArgs s_room_day) (defBody s_room_day) (defScope s_room_day) [] [] f fd) (hg : mg "room_day" = some (.ref f)) : FN P w K mg base 1 5 "room_day" m_room_day := by
  refine ⟨f, fd, ["rule", "hours", "row", "day", "hour"], ?_, hg, F.kp, F.bindsN fun _ _ _ _ _ _ us hl => match us, hl with | [_, _, _, _, _], _ => rfl⟩
  refine F.ok sc_m_room_day (fun vs H Q E h => h.1) (fun cdv A outer s H vs Q E hr h => body_ok (m := (mSeq m_room_day_s0 (mSeq m_room_day_s1 (mSeq m_room_day_s3 (mSeq m_room_day_s5 m_room_day_s7))))) (by decide) ?_ h)
  exact (sss_cons (ss_asg (sv 3) (sg_tup rfl (sgs_cons (sn 5 sc_m_room_day.nd) (sgs_cons (sn 6 sc_m_room_day.nd) (sgs_cons (sn 7 sc_m_room_day.nd) sgs_nil))))) (sss_cons (ss_if (st_cmp opM_is pu_is (nomark _) (sv 5) se_non) (sss_one (ss_ret (sv 3))) sss_nil) (sss_cons (ss_if (st_w (sw_and (st_val (sv 7)) (sw_and1 (st_cmp (opM_eq (Room.u64 hr)) pu_eq (nomark _) (se_fld g.c_Rule g.n_Rule_singles (sv 0)) se_str)))) (sss_one (ss_ret (sv 3))) sss_nil) (sss_cons (ss_if (st_w (sw_and (st_val (sv 7)) (sw_and1 (st_cmp (opM_eq (Room.u64 hr)) pu_eq (nomark _) (se_fld g.c_Rule g.n_Rule_singles (sv 0)) se_str)))) (sss_one (ss_ret (se_tup (sa_cons (se_op opM_mod pu_mod (se_op opM_sub pu_sub (se_op opM_add pu_add (sv 5) (sv 4)) (se_ix (Room.u1 hr) (fun _ _ => rfl) (sv 2) se_int pu_ix)) (sv 1)) (sa_cons (sv 6) (sa_cons se_bl sa_nil))) (lenCons (lenCons (lenCons lenNil))) (by decide)))) sss_nil) (sss_one (ss_ret (se_tup (sa_cons (sv 4) (sa_cons (sv 6) (sa_cons se_bl sa_nil))) (lenCons (lenCons (lenCons lenNil))) (by decide))))))))
def m_with_series_s0 : MS := (mRet (mOp addM (mOp addM (mSlice (mVar 0) moNone (moSome (mVar 1))) (mTup (mCons (mTup (mCons (mOp idxM (mOp idxM (mVar 0) (mVar 1)) (mC (.int 0))) (mCons (mVar 2) (mCons (mVar 3) mNil)))) mNil))) (mSlice (mVar 0) (moSome (mOp addM (mVar 1) (mC (.int 1)))) moNone)))
def m_with_series : MF := mFn 4 (m_with_series_s0)
theorem sc_m_with_series : FnScope ["standing", "series", "base", "days"] ["standing", "series", "base", "days"] (defScope s_with_series) := ⟨rfl, rfl, rfl, by decide +kernel, rfl, by decide +kernel, by decide +kernel⟩
theorem ok_with_series {P : Program} {w : PySem.World} {K : PySem.W.Frag} {mg : Str → Option Value} {base : Heap} {f : Addr} {fd : FuncData} (g : Gs K mg) (F : FunD K "with_series" "with_series" (defArgs s_with_series) (defBody s_with_series) (defScope s_with_series) [] [] f fd) (hg : mg "with_series" = some (.ref f)) : FN P w K mg base 1 4 "with_series" m_with_series := by
  refine ⟨f, fd, ["standing", "series", "base", "days"], ?_, hg, F.kp, F.bindsN fun _ _ _ _ _ _ us hl => match us, hl with | [_, _, _, _], _ => rfl⟩
  refine F.ok sc_m_with_series (fun vs H Q E h => h.1) (fun cdv A outer s H vs Q E hr h => body_ok (m := m_with_series_s0) (by decide) ?_ h)
  exact (sss_one (ss_ret (se_op opM_add pu_add (se_op opM_add pu_add (se_slice (sv 0) so_none (so_some (sv 1))) (se_tup (sa_cons (se_tup (sa_cons (se_ix (Room.u1 hr) (fun _ _ => rfl) (se_ix (Room.u1 hr) (fun _ _ => rfl) (sv 0) (sv 1) pu_ix) se_int pu_ix) (sa_cons (sv 2) (sa_cons (sv 3) sa_nil))) (lenCons (lenCons (lenCons lenNil))) (by decide)) sa_nil) (lenCons lenNil) (by decide))) (se_slice (sv 0) (so_some (se_op opM_add pu_add (sv 1) se_int)) so_none))))
def m_room_set_s0 : MS := (mAsg (mOp idxM (mVar 2) (mVar 3)) (tgName 5))
def m_room_set_s1 : MS := (mAsg (mCallF tupM (mCons (mLc true [8] (mSrc (mOp idxM (mVar 5) (mC (.int 2)))) (tgName 8) mTrue (mCallF m_room_day (mCons (mVar 0) (mCons (mVar 1) (mCons (mVar 5) (mCons (mVar 8) (mCons (mVar 4) mNil))))))) mNil)) (tgName 6))
def m_room_set_s5 : MS := (mRet (mC .non))
def m_room_set_s4 : MS := (mIfS (mAnd (mTest (mOp neM (mOp idxM (mVar 9) (mC (.int 0))) (mOp idxM (mVar 10) (mC (.int 0))))) (mNot (mTest (mCallF m_is_room_free (mCons (mVar 2) (mCons (mVar 3) (mCons (mVar 7) (mCons (mOp idxM (mVar 10) (mC (.int 0))) mNil)))))))) m_room_set_s5 mNext)
def m_room_set_s3 : MS := (mFor (mEzip (mCons (mOp idxM (mVar 5) (mC (.int 2))) (mCons (mVar 6) mNil))) (tgTup (tgCons (tgName 7) (tgCons (tgTup (tgCons (tgName 9) (tgCons (tgName 10) tgNil))) tgNil))) m_room_set_s4)
def m_room_set_s2 : MS := (mIfS (mTest (mOp neM (mFld "Rule" "checking" (mVar 0)) (mC (.str "none")))) m_room_set_s3 mNext)
def m_room_set_s6 : MS := (mRet (mCallF m_with_series (mCons (mVar 2) (mCons (mVar 3) (mCons (mVar 4) (mCons (mVar 6) mNil))))))
def m_room_set : MF := mFn 11 ((mSeq m_room_set_s0 (mSeq m_room_set_s1 (mSeq m_room_set_s2 m_room_set_s6))))
theorem sc_m_room_set : FnScope ["rule", "hours", "standing", "series", "hour", "row", "days", "at", "day", "before", "after"] ["rule", "hours", "standing", "series", "hour"] (defScope s_room_set) := ⟨rfl, rfl, rfl, by decide +kernel, rfl, by decide +kernel, by decide +kernel⟩
theorem ok_room_set {P : Program} {w : PySem.World} {K : PySem.W.Frag} {mg : Str → Option Value} {base : Heap} {f : Addr} {fd : FuncData} (g : Gs K mg) (h_room_day : FN P w K mg base 1 5 "room_day" m_room_day) (h_is_room_free : FN P w K mg base 1 4 "is_room_free" m_is_room_free) (h_with_series : FN P w K mg base 1 4 "with_series" m_with_series) (F : FunD K "room_set" "room_set" (defArgs s_room_set) (defBody s_room_set) (defScope s_room_set) [] [] f fd) (hg : mg "room_set" = some (.ref f)) : FN P w K mg base 2 5 "room_set" m_room_set := by
  refine ⟨f, fd, ["rule", "hours", "standing", "series", "hour"], ?_, hg, F.kp, F.bindsN fun _ _ _ _ _ _ us hl => match us, hl with | [_, _, _, _, _], _ => rfl⟩
  refine F.ok sc_m_room_set (fun vs H Q E h => h.1) (fun cdv A outer s H vs Q E hr h => body_ok (m := (mSeq m_room_set_s0 (mSeq m_room_set_s1 (mSeq m_room_set_s2 m_room_set_s6)))) (by decide) ?_ h)
  exact (sss_cons (sset 5 sc_m_room_set.nd (se_ix (Room.u1 hr) (fun _ _ => rfl) (sv 2) (sv 3) pu_ix)) (sss_cons (sset 6 sc_m_room_set.nd (se_callTy crM_tuple pu_tuple rfl g.b_tuple bt_tuple (sa_cons (se_lc (fr := true) (own := [("day", 8)]) rfl sc_m_room_set.nd (si_seq (se_ix (Room.u1 hr) (fun _ _ => rfl) (sv 5) se_int pu_ix)) (blkOk_by rfl) (fun _ _ _ _ _ => (sn 8 sc_m_room_set.nd)) (fun _ _ _ _ _ => sts_nil) (fun _ _ _ _ _ => (se_callN h_room_day hr (by decide) rfl takesNo (sa_cons (sv 0) (sa_cons (sv 1) (sa_cons (sv 5) (sa_cons (sv 8) (sa_cons (sv 4) sa_nil))))) (lenCons (lenCons (lenCons (lenCons (lenCons lenNil))))))) (by decide)) sa_nil))) (sss_cons (ss_if (st_cmp (opM_ne (Room.u64 hr)) pu_ne (nomark _) (se_fld g.c_Rule g.n_Rule_checking (sv 0)) se_str) (sss_one (ss_for pass_cx rfl (si_ezip rfl g.b_enumerate rfl g.b_zip (sa_cons (se_ix (Room.u1 hr) (fun _ _ => rfl) (sv 5) se_int pu_ix) (sa_cons (sv 6) sa_nil))) (sg_tup rfl (sgs_cons (sn 7 sc_m_room_set.nd) (sgs_cons (sg_tup rfl (sgs_cons (sn 9 sc_m_room_set.nd) (sgs_cons (sn 10 sc_m_room_set.nd) sgs_nil))) sgs_nil))) (sss_one (ss_if (st_w (sw_and (st_cmp (opM_ne (Room.u64 hr)) pu_ne (nomark _) (se_ix (Room.u1 hr) (fun _ _ => rfl) (sv 9) se_int pu_ix) (se_ix (Room.u1 hr) (fun _ _ => rfl) (sv 10) se_int pu_ix)) (sw_and1 (st_not (st_val (se_callN h_is_room_free hr (by decide) rfl takes_cx (sa_cons (sv 2) (sa_cons (sv 3) (sa_cons (sv 7) (sa_cons (se_ix (Room.u1 hr) (fun _ _ => rfl) (sv 10) se_int pu_ix) sa_nil)))) (lenCons (lenCons (lenCons (lenCons lenNil)))))))))) (sss_one (ss_ret se_non)) sss_nil)))) sss_nil) (sss_one (ss_ret (se_callN h_with_series hr (by decide) rfl takes_cx (sa_cons (sv 2) (sa_cons (sv 3) (sa_cons (sv 4) (sa_cons (sv 6) sa_nil)))) (lenCons (lenCons (lenCons (lenCons lenNil))))))))))
def m_room_step_s0 : MS := (mAsg (mIf (mTest (mOp isM (mOp idxM (mVar 4) (mC (.int 0))) (mC (.bl false)))) (mC .non) (mCallF m_room_set (mCons (mVar 0) (mCons (mVar 1) (mCons (mVar 2) (mCons (mVar 3) (mCons (mVar 5) mNil))))))) (tgName 6))
def m_room_step_s2 : MS := (mRet (mTup (mCons (mC (.str "refused")) (mCons (mVar 4) (mCons (mVar 2) mNil)))))
def m_room_step_s1 : MS := (mIfS (mTest (mOp isM (mVar 6) (mC .non))) m_room_step_s2 mNext)
def m_room_step_s3 : MS := (mRet (mTup (mCons (mC (.str "done")) (mCons (mTup (mCons (mOp idxM (mVar 4) (mC (.int 0))) (mCons (mOp idxM (mVar 4) (mC (.int 1))) (mCons (mOp idxM (mVar 2) (mVar 3)) mNil)))) (mCons (mVar 6) mNil)))))
def m_room_step : MF := mFn 7 ((mSeq m_room_step_s0 (mSeq m_room_step_s1 m_room_step_s3)))
theorem sc_m_room_step : FnScope ["rule", "hours", "standing", "series", "memory", "hour", "after"] ["rule", "hours", "standing", "series", "memory", "hour"] (defScope s_room_step) := ⟨rfl, rfl, rfl, by decide +kernel, rfl, by decide +kernel, by decide +kernel⟩
theorem ok_room_step {P : Program} {w : PySem.World} {K : PySem.W.Frag} {mg : Str → Option Value} {base : Heap} {f : Addr} {fd : FuncData} (g : Gs K mg) (h_room_set : FN P w K mg base 2 5 "room_set" m_room_set) (F : FunD K "room_step" "room_step" (defArgs s_room_step) (defBody s_room_step) (defScope s_room_step) [] [] f fd) (hg : mg "room_step" = some (.ref f)) : FN P w K mg base 3 6 "room_step" m_room_step := by
  refine ⟨f, fd, ["rule", "hours", "standing", "series", "memory", "hour"], ?_, hg, F.kp, F.bindsN fun _ _ _ _ _ _ us hl => match us, hl with | [_, _, _, _, _, _], _ => rfl⟩
  refine F.ok sc_m_room_step (fun vs H Q E h => h.1) (fun cdv A outer s H vs Q E hr h => body_ok (m := (mSeq m_room_step_s0 (mSeq m_room_step_s1 m_room_step_s3))) (by decide) ?_ h)
  exact (sss_cons (sset 6 sc_m_room_step.nd (se_if (st_cmp opM_is pu_is (nomark _) (se_ix (Room.u1 hr) (fun _ _ => rfl) (sv 4) se_int pu_ix) se_bl) se_non (se_callN h_room_set hr (by decide) rfl takes_cx (sa_cons (sv 0) (sa_cons (sv 1) (sa_cons (sv 2) (sa_cons (sv 3) (sa_cons (sv 5) sa_nil))))) (lenCons (lenCons (lenCons (lenCons (lenCons lenNil)))))))) (sss_cons (ss_if (st_cmp opM_is pu_is (nomark _) (sv 6) se_non) (sss_one (ss_ret (se_tup (sa_cons se_str (sa_cons (sv 4) (sa_cons (sv 2) sa_nil))) (lenCons (lenCons (lenCons lenNil))) (by decide)))) sss_nil) (sss_one (ss_ret (se_tup (sa_cons se_str (sa_cons (se_tup (sa_cons (se_ix (Room.u1 hr) (fun _ _ => rfl) (sv 4) se_int pu_ix) (sa_cons (se_ix (Room.u1 hr) (fun _ _ => rfl) (sv 4) se_int pu_ix) (sa_cons (se_ix (Room.u1 hr) (fun _ _ => rfl) (sv 2) (sv 3) pu_ix) sa_nil))) (lenCons (lenCons (lenCons lenNil))) (by decide)) (sa_cons (sv 6) sa_nil))) (lenCons (lenCons (lenCons lenNil))) (by decide))))))
def m_person_set_s0 : MS := (mAsg (mOp idxM (mVar 1) (mVar 2)) (tgName 3))
def m_person_set_s1 : MS := (mAsg (mCallF tupM (mCons (mLc true [8, 9, 10] (mSrc (mOp idxM (mVar 3) (mC (.int 2)))) (tgTup (tgCons (tgName 8) (tgCons (tgName 9) (tgCons (tgName 10) tgNil)))) mTrue (mTup (mCons (mVar 8) (mCons (mVar 8) (mCons (mVar 10) mNil))))) mNil)) (tgName 4))
def m_person_set_s5 : MS := (mRet (mC .non))
def m_person_set_s4 : MS := (mIfS (mAnd (mTest (mOp neM (mOp idxM (mVar 6) (mC (.int 1))) (mOp idxM (mVar 7) (mC (.int 1))))) (mNot (mTest (mCallF m_is_person_free (mCons (mVar 1) (mCons (mVar 2) (mCons (mVar 5) (mCons (mOp idxM (mVar 7) (mC (.int 1))) mNil)))))))) m_person_set_s5 mNext)
def m_person_set_s3 : MS := (mFor (mEzip (mCons (mOp idxM (mVar 3) (mC (.int 2))) (mCons (mVar 4) mNil))) (tgTup (tgCons (tgName 5) (tgCons (tgTup (tgCons (tgName 6) (tgCons (tgName 7) tgNil))) tgNil))) m_person_set_s4)
def m_person_set_s2 : MS := (mIfS (mTest (mOp eqM (mFld "Rule" "checking" (mVar 0)) (mC (.str "both")))) m_person_set_s3 mNext)
def m_person_set_s6 : MS := (mRet (mCallF m_with_series (mCons (mVar 1) (mCons (mVar 2) (mCons (mOp idxM (mVar 3) (mC (.int 1))) (mCons (mVar 4) mNil))))))
def m_person_set : MF := mFn 11 ((mSeq m_person_set_s0 (mSeq m_person_set_s1 (mSeq m_person_set_s2 m_person_set_s6))))
theorem sc_m_person_set : FnScope ["rule", "standing", "series", "row", "days", "at", "before", "after", "room", "there", "single"] ["rule", "standing", "series"] (defScope s_person_set) := ⟨rfl, rfl, rfl, by decide +kernel, rfl, by decide +kernel, by decide +kernel⟩
theorem ok_person_set {P : Program} {w : PySem.World} {K : PySem.W.Frag} {mg : Str → Option Value} {base : Heap} {f : Addr} {fd : FuncData} (g : Gs K mg) (h_is_person_free : FN P w K mg base 1 4 "is_person_free" m_is_person_free) (h_with_series : FN P w K mg base 1 4 "with_series" m_with_series) (F : FunD K "person_set" "person_set" (defArgs s_person_set) (defBody s_person_set) (defScope s_person_set) [] [] f fd) (hg : mg "person_set" = some (.ref f)) : FN P w K mg base 2 3 "person_set" m_person_set := by
  refine ⟨f, fd, ["rule", "standing", "series"], ?_, hg, F.kp, F.bindsN fun _ _ _ _ _ _ us hl => match us, hl with | [_, _, _], _ => rfl⟩
  refine F.ok sc_m_person_set (fun vs H Q E h => h.1) (fun cdv A outer s H vs Q E hr h => body_ok (m := (mSeq m_person_set_s0 (mSeq m_person_set_s1 (mSeq m_person_set_s2 m_person_set_s6)))) (by decide) ?_ h)
  exact (sss_cons (sset 3 sc_m_person_set.nd (se_ix (Room.u1 hr) (fun _ _ => rfl) (sv 1) (sv 2) pu_ix)) (sss_cons (sset 4 sc_m_person_set.nd (se_callTy crM_tuple pu_tuple rfl g.b_tuple bt_tuple (sa_cons (se_lc (fr := true) (own := [("room", 8), ("there", 9), ("single", 10)]) rfl sc_m_person_set.nd (si_seq (se_ix (Room.u1 hr) (fun _ _ => rfl) (sv 3) se_int pu_ix)) (blkOk_by rfl) (fun _ _ _ _ _ => (sg_tup rfl (sgs_cons (sn 8 sc_m_person_set.nd) (sgs_cons (sn 9 sc_m_person_set.nd) (sgs_cons (sn 10 sc_m_person_set.nd) sgs_nil))))) (fun _ _ _ _ _ => sts_nil) (fun _ _ _ _ _ => (se_tup (sa_cons (sv 8) (sa_cons (sv 8) (sa_cons (sv 10) sa_nil))) (lenCons (lenCons (lenCons lenNil))) (by decide))) (by decide)) sa_nil))) (sss_cons (ss_if (st_cmp (opM_eq (Room.u64 hr)) pu_eq (nomark _) (se_fld g.c_Rule g.n_Rule_checking (sv 0)) se_str) (sss_one (ss_for pass_cx rfl (si_ezip rfl g.b_enumerate rfl g.b_zip (sa_cons (se_ix (Room.u1 hr) (fun _ _ => rfl) (sv 3) se_int pu_ix) (sa_cons (sv 4) sa_nil))) (sg_tup rfl (sgs_cons (sn 5 sc_m_person_set.nd) (sgs_cons (sg_tup rfl (sgs_cons (sn 6 sc_m_person_set.nd) (sgs_cons (sn 7 sc_m_person_set.nd) sgs_nil))) sgs_nil))) (sss_one (ss_if (st_w (sw_and (st_cmp (opM_ne (Room.u64 hr)) pu_ne (nomark _) (se_ix (Room.u1 hr) (fun _ _ => rfl) (sv 6) se_int pu_ix) (se_ix (Room.u1 hr) (fun _ _ => rfl) (sv 7) se_int pu_ix)) (sw_and1 (st_not (st_val (se_callN h_is_person_free hr (by decide) rfl takes_cx (sa_cons (sv 1) (sa_cons (sv 2) (sa_cons (sv 5) (sa_cons (se_ix (Room.u1 hr) (fun _ _ => rfl) (sv 7) se_int pu_ix) sa_nil)))) (lenCons (lenCons (lenCons (lenCons lenNil)))))))))) (sss_one (ss_ret se_non)) sss_nil)))) sss_nil) (sss_one (ss_ret (se_callN h_with_series hr (by decide) rfl takes_cx (sa_cons (sv 1) (sa_cons (sv 2) (sa_cons (se_ix (Room.u1 hr) (fun _ _ => rfl) (sv 3) se_int pu_ix) (sa_cons (sv 4) sa_nil)))) (lenCons (lenCons (lenCons (lenCons lenNil))))))))))
def m_taken_back_s0 : MS := (mAsg (mCell mNil) (tgName 3))
def m_taken_back_s2 : MS := (mDrop (mApp (mVar 3) (mIf (mTest (mOp isM (mOp idxM (mVar 4) (mC (.int 0))) (mC .non))) (mVar 4) (mTup (mCons (mOp idxM (mVar 5) (mC (.int 0))) (mCons (mOp idxM (mVar 4) (mC (.int 1))) (mCons (mOp idxM (mVar 5) (mC (.int 2))) mNil)))))))
def m_taken_back_s1 : MS := (mFor (mZip2 (mCons (mOp idxM (mOp idxM (mVar 0) (mVar 1)) (mC (.int 2))) (mCons (mOp idxM (mVar 2) (mC (.int 2))) mNil))) (tgTup (tgCons (tgName 4) (tgCons (tgName 5) tgNil))) m_taken_back_s2)
def m_taken_back_s3 : MS := (mRet (mCallF m_with_series (mCons (mVar 0) (mCons (mVar 1) (mCons (mOp idxM (mVar 2) (mC (.int 1))) (mCons (mCallF tupM (mCons (mVar 3) mNil)) mNil))))))
def m_taken_back : MF := frzF (mFn 6 ((mSeq m_taken_back_s0 (mSeq m_taken_back_s1 m_taken_back_s3))))
theorem sc_m_taken_back : FnScope ["standing", "series", "before", "days", "now", "then"] ["standing", "series", "before"] (defScope s_taken_back) := ⟨rfl, rfl, rfl, by decide +kernel, rfl, by decide +kernel, by decide +kernel⟩
theorem ok_taken_back {P : Program} {w : PySem.World} {K : PySem.W.Frag} {mg : Str → Option Value} {base : Heap} {f : Addr} {fd : FuncData} (g : Gs K mg) (h_with_series : FN P w K mg base 1 4 "with_series" m_with_series) (F : FunD K "taken_back" "taken_back" (defArgs s_taken_back) (defBody s_taken_back) (defScope s_taken_back) [] [] f fd) (hg : mg "taken_back" = some (.ref f)) : FN P w K mg base 2 3 "taken_back" m_taken_back := by
  refine ⟨f, fd, ["standing", "series", "before"], ?_, hg, F.kp, F.bindsN fun _ _ _ _ _ _ us hl => match us, hl with | [_, _, _], _ => rfl⟩
  refine frz_ok (m := mFn _ _) (F.ok sc_m_taken_back (fun vs H Q E h => h.1) (fun cdv A outer s H vs Q E hr h => body_ok (m := (mSeq m_taken_back_s0 (mSeq m_taken_back_s1 m_taken_back_s3))) (by decide) ?_ h))
  exact (sss_cons (sset 3 sc_m_taken_back.nd (se_cell sa_nil lenNil (by decide))) (sss_cons (ss_for pass_cx rfl (si_zip2 rfl g.b_zip (sa_cons (se_ix (Room.u1 hr) (fun _ _ => rfl) (se_ix (Room.u1 hr) (fun _ _ => rfl) (sv 0) (sv 1) pu_ix) se_int pu_ix) (sa_cons (se_ix (Room.u1 hr) (fun _ _ => rfl) (sv 2) se_int pu_ix) sa_nil))) (sg_tup rfl (sgs_cons (sn 4 sc_m_taken_back.nd) (sgs_cons (sn 5 sc_m_taken_back.nd) sgs_nil))) (sss_one (ss_expr (se_app (sv 3) (se_if (st_cmp opM_is pu_is (nomark _) (se_ix (Room.u1 hr) (fun _ _ => rfl) (sv 4) se_int pu_ix) se_non) (sv 4) (se_tup (sa_cons (se_ix (Room.u1 hr) (fun _ _ => rfl) (sv 5) se_int pu_ix) (sa_cons (se_ix (Room.u1 hr) (fun _ _ => rfl) (sv 4) se_int pu_ix) (sa_cons (se_ix (Room.u1 hr) (fun _ _ => rfl) (sv 5) se_int pu_ix) sa_nil))) (lenCons (lenCons (lenCons lenNil))) (by decide))))))) (sss_one (ss_ret (se_callN h_with_series hr (by decide) rfl takes_cx (sa_cons (sv 0) (sa_cons (sv 1) (sa_cons (se_ix (Room.u1 hr) (fun _ _ => rfl) (sv 2) se_int pu_ix) (sa_cons (se_callTy crM_tuple pu_tuple rfl g.b_tuple bt_tuple (sa_cons (sv 3) sa_nil)) sa_nil)))) (lenCons (lenCons (lenCons (lenCons lenNil)))))))))
def m_person_step_s0 : MS := (mAsg (mCallF m_person_set (mCons (mVar 0) (mCons (mVar 1) (mCons (mVar 2) mNil)))) (tgName 4))
def m_person_step_s2 : MS := (mRet (mTup (mCons (mC (.str "done")) (mCons (mVar 3) (mCons (mVar 4) mNil)))))
def m_person_step_s1 : MS := (mIfS (mTest (mOp isnM (mVar 4) (mC .non))) m_person_step_s2 mNext)
def m_person_step_s4 : MS := (mRet (mTup (mCons (mC (.str "refused")) (mCons (mTup (mCons (mOp idxM (mVar 3) (mC (.int 0))) (mCons (mOp idxM (mVar 3) (mC (.int 1))) (mCons (mC .non) mNil)))) (mCons (mCallF m_taken_back (mCons (mVar 1) (mCons (mVar 2) (mCons (mOp idxM (mVar 3) (mC (.int 2))) mNil)))) mNil)))))
def m_person_step_s3 : MS := (mIfS (mAnd (mTest (mOp eqM (mFld "Rule" "halves" (mVar 0)) (mC (.str "undone")))) (mTest (mOp isnM (mOp idxM (mVar 3) (mC (.int 2))) (mC .non)))) m_person_step_s4 mNext)
def m_person_step_s5 : MS := (mRet (mTup (mCons (mC (.str "refused")) (mCons (mVar 3) (mCons (mVar 1) mNil)))))
def m_person_step : MF := mFn 5 ((mSeq m_person_step_s0 (mSeq m_person_step_s1 (mSeq m_person_step_s3 m_person_step_s5))))
theorem sc_m_person_step : FnScope ["rule", "standing", "series", "memory", "after"] ["rule", "standing", "series", "memory"] (defScope s_person_step) := ⟨rfl, rfl, rfl, by decide +kernel, rfl, by decide +kernel, by decide +kernel⟩
theorem ok_person_step {P : Program} {w : PySem.World} {K : PySem.W.Frag} {mg : Str → Option Value} {base : Heap} {f : Addr} {fd : FuncData} (g : Gs K mg) (h_person_set : FN P w K mg base 2 3 "person_set" m_person_set) (h_taken_back : FN P w K mg base 2 3 "taken_back" m_taken_back) (F : FunD K "person_step" "person_step" (defArgs s_person_step) (defBody s_person_step) (defScope s_person_step) [] [] f fd) (hg : mg "person_step" = some (.ref f)) : FN P w K mg base 3 4 "person_step" m_person_step := by
  refine ⟨f, fd, ["rule", "standing", "series", "memory"], ?_, hg, F.kp, F.bindsN fun _ _ _ _ _ _ us hl => match us, hl with | [_, _, _, _], _ => rfl⟩
  refine F.ok sc_m_person_step (fun vs H Q E h => h.1) (fun cdv A outer s H vs Q E hr h => body_ok (m := (mSeq m_person_step_s0 (mSeq m_person_step_s1 (mSeq m_person_step_s3 m_person_step_s5)))) (by decide) ?_ h)
  exact (sss_cons (sset 4 sc_m_person_step.nd (se_callN h_person_set hr (by decide) rfl takes_cx (sa_cons (sv 0) (sa_cons (sv 1) (sa_cons (sv 2) sa_nil))) (lenCons (lenCons (lenCons lenNil))))) (sss_cons (ss_if (st_cmp opM_isn pu_isn (nomark _) (sv 4) se_non) (sss_one (ss_ret (se_tup (sa_cons se_str (sa_cons (sv 3) (sa_cons (sv 4) sa_nil))) (lenCons (lenCons (lenCons lenNil))) (by decide)))) sss_nil) (sss_cons (ss_if (st_w (sw_and (st_cmp (opM_eq (Room.u64 hr)) pu_eq (nomark _) (se_fld g.c_Rule g.n_Rule_halves (sv 0)) se_str) (sw_and1 (st_cmp opM_isn pu_isn (nomark _) (se_ix (Room.u1 hr) (fun _ _ => rfl) (sv 3) se_int pu_ix) se_non)))) (sss_one (ss_ret (se_tup (sa_cons se_str (sa_cons (se_tup (sa_cons (se_ix (Room.u1 hr) (fun _ _ => rfl) (sv 3) se_int pu_ix) (sa_cons (se_ix (Room.u1 hr) (fun _ _ => rfl) (sv 3) se_int pu_ix) (sa_cons se_non sa_nil))) (lenCons (lenCons (lenCons lenNil))) (by decide)) (sa_cons (se_callN h_taken_back hr (by decide) rfl takes_cx (sa_cons (sv 1) (sa_cons (sv 2) (sa_cons (se_ix (Room.u1 hr) (fun _ _ => rfl) (sv 3) se_int pu_ix) sa_nil))) (lenCons (lenCons (lenCons lenNil)))) sa_nil))) (lenCons (lenCons (lenCons lenNil))) (by decide)))) sss_nil) (sss_one (ss_ret (se_tup (sa_cons se_str (sa_cons (sv 3) (sa_cons (sv 1) sa_nil))) (lenCons (lenCons (lenCons lenNil))) (by decide)))))))
def m_one_set_s0 : MS := (mAsg (mOp idxM (mVar 1) (mVar 2)) (tgName 5))
def m_one_set_s2 : MS := (mRet (mC .non))
def m_one_set_s1 : MS := (mIfS (mTest (mOp isM (mOp idxM (mOp idxM (mOp idxM (mVar 5) (mC (.int 2))) (mVar 3)) (mC (.int 0))) (mC .non))) m_one_set_s2 mNext)
def m_one_set_s4 : MS := (mRet (mC .non))
def m_one_set_s3 : MS := (mIfS (mAnd (mTest (mOp neM (mFld "Rule" "checking" (mVar 0)) (mC (.str "none")))) (mNot (mTest (mCallF m_is_room_free (mCons (mVar 1) (mCons (mVar 2) (mCons (mVar 3) (mCons (mVar 4) mNil)))))))) m_one_set_s4 mNext)
def m_one_set_s6 : MS := (mRet (mC .non))
def m_one_set_s5 : MS := (mIfS (mAnd (mTest (mOp eqM (mFld "Rule" "checking" (mVar 0)) (mC (.str "both")))) (mNot (mTest (mCallF m_is_person_free (mCons (mVar 1) (mCons (mVar 2) (mCons (mVar 3) (mCons (mVar 4) mNil)))))))) m_one_set_s6 mNext)
def m_one_set_s7 : MS := (mRet (mCallF m_with_series (mCons (mVar 1) (mCons (mVar 2) (mCons (mOp idxM (mVar 5) (mC (.int 1))) (mCons (mOp addM (mOp addM (mSlice (mOp idxM (mVar 5) (mC (.int 2))) moNone (moSome (mVar 3))) (mTup (mCons (mTup (mCons (mVar 4) (mCons (mVar 4) (mCons (mC (.bl true)) mNil)))) mNil))) (mSlice (mOp idxM (mVar 5) (mC (.int 2))) (moSome (mOp addM (mVar 3) (mC (.int 1)))) moNone)) mNil))))))
def m_one_set : MF := mFn 6 ((mSeq m_one_set_s0 (mSeq m_one_set_s1 (mSeq m_one_set_s3 (mSeq m_one_set_s5 m_one_set_s7)))))
theorem sc_m_one_set : FnScope ["rule", "standing", "series", "day", "hour", "row"] ["rule", "standing", "series", "day", "hour"] (defScope s_one_set) := ⟨rfl, rfl, rfl, by decide +kernel, rfl, by decide +kernel, by decide +kernel⟩
theorem ok_one_set {P : Program} {w : PySem.World} {K : PySem.W.Frag} {mg : Str → Option Value} {base : Heap} {f : Addr} {fd : FuncData} (g : Gs K mg) (h_is_room_free : FN P w K mg base 1 4 "is_room_free" m_is_room_free) (h_is_person_free : FN P w K mg base 1 4 "is_person_free" m_is_person_free) (h_with_series : FN P w K mg base 1 4 "with_series" m_with_series) (F : FunD K "one_set" "one_set" (defArgs s_one_set) (defBody s_one_set) (defScope s_one_set) [] [] f fd) (hg : mg "one_set" = some (.ref f)) : FN P w K mg base 2 5 "one_set" m_one_set := by
  refine ⟨f, fd, ["rule", "standing", "series", "day", "hour"], ?_, hg, F.kp, F.bindsN fun _ _ _ _ _ _ us hl => match us, hl with | [_, _, _, _, _], _ => rfl⟩
  refine F.ok sc_m_one_set (fun vs H Q E h => h.1) (fun cdv A outer s H vs Q E hr h => body_ok (m := (mSeq m_one_set_s0 (mSeq m_one_set_s1 (mSeq m_one_set_s3 (mSeq m_one_set_s5 m_one_set_s7))))) (by decide) ?_ h)
  exact (sss_cons (sset 5 sc_m_one_set.nd (se_ix (Room.u1 hr) (fun _ _ => rfl) (sv 1) (sv 2) pu_ix)) (sss_cons (ss_if (st_cmp opM_is pu_is (nomark _) (se_ix (Room.u1 hr) (fun _ _ => rfl) (se_ix (Room.u1 hr) (fun _ _ => rfl) (se_ix (Room.u1 hr) (fun _ _ => rfl) (sv 5) se_int pu_ix) (sv 3) pu_ix) se_int pu_ix) se_non) (sss_one (ss_ret se_non)) sss_nil) (sss_cons (ss_if (st_w (sw_and (st_cmp (opM_ne (Room.u64 hr)) pu_ne (nomark _) (se_fld g.c_Rule g.n_Rule_checking (sv 0)) se_str) (sw_and1 (st_not (st_val (se_callN h_is_room_free hr (by decide) rfl takes_cx (sa_cons (sv 1) (sa_cons (sv 2) (sa_cons (sv 3) (sa_cons (sv 4) sa_nil)))) (lenCons (lenCons (lenCons (lenCons lenNil)))))))))) (sss_one (ss_ret se_non)) sss_nil) (sss_cons (ss_if (st_w (sw_and (st_cmp (opM_eq (Room.u64 hr)) pu_eq (nomark _) (se_fld g.c_Rule g.n_Rule_checking (sv 0)) se_str) (sw_and1 (st_not (st_val (se_callN h_is_person_free hr (by decide) rfl takes_cx (sa_cons (sv 1) (sa_cons (sv 2) (sa_cons (sv 3) (sa_cons (sv 4) sa_nil)))) (lenCons (lenCons (lenCons (lenCons lenNil)))))))))) (sss_one (ss_ret se_non)) sss_nil) (sss_one (ss_ret (se_callN h_with_series hr (by decide) rfl takes_cx (sa_cons (sv 1) (sa_cons (sv 2) (sa_cons (se_ix (Room.u1 hr) (fun _ _ => rfl) (sv 5) se_int pu_ix) (sa_cons (se_op opM_add pu_add (se_op opM_add pu_add (se_slice (se_ix (Room.u1 hr) (fun _ _ => rfl) (sv 5) se_int pu_ix) so_none (so_some (sv 3))) (se_tup (sa_cons (se_tup (sa_cons (sv 4) (sa_cons (sv 4) (sa_cons se_bl sa_nil))) (lenCons (lenCons (lenCons lenNil))) (by decide)) sa_nil) (lenCons lenNil) (by decide))) (se_slice (se_ix (Room.u1 hr) (fun _ _ => rfl) (sv 5) se_int pu_ix) (so_some (se_op opM_add pu_add (sv 3) se_int)) so_none)) sa_nil)))) (lenCons (lenCons (lenCons (lenCons lenNil)))))))))))
def m_off_set_s0 : MS := (mAsg (mOp idxM (mVar 0) (mVar 1)) (tgName 3))
def m_off_set_s2 : MS := (mRet (mC .non))
def m_off_set_s1 : MS := (mIfS (mTest (mOp isM (mOp idxM (mOp idxM (mOp idxM (mVar 3) (mC (.int 2))) (mVar 2)) (mC (.int 0))) (mC .non))) m_off_set_s2 mNext)
def m_off_set_s3 : MS := (mRet (mCallF m_with_series (mCons (mVar 0) (mCons (mVar 1) (mCons (mOp idxM (mVar 3) (mC (.int 1))) (mCons (mOp addM (mOp addM (mSlice (mOp idxM (mVar 3) (mC (.int 2))) moNone (moSome (mVar 2))) (mTup (mCons (mTup (mCons (mC .non) (mCons (mC .non) (mCons (mC (.bl false)) mNil)))) mNil))) (mSlice (mOp idxM (mVar 3) (mC (.int 2))) (moSome (mOp addM (mVar 2) (mC (.int 1)))) moNone)) mNil))))))
def m_off_set : MF := mFn 4 ((mSeq m_off_set_s0 (mSeq m_off_set_s1 m_off_set_s3)))
theorem sc_m_off_set : FnScope ["standing", "series", "day", "row"] ["standing", "series", "day"] (defScope s_off_set) := ⟨rfl, rfl, rfl, by decide +kernel, rfl, by decide +kernel, by decide +kernel⟩
theorem ok_off_set {P : Program} {w : PySem.World} {K : PySem.W.Frag} {mg : Str → Option Value} {base : Heap} {f : Addr} {fd : FuncData} (g : Gs K mg) (h_with_series : FN P w K mg base 1 4 "with_series" m_with_series) (F : FunD K "off_set" "off_set" (defArgs s_off_set) (defBody s_off_set) (defScope s_off_set) [] [] f fd) (hg : mg "off_set" = some (.ref f)) : FN P w K mg base 2 3 "off_set" m_off_set := by
  refine ⟨f, fd, ["standing", "series", "day"], ?_, hg, F.kp, F.bindsN fun _ _ _ _ _ _ us hl => match us, hl with | [_, _, _], _ => rfl⟩
  refine F.ok sc_m_off_set (fun vs H Q E h => h.1) (fun cdv A outer s H vs Q E hr h => body_ok (m := (mSeq m_off_set_s0 (mSeq m_off_set_s1 m_off_set_s3))) (by decide) ?_ h)
  exact (sss_cons (sset 3 sc_m_off_set.nd (se_ix (Room.u1 hr) (fun _ _ => rfl) (sv 0) (sv 1) pu_ix)) (sss_cons (ss_if (st_cmp opM_is pu_is (nomark _) (se_ix (Room.u1 hr) (fun _ _ => rfl) (se_ix (Room.u1 hr) (fun _ _ => rfl) (se_ix (Room.u1 hr) (fun _ _ => rfl) (sv 3) se_int pu_ix) (sv 2) pu_ix) se_int pu_ix) se_non) (sss_one (ss_ret se_non)) sss_nil) (sss_one (ss_ret (se_callN h_with_series hr (by decide) rfl takes_cx (sa_cons (sv 0) (sa_cons (sv 1) (sa_cons (se_ix (Room.u1 hr) (fun _ _ => rfl) (sv 3) se_int pu_ix) (sa_cons (se_op opM_add pu_add (se_op opM_add pu_add (se_slice (se_ix (Room.u1 hr) (fun _ _ => rfl) (sv 3) se_int pu_ix) so_none (so_some (sv 2))) (se_tup (sa_cons (se_tup (sa_cons se_non (sa_cons se_non (sa_cons se_bl sa_nil))) (lenCons (lenCons (lenCons lenNil))) (by decide)) sa_nil) (lenCons lenNil) (by decide))) (se_slice (se_ix (Room.u1 hr) (fun _ _ => rfl) (sv 3) se_int pu_ix) (so_some (se_op opM_add pu_add (sv 2) se_int)) so_none)) sa_nil)))) (lenCons (lenCons (lenCons (lenCons lenNil)))))))))
def m_stepped_s0 : MS := (mAsg (mOp idxM (mVar 5) (mC (.int 0))) (tgName 6))
def m_stepped_s2 : MS := (mRet (mCallF m_find_step (mCons (mVar 2) (mCons (mVar 3) (mCons (mVar 4) (mCons (mOp idxM (mVar 5) (mC (.int 1))) mNil))))))
def m_stepped_s1 : MS := (mIfS (mTest (mOp eqM (mVar 6) (mC (.str "find")))) m_stepped_s2 mNext)
def m_stepped_s4 : MS := (mRet (mCallF m_tell_step (mCons (mVar 0) (mCons (mVar 2) (mCons (mVar 3) (mCons (mVar 4) mNil))))))
def m_stepped_s3 : MS := (mIfS (mTest (mOp eqM (mVar 6) (mC (.str "tell")))) m_stepped_s4 mNext)
def m_stepped_s6 : MS := (mRet (mCallF m_room_step (mCons (mVar 0) (mCons (mOp idxM (mVar 1) (mC (.int 1))) (mCons (mVar 2) (mCons (mVar 3) (mCons (mVar 4) (mCons (mOp idxM (mVar 5) (mC (.int 1))) mNil))))))))
def m_stepped_s5 : MS := (mIfS (mTest (mOp eqM (mVar 6) (mC (.str "room")))) m_stepped_s6 mNext)
def m_stepped_s8 : MS := (mRet (mCallF m_person_step (mCons (mVar 0) (mCons (mVar 2) (mCons (mVar 3) (mCons (mVar 4) mNil))))))
def m_stepped_s7 : MS := (mIfS (mTest (mOp eqM (mVar 6) (mC (.str "person")))) m_stepped_s8 mNext)
def m_stepped_s9 : MS := (mAsg (mIf (mTest (mOp eqM (mVar 6) (mC (.str "one")))) (mCallF m_one_set (mCons (mVar 0) (mCons (mVar 2) (mCons (mVar 3) (mCons (mOp idxM (mVar 5) (mC (.int 1))) (mCons (mOp idxM (mVar 5) (mC (.int 2))) mNil)))))) (mCallF m_off_set (mCons (mVar 2) (mCons (mVar 3) (mCons (mOp idxM (mVar 5) (mC (.int 1))) mNil))))) (tgName 7))
def m_stepped_s10 : MS := (mRet (mIf (mTest (mOp isM (mVar 7) (mC .non))) (mTup (mCons (mC (.str "refused")) (mCons (mVar 4) (mCons (mVar 2) mNil)))) (mTup (mCons (mC (.str "done")) (mCons (mVar 4) (mCons (mVar 7) mNil))))))
def m_stepped : MF := mFn 8 ((mSeq m_stepped_s0 (mSeq m_stepped_s1 (mSeq m_stepped_s3 (mSeq m_stepped_s5 (mSeq m_stepped_s7 (mSeq m_stepped_s9 m_stepped_s10)))))))
theorem sc_m_stepped : FnScope ["rule", "world", "standing", "series", "memory", "step", "word", "after"] ["rule", "world", "standing", "series", "memory", "step"] (defScope s_stepped) := ⟨rfl, rfl, rfl, by decide +kernel, rfl, by decide +kernel, by decide +kernel⟩
theorem ok_stepped {P : Program} {w : PySem.World} {K : PySem.W.Frag} {mg : Str → Option Value} {base : Heap} {f : Addr} {fd : FuncData} (g : Gs K mg) (h_find_step : FN P w K mg base 3 4 "find_step" m_find_step) (h_tell_step : FN P w K mg base 2 4 "tell_step" m_tell_step) (h_room_step : FN P w K mg base 3 6 "room_step" m_room_step) (h_person_step : FN P w K mg base 3 4 "person_step" m_person_step) (h_one_set : FN P w K mg base 2 5 "one_set" m_one_set) (h_off_set : FN P w K mg base 2 3 "off_set" m_off_set) (F : FunD K "stepped" "stepped" (defArgs s_stepped) (defBody s_stepped) (defScope s_stepped) [] [] f fd) (hg : mg "stepped" = some (.ref f)) : FN P w K mg base 4 6 "stepped" m_stepped := by
  refine ⟨f, fd, ["rule", "world", "standing", "series", "memory", "step"], ?_, hg, F.kp, F.bindsN fun _ _ _ _ _ _ us hl => match us, hl with | [_, _, _, _, _, _], _ => rfl⟩
  refine F.ok sc_m_stepped (fun vs H Q E h => h.1) (fun cdv A outer s H vs Q E hr h => body_ok (m := (mSeq m_stepped_s0 (mSeq m_stepped_s1 (mSeq m_stepped_s3 (mSeq m_stepped_s5 (mSeq m_stepped_s7 (mSeq m_stepped_s9 m_stepped_s10))))))) (by decide) ?_ h)
  exact (sss_cons (sset 6 sc_m_stepped.nd (se_ix (Room.u1 hr) (fun _ _ => rfl) (sv 5) se_int pu_ix)) (sss_cons (ss_if (st_cmp (opM_eq (Room.u64 hr)) pu_eq (nomark _) (sv 6) se_str) (sss_one (ss_ret (se_callN h_find_step hr (by decide) rfl takes_cx (sa_cons (sv 2) (sa_cons (sv 3) (sa_cons (sv 4) (sa_cons (se_ix (Room.u1 hr) (fun _ _ => rfl) (sv 5) se_int pu_ix) sa_nil)))) (lenCons (lenCons (lenCons (lenCons lenNil))))))) sss_nil) (sss_cons (ss_if (st_cmp (opM_eq (Room.u64 hr)) pu_eq (nomark _) (sv 6) se_str) (sss_one (ss_ret (se_callN h_tell_step hr (by decide) rfl takes_cx (sa_cons (sv 0) (sa_cons (sv 2) (sa_cons (sv 3) (sa_cons (sv 4) sa_nil)))) (lenCons (lenCons (lenCons (lenCons lenNil))))))) sss_nil) (sss_cons (ss_if (st_cmp (opM_eq (Room.u64 hr)) pu_eq (nomark _) (sv 6) se_str) (sss_one (ss_ret (se_callN h_room_step hr (by decide) rfl takes_cx (sa_cons (sv 0) (sa_cons (se_ix (Room.u1 hr) (fun _ _ => rfl) (sv 1) se_int pu_ix) (sa_cons (sv 2) (sa_cons (sv 3) (sa_cons (sv 4) (sa_cons (se_ix (Room.u1 hr) (fun _ _ => rfl) (sv 5) se_int pu_ix) sa_nil)))))) (lenCons (lenCons (lenCons (lenCons (lenCons (lenCons lenNil))))))))) sss_nil) (sss_cons (ss_if (st_cmp (opM_eq (Room.u64 hr)) pu_eq (nomark _) (sv 6) se_str) (sss_one (ss_ret (se_callN h_person_step hr (by decide) rfl takes_cx (sa_cons (sv 0) (sa_cons (sv 2) (sa_cons (sv 3) (sa_cons (sv 4) sa_nil)))) (lenCons (lenCons (lenCons (lenCons lenNil))))))) sss_nil) (sss_cons (sset 7 sc_m_stepped.nd (se_if (st_cmp (opM_eq (Room.u64 hr)) pu_eq (nomark _) (sv 6) se_str) (se_callN h_one_set hr (by decide) rfl takes_cx (sa_cons (sv 0) (sa_cons (sv 2) (sa_cons (sv 3) (sa_cons (se_ix (Room.u1 hr) (fun _ _ => rfl) (sv 5) se_int pu_ix) (sa_cons (se_ix (Room.u1 hr) (fun _ _ => rfl) (sv 5) se_int pu_ix) sa_nil))))) (lenCons (lenCons (lenCons (lenCons (lenCons lenNil)))))) (se_callN h_off_set hr (by decide) rfl takes_cx (sa_cons (sv 2) (sa_cons (sv 3) (sa_cons (se_ix (Room.u1 hr) (fun _ _ => rfl) (sv 5) se_int pu_ix) sa_nil))) (lenCons (lenCons (lenCons lenNil)))))) (sss_one (ss_ret (se_if (st_cmp opM_is pu_is (nomark _) (sv 7) se_non) (se_tup (sa_cons se_str (sa_cons (sv 4) (sa_cons (sv 2) sa_nil))) (lenCons (lenCons (lenCons lenNil))) (by decide)) (se_tup (sa_cons se_str (sa_cons (sv 4) (sa_cons (sv 7) sa_nil))) (lenCons (lenCons (lenCons lenNil))) (by decide)))))))))))
def m_meets_room_s0 : MS := (mAsg (mCallF lstE (mCons (mOp idxM (mOp idxM (mVar 0) (mVar 1)) (mC (.int 2))) mNil)) (tgName 2))
def m_meets_room_s1 : MS := (mRet (mCallF anyM (mCons (mLc true [3, 4, 5, 6] (mSrc (mVar 2)) (tgTup (tgCons (tgName 3) (tgCons (tgTup (tgCons (tgName 4) (tgCons (tgName 5) (tgCons (tgName 6) tgNil)))) tgNil))) mTrue (mAndV (mOp isnM (mVar 4) (mC .non)) (mNotV (mCallF m_is_room_free (mCons (mVar 0) (mCons (mVar 1) (mCons (mVar 3) (mCons (mVar 4) mNil)))))))) mNil)))
def m_meets_room : MF := mFn 7 ((mSeq m_meets_room_s0 m_meets_room_s1))
theorem sc_m_meets_room : FnScope ["standing", "series", "days", "day", "room", "there", "one"] ["standing", "series"] (defScope s_meets_room) := ⟨rfl, rfl, rfl, by decide +kernel, rfl, by decide +kernel, by decide +kernel⟩
theorem ok_meets_room {P : Program} {w : PySem.World} {K : PySem.W.Frag} {mg : Str → Option Value} {base : Heap} {f : Addr} {fd : FuncData} (g : Gs K mg) (h_is_room_free : FN P w K mg base 1 4 "is_room_free" m_is_room_free) (F : FunD K "meets_room" "meets_room" (defArgs s_meets_room) (defBody s_meets_room) (defScope s_meets_room) [] [] f fd) (hg : mg "meets_room" = some (.ref f)) : FN P w K mg base 2 2 "meets_room" m_meets_room := by
  refine ⟨f, fd, ["standing", "series"], ?_, hg, F.kp, F.bindsN fun _ _ _ _ _ _ us hl => match us, hl with | [_, _], _ => rfl⟩
  refine F.ok sc_m_meets_room (fun vs H Q E h => h.1) (fun cdv A outer s H vs Q E hr h => body_ok (m := (mSeq m_meets_room_s0 m_meets_room_s1)) (by decide) ?_ h)
  exact (sss_cons (sset 2 sc_m_meets_room.nd (se_listE rfl rfl g.b_list rfl g.b_enumerate (sa_cons (se_ix (Room.u1 hr) (fun _ _ => rfl) (se_ix (Room.u1 hr) (fun _ _ => rfl) (sv 0) (sv 1) pu_ix) se_int pu_ix) sa_nil))) (sss_one (ss_ret (se_callB (crM_any rfl) pu_any rfl g.b_any bt_any (sa_cons (se_lc (fr := true) (own := [("day", 3), ("room", 4), ("there", 5), ("one", 6)]) rfl sc_m_meets_room.nd (si_seq (sv 2)) (blkOk_by rfl) (fun _ _ _ _ _ => (sg_tup rfl (sgs_cons (sn 3 sc_m_meets_room.nd) (sgs_cons (sg_tup rfl (sgs_cons (sn 4 sc_m_meets_room.nd) (sgs_cons (sn 5 sc_m_meets_room.nd) (sgs_cons (sn 6 sc_m_meets_room.nd) sgs_nil)))) sgs_nil)))) (fun _ _ _ _ _ => sts_nil) (fun _ _ _ _ _ => (se_and (se_cmp opM_isn pu_isn (nomark _) (sv 4) se_non) (se_one (se_not (se_callN h_is_room_free hr (by decide) rfl takesNo (sa_cons (sv 0) (sa_cons (sv 1) (sa_cons (sv 3) (sa_cons (sv 4) sa_nil)))) (lenCons (lenCons (lenCons (lenCons lenNil))))))))) (by decide)) sa_nil)))))
def m_meets_person_s2 : MS := (mRet (mC (.bl true)))
def m_meets_person_s1 : MS := (mIfS (mAnd (mTest (mOp isnM (mVar 4) (mC .non))) (mNot (mTest (mCallF m_is_person_free (mCons (mVar 0) (mCons (mVar 1) (mCons (mVar 2) (mCons (mVar 4) mNil)))))))) m_meets_person_s2 mNext)
def m_meets_person_s0 : MS := (mFor (mEnum (mCons (mOp idxM (mOp idxM (mVar 0) (mVar 1)) (mC (.int 2))) mNil)) (tgTup (tgCons (tgName 2) (tgCons (tgTup (tgCons (tgName 3) (tgCons (tgName 4) (tgCons (tgName 5) tgNil)))) tgNil))) m_meets_person_s1)
def m_meets_person_s3 : MS := (mRet (mC (.bl false)))
def m_meets_person : MF := mFn 6 ((mSeq m_meets_person_s0 m_meets_person_s3))
theorem sc_m_meets_person : FnScope ["standing", "series", "day", "room", "there", "single"] ["standing", "series"] (defScope s_meets_person) := ⟨rfl, rfl, rfl, by decide +kernel, rfl, by decide +kernel, by decide +kernel⟩
theorem ok_meets_person {P : Program} {w : PySem.World} {K : PySem.W.Frag} {mg : Str → Option Value} {base : Heap} {f : Addr} {fd : FuncData} (g : Gs K mg) (h_is_person_free : FN P w K mg base 1 4 "is_person_free" m_is_person_free) (F : FunD K "meets_person" "meets_person" (defArgs s_meets_person) (defBody s_meets_person) (defScope s_meets_person) [] [] f fd) (hg : mg "meets_person" = some (.ref f)) : FN P w K mg base 2 2 "meets_person" m_meets_person := by
  refine ⟨f, fd, ["standing", "series"], ?_, hg, F.kp, F.bindsN fun _ _ _ _ _ _ us hl => match us, hl with | [_, _], _ => rfl⟩
  refine F.ok sc_m_meets_person (fun vs H Q E h => h.1) (fun cdv A outer s H vs Q E hr h => body_ok (m := (mSeq m_meets_person_s0 m_meets_person_s3)) (by decide) ?_ h)
  exact (sss_cons (ss_for pass_cx rfl (si_enum rfl g.b_enumerate (sa_cons (se_ix (Room.u1 hr) (fun _ _ => rfl) (se_ix (Room.u1 hr) (fun _ _ => rfl) (sv 0) (sv 1) pu_ix) se_int pu_ix) sa_nil)) (sg_tup rfl (sgs_cons (sn 2 sc_m_meets_person.nd) (sgs_cons (sg_tup rfl (sgs_cons (sn 3 sc_m_meets_person.nd) (sgs_cons (sn 4 sc_m_meets_person.nd) (sgs_cons (sn 5 sc_m_meets_person.nd) sgs_nil)))) sgs_nil))) (sss_one (ss_if (st_w (sw_and (st_cmp opM_isn pu_isn (nomark _) (sv 4) se_non) (sw_and1 (st_not (st_val (se_callN h_is_person_free hr (by decide) rfl takes_cx (sa_cons (sv 0) (sa_cons (sv 1) (sa_cons (sv 2) (sa_cons (sv 4) sa_nil)))) (lenCons (lenCons (lenCons (lenCons lenNil)))))))))) (sss_one (ss_ret se_bl)) sss_nil))) (sss_one (ss_ret se_bl)))
def m_lost_single_s0 : MS := (mRet (mCallF anyM (mCons (mLc true [3, 4] (mZip2 (mCons (mOp idxM (mOp idxM (mVar 0) (mVar 2)) (mC (.int 2))) (mCons (mOp idxM (mOp idxM (mVar 1) (mVar 2)) (mC (.int 2))) mNil))) (tgTup (tgCons (tgName 3) (tgCons (tgName 4) tgNil))) mTrue (mAndV (mOp idxM (mVar 3) (mC (.int 2))) (mNotV (mOp idxM (mVar 4) (mC (.int 2)))))) mNil)))
def m_lost_single : MF := mFn 5 (m_lost_single_s0)
theorem sc_m_lost_single : FnScope ["before", "after", "series", "one", "two"] ["before", "after", "series"] (defScope s_lost_single) := ⟨rfl, rfl, rfl, by decide +kernel, rfl, by decide +kernel, by decide +kernel⟩
theorem ok_lost_single {P : Program} {w : PySem.World} {K : PySem.W.Frag} {mg : Str → Option Value} {base : Heap} {f : Addr} {fd : FuncData} (g : Gs K mg) (F : FunD K "lost_single" "lost_single" (defArgs s_lost_single) (defBody s_lost_single) (defScope s_lost_single) [] [] f fd) (hg : mg "lost_single" = some (.ref f)) : FN P w K mg base 1 3 "lost_single" m_lost_single := by
  refine ⟨f, fd, ["before", "after", "series"], ?_, hg, F.kp, F.bindsN fun _ _ _ _ _ _ us hl => match us, hl with | [_, _, _], _ => rfl⟩
  refine F.ok sc_m_lost_single (fun vs H Q E h => h.1) (fun cdv A outer s H vs Q E hr h => body_ok (m := m_lost_single_s0) (by decide) ?_ h)
  exact (sss_one (ss_ret (se_callB (crM_any rfl) pu_any rfl g.b_any bt_any (sa_cons (se_lc (fr := true) (own := [("one", 3), ("two", 4)]) rfl sc_m_lost_single.nd (si_zip2 rfl g.b_zip (sa_cons (se_ix (Room.u1 hr) (fun _ _ => rfl) (se_ix (Room.u1 hr) (fun _ _ => rfl) (sv 0) (sv 2) pu_ix) se_int pu_ix) (sa_cons (se_ix (Room.u1 hr) (fun _ _ => rfl) (se_ix (Room.u1 hr) (fun _ _ => rfl) (sv 1) (sv 2) pu_ix) se_int pu_ix) sa_nil))) (blkOk_by rfl) (fun _ _ _ _ _ => (sg_tup rfl (sgs_cons (sn 3 sc_m_lost_single.nd) (sgs_cons (sn 4 sc_m_lost_single.nd) sgs_nil)))) (fun _ _ _ _ _ => sts_nil) (fun _ _ _ _ _ => (se_and (se_ix (Room.u1 hr) (fun _ _ => rfl) (sv 3) se_int pu_ix) (se_one (se_not (se_ix (Room.u1 hr) (fun _ _ => rfl) (sv 4) se_int pu_ix))))) (by decide)) sa_nil))))
def m_step_faults_s0 : MS := (mAsg (mCell mNil) (tgName 5))
def m_step_faults_s2 : MS := (mDrop (mApp (mVar 5) (mC (.str "room"))))
def m_step_faults_s1 : MS := (mIfS (mAnd (mTest (mOp eqM (mVar 4) (mC (.str "done")))) (mAnd (mTest (mOp inM (mOp idxM (mVar 3) (mC (.int 0))) (mTup (mCons (mC (.str "room")) (mCons (mC (.str "one")) mNil))))) (mTest (mCallF m_meets_room (mCons (mVar 1) (mCons (mVar 2) mNil)))))) m_step_faults_s2 mNext)
def m_step_faults_s4 : MS := (mDrop (mApp (mVar 5) (mC (.str "person"))))
def m_step_faults_s3 : MS := (mIfS (mAnd (mTest (mOp eqM (mVar 4) (mC (.str "done")))) (mAnd (mTest (mOp inM (mOp idxM (mVar 3) (mC (.int 0))) (mTup (mCons (mC (.str "person")) (mCons (mC (.str "one")) mNil))))) (mTest (mCallF m_meets_person (mCons (mVar 1) (mCons (mVar 2) mNil)))))) m_step_faults_s4 mNext)
def m_step_faults_s6 : MS := (mDrop (mApp (mVar 5) (mC (.str "lost"))))
def m_step_faults_s5 : MS := (mIfS (mAnd (mTest (mOp inM (mOp idxM (mVar 3) (mC (.int 0))) (mTup (mCons (mC (.str "room")) (mCons (mC (.str "person")) mNil))))) (mTest (mCallF m_lost_single (mCons (mVar 0) (mCons (mVar 1) (mCons (mVar 2) mNil)))))) m_step_faults_s6 mNext)
def m_step_faults_s8 : MS := (mDrop (mApp (mVar 5) (mC (.str "elder"))))
def m_step_faults_s7 : MS := (mIfS (mAnd (mTest (mOp eqM (mOp idxM (mVar 3) (mC (.int 0))) (mC (.str "tell")))) (mTest (mOp neM (mVar 4) (mCallF m_person_hours (mCons (mVar 1) (mCons (mVar 2) mNil)))))) m_step_faults_s8 mNext)
def m_step_faults_s9 : MS := (mRet (mVar 5))
def m_step_faults : MF := mFn 6 ((mSeq m_step_faults_s0 (mSeq m_step_faults_s1 (mSeq m_step_faults_s3 (mSeq m_step_faults_s5 (mSeq m_step_faults_s7 m_step_faults_s9))))))
theorem sc_m_step_faults : FnScope ["before", "after", "series", "step", "told", "found"] ["before", "after", "series", "step", "told"] (defScope s_step_faults) := ⟨rfl, rfl, rfl, by decide +kernel, rfl, by decide +kernel, by decide +kernel⟩
theorem ok_step_faults {P : Program} {w : PySem.World} {K : PySem.W.Frag} {mg : Str → Option Value} {base : Heap} {f : Addr} {fd : FuncData} (g : Gs K mg) (h_meets_room : FN P w K mg base 2 2 "meets_room" m_meets_room) (h_meets_person : FN P w K mg base 2 2 "meets_person" m_meets_person) (h_lost_single : FN P w K mg base 1 3 "lost_single" m_lost_single) (h_person_hours : FN P w K mg base 1 2 "person_hours" m_person_hours) (F : FunD K "step_faults" "step_faults" (defArgs s_step_faults) (defBody s_step_faults) (defScope s_step_faults) [] [] f fd) (hg : mg "step_faults" = some (.ref f)) : FN P w K mg base 3 5 "step_faults" m_step_faults := by
  refine ⟨f, fd, ["before", "after", "series", "step", "told"], ?_, hg, F.kp, F.bindsN fun _ _ _ _ _ _ us hl => match us, hl with | [_, _, _, _, _], _ => rfl⟩
  refine F.ok sc_m_step_faults (fun vs H Q E h => h.1) (fun cdv A outer s H vs Q E hr h => body_ok (m := (mSeq m_step_faults_s0 (mSeq m_step_faults_s1 (mSeq m_step_faults_s3 (mSeq m_step_faults_s5 (mSeq m_step_faults_s7 m_step_faults_s9)))))) (by decide) ?_ h)
  exact (sss_cons (sset 5 sc_m_step_faults.nd (se_cell sa_nil lenNil (by decide))) (sss_cons (ss_if (st_w (sw_and (st_cmp (opM_eq (Room.u64 hr)) pu_eq (nomark _) (sv 4) se_str) (sw_and (st_cmp (opM_in (Room.u65 hr)) pu_in (by with_unfolding_all rfl) (se_ix (Room.u1 hr) (fun _ _ => rfl) (sv 3) se_int pu_ix) (se_tup (sa_cons se_str (sa_cons se_str sa_nil)) (lenCons (lenCons lenNil)) (by decide))) (sw_and1 (st_val (se_callN h_meets_room hr (by decide) rfl takes_cx (sa_cons (sv 1) (sa_cons (sv 2) sa_nil)) (lenCons (lenCons lenNil)))))))) (sss_one (ss_expr (se_app (sv 5) se_str))) sss_nil) (sss_cons (ss_if (st_w (sw_and (st_cmp (opM_eq (Room.u64 hr)) pu_eq (nomark _) (sv 4) se_str) (sw_and (st_cmp (opM_in (Room.u65 hr)) pu_in (by with_unfolding_all rfl) (se_ix (Room.u1 hr) (fun _ _ => rfl) (sv 3) se_int pu_ix) (se_tup (sa_cons se_str (sa_cons se_str sa_nil)) (lenCons (lenCons lenNil)) (by decide))) (sw_and1 (st_val (se_callN h_meets_person hr (by decide) rfl takes_cx (sa_cons (sv 1) (sa_cons (sv 2) sa_nil)) (lenCons (lenCons lenNil)))))))) (sss_one (ss_expr (se_app (sv 5) se_str))) sss_nil) (sss_cons (ss_if (st_w (sw_and (st_cmp (opM_in (Room.u65 hr)) pu_in (by with_unfolding_all rfl) (se_ix (Room.u1 hr) (fun _ _ => rfl) (sv 3) se_int pu_ix) (se_tup (sa_cons se_str (sa_cons se_str sa_nil)) (lenCons (lenCons lenNil)) (by decide))) (sw_and1 (st_val (se_callN h_lost_single hr (by decide) rfl takes_cx (sa_cons (sv 0) (sa_cons (sv 1) (sa_cons (sv 2) sa_nil))) (lenCons (lenCons (lenCons lenNil)))))))) (sss_one (ss_expr (se_app (sv 5) se_str))) sss_nil) (sss_cons (ss_if (st_w (sw_and (st_cmp (opM_eq (Room.u64 hr)) pu_eq (nomark _) (se_ix (Room.u1 hr) (fun _ _ => rfl) (sv 3) se_int pu_ix) se_str) (sw_and1 (st_cmp (opM_ne (Room.u64 hr)) pu_ne (nomark _) (sv 4) (se_callN h_person_hours hr (by decide) rfl takes_cx (sa_cons (sv 1) (sa_cons (sv 2) sa_nil)) (lenCons (lenCons lenNil))))))) (sss_one (ss_expr (se_app (sv 5) se_str))) sss_nil) (sss_one (ss_ret (sv 5))))))))
def m_is_half_s1 : MS := (mRet (mC (.bl false)))
def m_is_half_s0 : MS := (mIfS (mTest (mCallF anyM (mCons (mLc true [4, 5] (mZip2 (mCons (mVar 1) (mCons (mOp idxM (mVar 0) (mC (.int 3))) mNil))) (tgTup (tgCons (tgName 4) (tgCons (tgName 5) tgNil))) mTrue (mOp ltM (mVar 4) (mCallF lenM (mCons (mOp idxM (mVar 5) (mC (.int 1))) mNil)))) mNil))) m_is_half_s1 mNext)
def m_is_half_s2 : MS := (mRet (mCallF anyM (mCons (mLc2 true [3, 6, 7, 8] [6, 7, 8] (mSrc (mVar 2)) (tgName 3) mTrue (mSrc (mOp idxM (mVar 3) (mC (.int 2)))) (tgTup (tgCons (tgName 6) (tgCons (tgName 7) (tgCons (tgName 8) tgNil)))) mTrue (mOp neM (mVar 6) (mVar 7))) mNil)))
def m_is_half : MF := mFn 9 ((mSeq m_is_half_s0 m_is_half_s2))
theorem sc_m_is_half : FnScope ["world", "places", "standing", "row", "place", "hand", "room", "there", "single"] ["world", "places", "standing"] (defScope s_is_half) := ⟨rfl, rfl, rfl, by decide +kernel, rfl, by decide +kernel, by decide +kernel⟩
theorem ok_is_half {P : Program} {w : PySem.World} {K : PySem.W.Frag} {mg : Str → Option Value} {base : Heap} {f : Addr} {fd : FuncData} (g : Gs K mg) (F : FunD K "is_half" "is_half" (defArgs s_is_half) (defBody s_is_half) (defScope s_is_half) [] [] f fd) (hg : mg "is_half" = some (.ref f)) : FN P w K mg base 1 3 "is_half" m_is_half := by
  refine ⟨f, fd, ["world", "places", "standing"], ?_, hg, F.kp, F.bindsN fun _ _ _ _ _ _ us hl => match us, hl with | [_, _, _], _ => rfl⟩
  refine F.ok sc_m_is_half (fun vs H Q E h => h.1) (fun cdv A outer s H vs Q E hr h => body_ok (m := (mSeq m_is_half_s0 m_is_half_s2)) (by decide) ?_ h)
  exact (sss_cons (ss_if (st_val (se_callB (crM_any rfl) pu_any rfl g.b_any bt_any (sa_cons (se_lc (fr := true) (own := [("place", 4), ("hand", 5)]) rfl sc_m_is_half.nd (si_zip2 rfl g.b_zip (sa_cons (sv 1) (sa_cons (se_ix (Room.u1 hr) (fun _ _ => rfl) (sv 0) se_int pu_ix) sa_nil))) (blkOk_by rfl) (fun _ _ _ _ _ => (sg_tup rfl (sgs_cons (sn 4 sc_m_is_half.nd) (sgs_cons (sn 5 sc_m_is_half.nd) sgs_nil)))) (fun _ _ _ _ _ => sts_nil) (fun _ _ _ _ _ => (se_cmp (opM_int op_lt) pu_cmpI (nomark _) (sv 4) (se_callB crM_len pu_len rfl g.b_len bt_len (sa_cons (se_ix (Room.u1 hr) (fun _ _ => rfl) (sv 5) se_int pu_ix) sa_nil)))) (by decide)) sa_nil))) (sss_one (ss_ret se_bl)) sss_nil) (sss_one (ss_ret (se_callB (crM_any rfl) pu_any rfl g.b_any bt_any (sa_cons (se_lc2 (fr := true) (own := [("row", 3), ("room", 6), ("there", 7), ("single", 8)]) (vs1 := [6, 7, 8]) rfl sc_m_is_half.nd (si_seq (sv 2)) (blkOk_by rfl) (by decide) (fun _ _ _ _ _ => (sn 3 sc_m_is_half.nd)) (fun _ _ _ _ _ => sts_nil) (fun _ _ _ _ _ => (si_seq (se_ix (Room.u1 hr) (fun _ _ => rfl) (sv 3) se_int pu_ix))) (fun _ _ _ _ _ => (sg_tup rfl (sgs_cons (sn 6 sc_m_is_half.nd) (sgs_cons (sn 7 sc_m_is_half.nd) (sgs_cons (sn 8 sc_m_is_half.nd) sgs_nil))))) (fun _ _ _ _ _ => sts_nil) (fun _ _ _ _ _ => (se_cmp (opM_ne (Room.u64 hr)) pu_ne (nomark _) (sv 6) (sv 7))) (by decide) (by decide)) sa_nil)))))
def m_led_s0 : MS := (mAsg (mVar 2) (tgTup (tgCons (tgName 6) (tgCons (tgName 7) (tgCons (tgName 8) tgNil)))))
def m_led_s1 : MS := (mAsg (mOp idxM (mOp idxM (mVar 1) (mC (.int 3))) (mVar 3)) (tgTup (tgCons (tgName 9) (tgCons (tgName 10) tgNil))))
def m_led_s2 : MS := (mAsg (mOp idxM (mVar 10) (mOp idxM (mVar 6) (mVar 3))) (tgName 4))
def m_led_s3 : MS := (mAsg (mCallF m_stepped (mCons (mVar 0) (mCons (mVar 1) (mCons (mVar 8) (mCons (mVar 9) (mCons (mOp idxM (mVar 7) (mVar 3)) (mCons (mVar 4) mNil))))))) (tgTup (tgCons (tgName 11) (tgCons (tgName 12) (tgCons (tgName 13) tgNil)))))
def m_led_s4 : MS := (mAsg (mCallF m_step_faults (mCons (mVar 8) (mCons (mVar 13) (mCons (mVar 9) (mCons (mVar 4) (mCons (mVar 11) mNil)))))) (tgName 5))
def m_led_s5 : MS := (mAsg (mOp addM (mOp addM (mSlice (mVar 6) moNone (moSome (mVar 3))) (mTup (mCons (mOp addM (mOp idxM (mVar 6) (mVar 3)) (mC (.int 1))) mNil))) (mSlice (mVar 6) (moSome (mOp addM (mVar 3) (mC (.int 1)))) moNone)) (tgName 6))
def m_led_s7 : MS := (mDrop (mApp (mVar 5) (mC (.str "half"))))
def m_led_s6 : MS := (mIfS (mTest (mCallF m_is_half (mCons (mVar 1) (mCons (mVar 6) (mCons (mVar 13) mNil))))) m_led_s7 mNext)
def m_led_s8 : MS := (mRet (mTup (mCons (mVar 11) (mCons (mTup (mCons (mVar 6) (mCons (mOp addM (mOp addM (mSlice (mVar 7) moNone (moSome (mVar 3))) (mTup (mCons (mVar 12) mNil))) (mSlice (mVar 7) (moSome (mOp addM (mVar 3) (mC (.int 1)))) moNone)) (mCons (mVar 13) mNil)))) (mCons (mVar 5) mNil)))))
def m_led : MF := frzF (mFn 14 ((mSeq m_led_s0 (mSeq m_led_s1 (mSeq m_led_s2 (mSeq m_led_s3 (mSeq m_led_s4 (mSeq m_led_s5 (mSeq m_led_s6 m_led_s8)))))))))
theorem sc_m_led : FnScope ["rule", "world", "state", "hand", "step", "found", "places", "memories", "standing", "series", "steps", "told", "memory", "after"] ["rule", "world", "state", "hand"] (defScope s_led) := ⟨rfl, rfl, rfl, by decide +kernel, rfl, by decide +kernel, by decide +kernel⟩
theorem ok_led {P : Program} {w : PySem.World} {K : PySem.W.Frag} {mg : Str → Option Value} {base : Heap} {f : Addr} {fd : FuncData} (g : Gs K mg) (h_stepped : FN P w K mg base 4 6 "stepped" m_stepped) (h_step_faults : FN P w K mg base 3 5 "step_faults" m_step_faults) (h_is_half : FN P w K mg base 1 3 "is_half" m_is_half) (F : FunD K "led" "led" (defArgs s_led) (defBody s_led) (defScope s_led) [] [] f fd) (hg : mg "led" = some (.ref f)) : FN P w K mg base 5 4 "led" m_led := by
  refine ⟨f, fd, ["rule", "world", "state", "hand"], ?_, hg, F.kp, F.bindsN fun _ _ _ _ _ _ us hl => match us, hl with | [_, _, _, _], _ => rfl⟩
  refine frz_ok (m := mFn _ _) (F.ok sc_m_led (fun vs H Q E h => h.1) (fun cdv A outer s H vs Q E hr h => body_ok (m := (mSeq m_led_s0 (mSeq m_led_s1 (mSeq m_led_s2 (mSeq m_led_s3 (mSeq m_led_s4 (mSeq m_led_s5 (mSeq m_led_s6 m_led_s8)))))))) (by decide) ?_ h))
  exact (sss_cons (ss_asg (sv 2) (sg_tup rfl (sgs_cons (sn 6 sc_m_led.nd) (sgs_cons (sn 7 sc_m_led.nd) (sgs_cons (sn 8 sc_m_led.nd) sgs_nil))))) (sss_cons (ss_asg (se_ix (Room.u1 hr) (fun _ _ => rfl) (se_ix (Room.u1 hr) (fun _ _ => rfl) (sv 1) se_int pu_ix) (sv 3) pu_ix) (sg_tup rfl (sgs_cons (sn 9 sc_m_led.nd) (sgs_cons (sn 10 sc_m_led.nd) sgs_nil)))) (sss_cons (sset 4 sc_m_led.nd (se_ix (Room.u1 hr) (fun _ _ => rfl) (sv 10) (se_ix (Room.u1 hr) (fun _ _ => rfl) (sv 6) (sv 3) pu_ix) pu_ix)) (sss_cons (ss_asg (se_callN h_stepped hr (by decide) rfl takes_cx (sa_cons (sv 0) (sa_cons (sv 1) (sa_cons (sv 8) (sa_cons (sv 9) (sa_cons (se_ix (Room.u1 hr) (fun _ _ => rfl) (sv 7) (sv 3) pu_ix) (sa_cons (sv 4) sa_nil)))))) (lenCons (lenCons (lenCons (lenCons (lenCons (lenCons lenNil))))))) (sg_tup rfl (sgs_cons (sn 11 sc_m_led.nd) (sgs_cons (sn 12 sc_m_led.nd) (sgs_cons (sn 13 sc_m_led.nd) sgs_nil))))) (sss_cons (sset 5 sc_m_led.nd (se_callN h_step_faults hr (by decide) rfl takes_cx (sa_cons (sv 8) (sa_cons (sv 13) (sa_cons (sv 9) (sa_cons (sv 4) (sa_cons (sv 11) sa_nil))))) (lenCons (lenCons (lenCons (lenCons (lenCons lenNil))))))) (sss_cons (sset 6 sc_m_led.nd (se_op opM_add pu_add (se_op opM_add pu_add (se_slice (sv 6) so_none (so_some (sv 3))) (se_tup (sa_cons (se_op opM_add pu_add (se_ix (Room.u1 hr) (fun _ _ => rfl) (sv 6) (sv 3) pu_ix) se_int) sa_nil) (lenCons lenNil) (by decide))) (se_slice (sv 6) (so_some (se_op opM_add pu_add (sv 3) se_int)) so_none))) (sss_cons (ss_if (st_val (se_callN h_is_half hr (by decide) rfl takes_cx (sa_cons (sv 1) (sa_cons (sv 6) (sa_cons (sv 13) sa_nil))) (lenCons (lenCons (lenCons lenNil))))) (sss_one (ss_expr (se_app (sv 5) se_str))) sss_nil) (sss_one (ss_ret (se_tup (sa_cons (sv 11) (sa_cons (se_tup (sa_cons (sv 6) (sa_cons (se_op opM_add pu_add (se_op opM_add pu_add (se_slice (sv 7) so_none (so_some (sv 3))) (se_tup (sa_cons (sv 12) sa_nil) (lenCons lenNil) (by decide))) (se_slice (sv 7) (so_some (se_op opM_add pu_add (sv 3) se_int)) so_none)) (sa_cons (sv 13) sa_nil))) (lenCons (lenCons (lenCons lenNil))) (by decide)) (sa_cons (sv 5) sa_nil))) (lenCons (lenCons (lenCons lenNil))) (by decide)))))))))))
def m_walked_s0 : MS := (mAsg (mTup (mCons (mCallF m_begin (mCons (mVar 1) mNil)) (mCons (mC .non) mNil))) (tgName 3))
def m_walked_s1 : MS := (mAsg (mDct1T false (mVar 3) (mTup mNil)) (tgName 4))
def m_walked_s2 : MS := (mAsg (fun _ S => mkD false [] [] S) (tgName 5))
def m_walked_s3 : MS := (mAsg (mCell (mCons (mVar 3) mNil)) (tgName 6))
def m_walked_s4 : MS := (mAsg (mC (.int 0)) (tgName 7))
def m_walked_s6 : MS := (mAsg (mOp idxM (mVar 6) (mVar 7)) (tgTup (tgCons (tgName 10) (tgCons (tgName 11) tgNil))))
def m_walked_s7 : MS := (mAsg (mOp idxTM (mVar 4) (mOp idxM (mVar 6) (mVar 7))) (tgName 8))
def m_walked_s8 : MS := (mAugI 7 (mC (.int 1)))
def m_walked_s10 : MS := (mAsg (mCallF m_led (mCons (mVar 0) (mCons (mVar 1) (mCons (mVar 10) (mCons (mVar 9) mNil))))) (tgTup (tgCons (tgName 15) (tgCons (tgName 16) (tgCons (tgName 17) tgNil)))))
def m_walked_s13 : MS := (mSub (mCallF (lstM true) (mCons (mOp addM (mVar 8) (mTup (mCons (mVar 9) mNil))) mNil)) (mVar 5) (mVar 12))
def m_walked_s12 : MS := (mIfS (mTest (mOp ninM (mVar 12) (mVar 5))) m_walked_s13 mNext)
def m_walked_s11 : MS := (mFor (mSrc (mVar 17)) (tgName 12) m_walked_s12)
def m_walked_s14 : MS := (mAsg (mTup (mCons (mVar 9) (mCons (mOp idxM (mOp idxM (mVar 10) (mC (.int 0))) (mVar 9)) mNil))) (tgName 13))
def m_walked_s15 : MS := (mAsg (mTup (mCons (mVar 16) (mCons (mIf (mTest (mOp inM (mVar 13) (mVar 2))) (mVar 13) (mC .non)) mNil))) (tgName 14))
def m_walked_s17 : MS := (mSubT (mOp addM (mVar 8) (mTup (mCons (mVar 9) mNil))) (mVar 4) (mVar 14))
def m_walked_s18 : MS := (mDrop (mApp (mVar 6) (mVar 14)))
def m_walked_s16 : MS := (mIfS (mTest (mOp ninTM (mVar 14) (mVar 4))) (mSeq m_walked_s17 m_walked_s18) mNext)
def m_walked_s9 : MS := (mFor (mSrc (mCallF m_hands_at (mCons (mVar 1) (mCons (mVar 10) (mCons (mVar 2) (mCons (mVar 11) mNil)))))) (tgName 9) (mSeq m_walked_s10 (mSeq m_walked_s11 (mSeq m_walked_s14 (mSeq m_walked_s15 m_walked_s16)))))
def m_walked_s5 : MS := (mWhile (mTest (mOp ltM (mVar 7) (mCallF lenM (mCons (mVar 6) mNil)))) (mSeq m_walked_s6 (mSeq m_walked_s7 (mSeq m_walked_s8 m_walked_s9))) 70000)
def m_walked_s19 : MS := (mRet (mTup (mCons (mVar 4) (mCons (mVar 5) mNil))))
def m_walked : MF := mFn 18 ((mSeq m_walked_s0 (mSeq m_walked_s1 (mSeq m_walked_s2 (mSeq m_walked_s3 (mSeq m_walked_s4 (mSeq m_walked_s5 m_walked_s19)))))))
theorem sc_m_walked : FnScope ["rule", "world", "joints", "first", "found", "faults", "waiting", "at", "weaving", "hand", "state", "last", "fault", "step", "key", "told", "after", "there"] ["rule", "world", "joints"] (defScope s_walked) := ⟨rfl, rfl, rfl, by decide +kernel, rfl, by decide +kernel, by decide +kernel⟩
theorem ok_walked {P : Program} {w : PySem.World} {K : PySem.W.Frag} {mg : Str → Option Value} {base : Heap} {f : Addr} {fd : FuncData} (g : Gs K mg) (h_begin : FN P w K mg base 2 1 "begin" m_begin) (h_hands_at : FN P w K mg base 3 4 "hands_at" m_hands_at) (h_led : FN P w K mg base 5 4 "led" m_led) (F : FunD K "walked" "walked" (defArgs s_walked) (defBody s_walked) (defScope s_walked) [] [] f fd) (hg : mg "walked" = some (.ref f)) : FN P w K mg base 6 3 "walked" m_walked := by
  refine ⟨f, fd, ["rule", "world", "joints"], ?_, hg, F.kp, F.bindsN fun _ _ _ _ _ _ us hl => match us, hl with | [_, _, _], _ => rfl⟩
  refine F.ok sc_m_walked (fun vs H Q E h => h.1) (fun cdv A outer s H vs Q E hr h => body_ok (m := (mSeq m_walked_s0 (mSeq m_walked_s1 (mSeq m_walked_s2 (mSeq m_walked_s3 (mSeq m_walked_s4 (mSeq m_walked_s5 m_walked_s19))))))) (by decide) ?_ h)
  exact (sss_cons (sset 3 sc_m_walked.nd (se_tup (sa_cons (se_callN h_begin hr (by decide) rfl takes_cx (sa_cons (sv 1) sa_nil) (lenCons lenNil)) (sa_cons se_non sa_nil)) (lenCons (lenCons lenNil)) (by decide))) (sss_cons (sset 4 sc_m_walked.nd (se_dict1T (fr := false) (Room.u65 hr) (sv 3) (se_tup sa_nil lenNil (by decide)))) (sss_cons (sset 5 sc_m_walked.nd (se_dnew (fr := false))) (sss_cons (sset 6 sc_m_walked.nd (se_cell (sa_cons (sv 3) sa_nil) (lenCons lenNil) (by decide))) (sss_cons (sset 7 sc_m_walked.nd se_int) (sss_cons (ss_while 70000 pass_cx (st_cmp (opM_int op_lt) pu_cmpI (nomark _) (sv 7) (se_callB crM_len pu_len rfl g.b_len bt_len (sa_cons (sv 6) sa_nil))) (sss_cons (ss_asg (se_ix (Room.u1 hr) (fun _ _ => rfl) (sv 6) (sv 7) pu_ix) (sg_tup rfl (sgs_cons (sn 10 sc_m_walked.nd) (sgs_cons (sn 11 sc_m_walked.nd) sgs_nil)))) (sss_cons (sset 8 sc_m_walked.nd (se_ixT (Room.u65 hr) (fun _ _ => rfl) (sv 4) (se_ix (Room.u1 hr) (fun _ _ => rfl) (sv 6) (sv 7) pu_ix) pu_ixT)) (sss_cons (saug 7 sc_m_walked.nd se_int) (sss_one (ss_for pass_cx rfl (si_seq (se_callN h_hands_at hr (by decide) rfl takes_cx (sa_cons (sv 1) (sa_cons (sv 10) (sa_cons (sv 2) (sa_cons (sv 11) sa_nil)))) (lenCons (lenCons (lenCons (lenCons lenNil)))))) (sn 9 sc_m_walked.nd) (sss_cons (ss_asg (se_callN h_led hr (by decide) rfl takes_cx (sa_cons (sv 0) (sa_cons (sv 1) (sa_cons (sv 10) (sa_cons (sv 9) sa_nil)))) (lenCons (lenCons (lenCons (lenCons lenNil))))) (sg_tup rfl (sgs_cons (sn 15 sc_m_walked.nd) (sgs_cons (sn 16 sc_m_walked.nd) (sgs_cons (sn 17 sc_m_walked.nd) sgs_nil))))) (sss_cons (ss_for pass_cx rfl (si_seq (sv 17)) (sn 12 sc_m_walked.nd) (sss_one (ss_if (st_cmp (opM_nin (Room.u65 hr)) pu_nin (by with_unfolding_all rfl) (sv 12) (sv 5)) (sss_one (ss_sub (Room.u1 hr) (se_callTy (crM_list true) pu_list rfl g.b_list bt_list (sa_cons (se_op opM_add pu_add (sv 8) (se_tup (sa_cons (sv 9) sa_nil) (lenCons lenNil) (by decide))) sa_nil)) (sv 5) (sv 12))) sss_nil))) (sss_cons (sset 13 sc_m_walked.nd (se_tup (sa_cons (sv 9) (sa_cons (se_ix (Room.u1 hr) (fun _ _ => rfl) (se_ix (Room.u1 hr) (fun _ _ => rfl) (sv 10) se_int pu_ix) (sv 9) pu_ix) sa_nil)) (lenCons (lenCons lenNil)) (by decide))) (sss_cons (sset 14 sc_m_walked.nd (se_tup (sa_cons (sv 16) (sa_cons (se_if (st_cmp (opM_in (Room.u65 hr)) pu_in (by with_unfolding_all rfl) (sv 13) (sv 2)) (sv 13) se_non) sa_nil)) (lenCons (lenCons lenNil)) (by decide))) (sss_one (ss_if (st_cmp (opM_ninT (Room.u65 hr)) pu_ninT (by with_unfolding_all rfl) (sv 14) (sv 4)) (sss_cons (ss_subT (Room.u65 hr) (se_op opM_add pu_add (sv 8) (se_tup (sa_cons (sv 9) sa_nil) (lenCons lenNil) (by decide))) (sv 4) (sv 14)) (sss_one (ss_expr (se_app (sv 6) (sv 14))))) sss_nil)))))))))))) (sss_one (ss_ret (se_tup (sa_cons (sv 4) (sa_cons (sv 5) sa_nil)) (lenCons (lenCons lenNil)) (by decide))))))))))
def m_is_without_s0 : MS := (mAsg (mOp idxM (mCallF m_walked (mCons (mVar 0) (mCons (mVar 1) (mCons (mVar 2) mNil)))) (mC (.int 1))) (tgName 4))
def m_is_without_s1 : MS := (mRet (mNotV (mCallF anyM (mCons (mLc true [5] (mSrc (mVar 3)) (tgName 5) mTrue (mOp inM (mVar 5) (mVar 4))) mNil))))
def m_is_without : MF := frzF (mFn 6 ((mSeq m_is_without_s0 m_is_without_s1)))
theorem sc_m_is_without : FnScope ["rule", "world", "joints", "faults", "there", "fault"] ["rule", "world", "joints", "faults"] (defScope s_is_without) := ⟨rfl, rfl, rfl, by decide +kernel, rfl, by decide +kernel, by decide +kernel⟩
theorem ok_is_without {P : Program} {w : PySem.World} {K : PySem.W.Frag} {mg : Str → Option Value} {base : Heap} {f : Addr} {fd : FuncData} (g : Gs K mg) (h_walked : FN P w K mg base 6 3 "walked" m_walked) (F : FunD K "is_without" "is_without" (defArgs s_is_without) (defBody s_is_without) (defScope s_is_without) [] [] f fd) (hg : mg "is_without" = some (.ref f)) : FN P w K mg base 7 4 "is_without" m_is_without := by
  refine ⟨f, fd, ["rule", "world", "joints", "faults"], ?_, hg, F.kp, F.bindsN fun _ _ _ _ _ _ us hl => match us, hl with | [_, _, _, _], _ => rfl⟩
  refine frz_ok (m := mFn _ _) (F.ok sc_m_is_without (fun vs H Q E h => h.1) (fun cdv A outer s H vs Q E hr h => body_ok (m := (mSeq m_is_without_s0 m_is_without_s1)) (by decide) ?_ h))
  exact (sss_cons (sset 4 sc_m_is_without.nd (se_ix (Room.u1 hr) (fun _ _ => rfl) (se_callN h_walked hr (by decide) rfl takes_cx (sa_cons (sv 0) (sa_cons (sv 1) (sa_cons (sv 2) sa_nil))) (lenCons (lenCons (lenCons lenNil)))) se_int pu_ix)) (sss_one (ss_ret (se_not (se_callB (crM_any rfl) pu_any rfl g.b_any bt_any (sa_cons (se_lc (fr := true) (own := [("fault", 5)]) rfl sc_m_is_without.nd (si_seq (sv 3)) (blkOk_by rfl) (fun _ _ _ _ _ => (sn 5 sc_m_is_without.nd)) (fun _ _ _ _ _ => sts_nil) (fun _ _ _ _ _ => (se_cmp (opM_in (Room.u65 hr)) pu_in (by with_unfolding_all rfl) (sv 5) (sv 4))) (by decide)) sa_nil))))))
def m_Rule___init___s2 : MS := mStk
def m_Rule___init___s1 : MS := (mIfS (mOr (mNot (mTest (mIsi "str" (mVar 6)))) (mTest (mOp ninM (mVar 6) (mVar 7)))) m_Rule___init___s2 mNext)
def m_Rule___init___s0 : MS := (mFor (mZip3 (mCons (mC d_PARTS) (mCons (mTup (mCons (mVar 1) (mCons (mVar 2) (mCons (mVar 3) (mCons (mVar 4) mNil))))) (mCons (mC d_VALUES) mNil)))) (tgTup (tgCons (tgName 5) (tgCons (tgName 6) (tgCons (tgName 7) tgNil)))) m_Rule___init___s1)
def m_Rule___init___s3 : MS := (mFset "Rule" "checking" (mVar 1) (mVar 0))
def m_Rule___init___s4 : MS := (mFset "Rule" "singles" (mVar 2) (mVar 0))
def m_Rule___init___s5 : MS := (mFset "Rule" "halves" (mVar 3) (mVar 0))
def m_Rule___init___s6 : MS := (mFset "Rule" "telling" (mVar 4) (mVar 0))
def m_Rule___init__ : MF := mFn 8 ((mSeq m_Rule___init___s0 (mSeq m_Rule___init___s3 (mSeq m_Rule___init___s4 (mSeq m_Rule___init___s5 m_Rule___init___s6)))))
theorem sc_m_Rule___init__ : FnScope ["self", "checking", "singles", "halves", "telling", "part", "value", "some"] ["self", "checking", "singles", "halves", "telling"] (defScope s_Rule___init__) := ⟨rfl, rfl, rfl, by decide +kernel, rfl, by decide +kernel, by decide +kernel⟩
theorem ok_Rule___init__ {P : Program} {w : PySem.World} {K : PySem.W.Frag} {mg : Str → Option Value} {base : Heap} {fd : FuncData} (g : Gs K mg) (F : FunD K "__init__" "Rule.__init__" (defArgs s_Rule___init__) (defBody s_Rule___init__) (defScope s_Rule___init__) [] [] (He.ma K (He.ga K "Rule") "__init__") fd) : MN P w K mg base 1 5 "Rule" "__init__" m_Rule___init__ := by
  refine ⟨fd, ["self", "checking", "singles", "halves", "telling"], ?_, F.bindsN fun _ _ _ _ _ _ us hl => match us, hl with | [_, _, _, _, _], _ => rfl⟩
  refine F.ok sc_m_Rule___init__ (fun vs H Q E h => h.1) (fun cdv A outer s H vs Q E hr h => body_ok (m := (mSeq m_Rule___init___s0 (mSeq m_Rule___init___s3 (mSeq m_Rule___init___s4 (mSeq m_Rule___init___s5 m_Rule___init___s6))))) (by decide) ?_ h)
  exact (sss_cons (ss_for pass_cx rfl (si_zip3 rfl g.b_zip (sa_cons (se_globN g.k_PARTS rfl) (sa_cons (se_tup (sa_cons (sv 1) (sa_cons (sv 2) (sa_cons (sv 3) (sa_cons (sv 4) sa_nil)))) (lenCons (lenCons (lenCons (lenCons lenNil)))) (by decide)) (sa_cons (se_globN g.k_VALUES rfl) sa_nil)))) (sg_tup rfl (sgs_cons (sn 5 sc_m_Rule___init__.nd) (sgs_cons (sn 6 sc_m_Rule___init__.nd) (sgs_cons (sn 7 sc_m_Rule___init__.nd) sgs_nil)))) (sss_one (ss_if (st_w (sw_or (st_not (st_val (se_isi rfl g.b_isinstance rfl g.b_str bt_str (sv 6)))) (sw_or1 (st_cmp (opM_nin (Room.u65 hr)) pu_nin (by with_unfolding_all rfl) (sv 6) (sv 7))))) (sss_one ss_stk) sss_nil))) (sss_cons (ss_fset g.c_Rule g.n_Rule_checking (sv 1) (sv 0)) (sss_cons (ss_fset g.c_Rule g.n_Rule_singles (sv 2) (sv 0)) (sss_cons (ss_fset g.c_Rule g.n_Rule_halves (sv 3) (sv 0)) (sss_one (ss_fset g.c_Rule g.n_Rule_telling (sv 4) (sv 0)))))))
def m_rule_of_s0 : MS := (mRet (mCallF (makM "Rule" m_Rule___init__) (mCons (mOp idxM (mVar 0) (mC (.int 0))) (mCons (mOp idxM (mVar 0) (mC (.int 1))) (mCons (mOp idxM (mVar 0) (mC (.int 2))) (mCons (mOp idxM (mVar 0) (mC (.int 3))) mNil))))))
def m_rule_of : MF := frzF (mFn 1 (m_rule_of_s0))
theorem sc_m_rule_of : FnScope ["row"] ["row"] (defScope s_rule_of) := ⟨rfl, rfl, rfl, by decide +kernel, rfl, by decide +kernel, by decide +kernel⟩
theorem ok_rule_of {P : Program} {w : PySem.World} {K : PySem.W.Frag} {mg : Str → Option Value} {base : Heap} {f : Addr} {fd : FuncData} (g : Gs K mg) (h_Rule___init__ : MN P w K mg base 1 5 "Rule" "__init__" m_Rule___init__) (F : FunD K "rule_of" "rule_of" (defArgs s_rule_of) (defBody s_rule_of) (defScope s_rule_of) [] [] f fd) (hg : mg "rule_of" = some (.ref f)) : FN P w K mg base 3 1 "rule_of" m_rule_of := by
  refine ⟨f, fd, ["row"], ?_, hg, F.kp, F.bindsN fun _ _ _ _ _ _ us hl => match us, hl with | [_], _ => rfl⟩
  refine frz_ok (m := mFn _ _) (F.ok sc_m_rule_of (fun vs H Q E h => h.1) (fun cdv A outer s H vs Q E hr h => body_ok (m := m_rule_of_s0) (by decide) ?_ h))
  exact (sss_one (ss_ret (se_makeN h_Rule___init__ g.mk_Rule g.gc_Rule hr (by decide) rfl takes_cx (sa_cons (se_ix (Room.u1 hr) (fun _ _ => rfl) (sv 0) se_int pu_ix) (sa_cons (se_ix (Room.u1 hr) (fun _ _ => rfl) (sv 0) se_int pu_ix) (sa_cons (se_ix (Room.u1 hr) (fun _ _ => rfl) (sv 0) se_int pu_ix) (sa_cons (se_ix (Room.u1 hr) (fun _ _ => rfl) (sv 0) se_int pu_ix) sa_nil)))) (lenCons (lenCons (lenCons (lenCons lenNil)))))))
def m_with_turns_s0 : MS := (mAsg (mCallF dctPM (mCons (mVar 1) mNil)) (tgName 2))
def m_with_turns_s1 : MS := (mRet (mCallF m_rule_of (mCons (mLc true [3, 4] (mZip2 (mCons (mC d_PARTS) (mCons (mMeth "Rule" "parts" m_Rule_parts (mVar 0) mNil) mNil))) (tgTup (tgCons (tgName 3) (tgCons (tgName 4) tgNil))) mTrue (mDgetS (mVar 2) (mVar 3) (mVar 4))) mNil)))
def m_with_turns : MF := mFn 5 ((mSeq m_with_turns_s0 m_with_turns_s1))
theorem sc_m_with_turns : FnScope ["rule", "row", "table", "part", "value"] ["rule", "row"] (defScope s_with_turns) := ⟨rfl, rfl, rfl, by decide +kernel, rfl, by decide +kernel, by decide +kernel⟩
theorem ok_with_turns {P : Program} {w : PySem.World} {K : PySem.W.Frag} {mg : Str → Option Value} {base : Heap} {f : Addr} {fd : FuncData} (g : Gs K mg) (h_rule_of : FN P w K mg base 3 1 "rule_of" m_rule_of) (h_Rule_parts : MN P w K mg base 1 1 "Rule" "parts" m_Rule_parts) (F : FunD K "with_turns" "with_turns" (defArgs s_with_turns) (defBody s_with_turns) (defScope s_with_turns) [] [] f fd) (hg : mg "with_turns" = some (.ref f)) : FN P w K mg base 4 2 "with_turns" m_with_turns := by
  refine ⟨f, fd, ["rule", "row"], ?_, hg, F.kp, F.bindsN fun _ _ _ _ _ _ us hl => match us, hl with | [_, _], _ => rfl⟩
  refine F.ok sc_m_with_turns (fun vs H Q E h => h.1) (fun cdv A outer s H vs Q E hr h => body_ok (m := (mSeq m_with_turns_s0 m_with_turns_s1)) (by decide) ?_ h)
  exact (sss_cons (sset 2 sc_m_with_turns.nd (se_callTy (crM_dctP rfl) pu_dctP rfl g.b_dict bt_dict (sa_cons (sv 1) sa_nil))) (sss_one (ss_ret (se_callN h_rule_of hr (by decide) rfl takes_cx (sa_cons (se_lc (fr := true) (own := [("part", 3), ("value", 4)]) rfl sc_m_with_turns.nd (si_zip2 rfl g.b_zip (sa_cons (se_globN g.k_PARTS rfl) (sa_cons (se_methN0 h_Rule_parts g.c_Rule g.m_Rule_parts hr (by decide) takes_cx (sv 0)) sa_nil))) (blkOk_by rfl) (fun _ _ _ _ _ => (sg_tup rfl (sgs_cons (sn 3 sc_m_with_turns.nd) (sgs_cons (sn 4 sc_m_with_turns.nd) sgs_nil)))) (fun _ _ _ _ _ => sts_nil) (fun _ _ _ _ _ => (se_dget2 (Room.u1 hr) (sv 2) (sv 3) (sv 4))) (by decide)) sa_nil) (lenCons lenNil)))))
def m_mends_s0 : MS := (mDrop (mCallF m_check_world (mCons (mVar 1) mNil)))
def m_mends_s1 : MS := (mDrop (mCallF m_check_faults (mCons (mVar 2) mNil)))
def m_mends_s3 : MS := (mAsg (mCallF m_turnings_5 (mCons (mVar 0) (mCons (mC (.int 0)) (mCons (mVar 3) mNil)))) (tgName 4))
def m_mends_s4 : MS := (mAsg (mLc true [6] (mSrc (mVar 4)) (tgName 6) (mTest (mCallF m_is_without (mCons (mCallF m_with_turns (mCons (mVar 0) (mCons (mVar 6) mNil))) (mCons (mVar 1) (mCons (mTup mNil) (mCons (mVar 2) mNil)))))) (mVar 6)) (tgName 5))
def m_mends_s6 : MS := (mRet (mVar 5))
def m_mends_s5 : MS := (mIfS (mTruth (mVar 5)) m_mends_s6 mNext)
def m_mends_s2 : MS := (mFor (mRng (mCons (mOp addM (mCallF lenM (mCons (mC d_PARTS) mNil)) (mC (.int 1))) mNil)) (tgName 3) (mSeq m_mends_s3 (mSeq m_mends_s4 m_mends_s5)))
def m_mends_s7 : MS := (mRet (mLst mNil))
def m_mends : MF := mFn 7 ((mSeq m_mends_s0 (mSeq m_mends_s1 (mSeq m_mends_s2 m_mends_s7))))
theorem sc_m_mends : FnScope ["rule", "world", "faults", "size", "rows", "found", "row"] ["rule", "world", "faults"] (defScope s_mends) := ⟨rfl, rfl, rfl, by decide +kernel, rfl, by decide +kernel, by decide +kernel⟩
theorem ok_mends {P : Program} {w : PySem.World} {K : PySem.W.Frag} {mg : Str → Option Value} {base : Heap} {f : Addr} {fd : FuncData} (g : Gs K mg) (h_check_world : FN P w K mg base 5 1 "check_world" m_check_world) (h_check_faults : FN P w K mg base 1 1 "check_faults" m_check_faults) (h_turnings_5 : FN P w K mg base 6 3 "turnings" m_turnings_5) (h_is_without : FN P w K mg base 7 4 "is_without" m_is_without) (h_with_turns : FN P w K mg base 4 2 "with_turns" m_with_turns) (F : FunD K "mends" "mends" (defArgs s_mends) (defBody s_mends) (defScope s_mends) [] [] f fd) (hg : mg "mends" = some (.ref f)) : FN P w K mg base 8 3 "mends" m_mends := by
  refine ⟨f, fd, ["rule", "world", "faults"], ?_, hg, F.kp, F.bindsN fun _ _ _ _ _ _ us hl => match us, hl with | [_, _, _], _ => rfl⟩
  refine F.ok sc_m_mends (fun vs H Q E h => h.1) (fun cdv A outer s H vs Q E hr h => body_ok (m := (mSeq m_mends_s0 (mSeq m_mends_s1 (mSeq m_mends_s2 m_mends_s7)))) (by decide) ?_ h)
  exact (sss_cons (ss_expr (se_callN h_check_world hr (by decide) rfl takes_cx (sa_cons (sv 1) sa_nil) (lenCons lenNil))) (sss_cons (ss_expr (se_callN h_check_faults hr (by decide) rfl takes_cx (sa_cons (sv 2) sa_nil) (lenCons lenNil))) (sss_cons (ss_for pass_cx rfl (si_rng rfl g.b_range (sa_cons (se_op opM_add pu_add (se_callB crM_len pu_len rfl g.b_len bt_len (sa_cons (se_globN g.k_PARTS rfl) sa_nil)) se_int) sa_nil)) (sn 3 sc_m_mends.nd) (sss_cons (sset 4 sc_m_mends.nd (se_callN h_turnings_5 hr (by decide) rfl takes_cx (sa_cons (sv 0) (sa_cons se_int (sa_cons (sv 3) sa_nil))) (lenCons (lenCons (lenCons lenNil))))) (sss_cons (ss_setLc (fr := true) (own := [("row", 6)]) (i := 5) rfl sc_m_mends.nd rfl rfl (sw_true rfl rfl rfl rfl) (si_seq (sv 4)) (blkOk_by rfl) (fun _ _ _ _ _ => (sn 6 sc_m_mends.nd)) (fun _ _ _ _ _ => (sts_one (st_val (se_callN h_is_without hr (by decide) rfl takesNo (sa_cons (se_callN h_with_turns hr (by decide) rfl takesNo (sa_cons (sv 0) (sa_cons (sv 6) sa_nil)) (lenCons (lenCons lenNil))) (sa_cons (sv 1) (sa_cons (se_tup sa_nil lenNil (by decide)) (sa_cons (sv 2) sa_nil)))) (lenCons (lenCons (lenCons (lenCons lenNil)))))))) (fun _ _ _ _ _ => (sv 6)) (by decide)) (sss_one (ss_if (st_truth (sv 5)) (sss_one (ss_ret (sv 5))) sss_nil))))) (sss_one (ss_ret (se_lst sa_nil lenNil (by decide)))))))
def m_law_rule_s0 : MS := (mRet (mCallF (makM "Rule" m_Rule___init__) (mCons (mOp idxM (mVar 0) (mC (.int 0))) (mCons (mOp idxM (mVar 0) (mC (.int 1))) (mCons (mOp idxM (mVar 0) (mC (.int 2))) (mCons (mOp idxM (mVar 0) (mC (.int 3))) mNil))))))
def m_law_rule : MF := frzF (mFn 1 (m_law_rule_s0))
theorem sc_m_law_rule : FnScope ["_law_parts_here"] ["_law_parts_here"] (defScope s_law_rule) := ⟨rfl, rfl, rfl, by decide +kernel, rfl, by decide +kernel, by decide +kernel⟩
theorem ok_law_rule {P : Program} {w : PySem.World} {K : PySem.W.Frag} {mg : Str → Option Value} {base : Heap} {f : Addr} {fd : FuncData} (g : Gs K mg) (h_Rule___init__ : MN P w K mg base 1 5 "Rule" "__init__" m_Rule___init__) (F : FunD K "_law_rule" "_law_rule" (defArgs s_law_rule) (defBody s_law_rule) (defScope s_law_rule) [] [] f fd) (hg : mg "_law_rule" = some (.ref f)) : FN P w K mg base 3 1 "_law_rule" m_law_rule := by
  refine ⟨f, fd, ["_law_parts_here"], ?_, hg, F.kp, F.bindsN fun _ _ _ _ _ _ us hl => match us, hl with | [_], _ => rfl⟩
  refine frz_ok (m := mFn _ _) (F.ok sc_m_law_rule (fun vs H Q E h => h.1) (fun cdv A outer s H vs Q E hr h => body_ok (m := m_law_rule_s0) (by decide) ?_ h))
  exact (sss_one (ss_ret (se_makeN h_Rule___init__ g.mk_Rule g.gc_Rule hr (by decide) rfl takes_cx (sa_cons (se_ix (Room.u1 hr) (fun _ _ => rfl) (sv 0) se_int pu_ix) (sa_cons (se_ix (Room.u1 hr) (fun _ _ => rfl) (sv 0) se_int pu_ix) (sa_cons (se_ix (Room.u1 hr) (fun _ _ => rfl) (sv 0) se_int pu_ix) (sa_cons (se_ix (Room.u1 hr) (fun _ _ => rfl) (sv 0) se_int pu_ix) sa_nil)))) (lenCons (lenCons (lenCons (lenCons lenNil)))))))
def m_law_s0 : MS := (mAsg (mCallF m_law_begin (mCons (mVar 0) mNil)) (tgName 1))
def m_law_s1 : MS := (mAsg (mCallF m_law_parts (mCons (mVar 1) mNil)) (tgName 2))
def m_law_s2 : MS := (mAsg (mCallF m_law_world (mCons (mVar 1) (mCons (mOp idxM (mLst (mCons (mLst (mCons (mC (.int 3)) (mCons (mC (.int 2)) mNil))) (mCons (mLst (mCons (mC (.int 2)) (mCons (mC (.int 2)) mNil))) (mCons (mLst (mCons (mC (.int 4)) (mCons (mC (.int 1)) mNil))) (mCons (mLst (mCons (mC (.int 1)) (mCons (mC (.int 2)) (mCons (mC (.int 1)) mNil)))) mNil))))) (mCallF m_law_draw (mCons (mVar 1) (mCons (mC (.int 4)) mNil)))) mNil))) (tgName 3))
def m_law_s3 : MS := (mAsg (mCallF lstDM (mCons (mOp idxM (mCallF m_law_walk (mCons (mVar 2) (mCons (mVar 3) (mCons (mLst mNil) mNil)))) (mC (.int 1))) mNil)) (tgName 4))
def m_law_s4 : MS := (mAsg (mCell (mCons (mOp idxM (mCallF m_law_words mNil) (mCallF m_law_draw (mCons (mVar 1) (mCons (mC (.int 5)) mNil)))) mNil)) (tgName 5))
def m_law_s6 : MS := (mAsg (mCell (mCons (mOp idxM (mVar 4) (mCallF m_law_draw (mCons (mVar 1) (mCons (mCallF lenM (mCons (mVar 4) mNil)) mNil)))) mNil)) (tgName 5))
def m_law_s5 : MS := (mIfS (mTest (mOp gtM (mCallF lenM (mCons (mVar 4) mNil)) (mC (.int 0)))) m_law_s6 mNext)
def m_law_s8 : MS := (mDrop (mApp (mVar 5) (mOp idxM (mCallF m_law_words mNil) (mCallF m_law_draw (mCons (mVar 1) (mCons (mC (.int 5)) mNil))))))
def m_law_s7 : MS := (mIfS (mTest (mOp eqM (mCallF m_law_draw (mCons (mVar 1) (mCons (mC (.int 2)) mNil))) (mC (.int 0)))) m_law_s8 mNext)
def m_law_s9 : MS := (mRet (mCallF m_law_like_6 (mCons (mCallF m_mends (mCons (mCallF m_law_rule (mCons (mVar 2) mNil)) (mCons (mVar 3) (mCons (mVar 5) mNil)))) (mCons (mCallF m_law_due (mCons (mVar 2) (mCons (mVar 3) (mCons (mVar 5) mNil)))) mNil))))
def m_law : MF := mFn 6 ((mSeq m_law_s0 (mSeq m_law_s1 (mSeq m_law_s2 (mSeq m_law_s3 (mSeq m_law_s4 (mSeq m_law_s5 (mSeq m_law_s7 m_law_s9))))))))
theorem sc_m_law : FnScope ["_law_script", "_law_draws", "_law_parts_here", "_law_world_here", "_law_there", "_law_names_here"] ["_law_script"] (defScope s_law) := ⟨rfl, rfl, rfl, by decide +kernel, rfl, by decide +kernel, by decide +kernel⟩
theorem ok_law {P : Program} {w : PySem.World} {K : PySem.W.Frag} {mg : Str → Option Value} {base : Heap} {f : Addr} {fd : FuncData} (g : Gs K mg) (h_law_begin : FN P w K mg base 1 1 "_law_begin" m_law_begin) (h_law_parts : FN P w K mg base 2 1 "_law_parts" m_law_parts) (h_law_world : FN P w K mg base 3 2 "_law_world" m_law_world) (h_law_draw : FN P w K mg base 1 2 "_law_draw" m_law_draw) (h_law_walk : FN P w K mg base 5 3 "_law_walk" m_law_walk) (h_law_words : FN P w K mg base 1 0 "_law_words" m_law_words) (h_law_like_6 : FN P w K mg base 7 2 "_law_like" m_law_like_6) (h_law_due : FN P w K mg base 7 3 "_law_due" m_law_due) (h_mends : FN P w K mg base 8 3 "mends" m_mends) (h_law_rule : FN P w K mg base 3 1 "_law_rule" m_law_rule) (F : FunD K "law" "law" (defArgs s_law) (defBody s_law) (defScope s_law) [] [] f fd) : FnOk P w K mg base (L2.CX P w) 9 f fd ["_law_script"] (spM w K 1 m_law) := by
  refine F.ok sc_m_law (fun vs H Q E h => h.1) (fun cdv A outer s H vs Q E hr h => body_ok (m := (mSeq m_law_s0 (mSeq m_law_s1 (mSeq m_law_s2 (mSeq m_law_s3 (mSeq m_law_s4 (mSeq m_law_s5 (mSeq m_law_s7 m_law_s9)))))))) (by decide) ?_ h)
  exact (sss_cons (sset 1 sc_m_law.nd (se_callN h_law_begin hr (by decide) rfl takes_cx (sa_cons (sv 0) sa_nil) (lenCons lenNil))) (sss_cons (sset 2 sc_m_law.nd (se_callN h_law_parts hr (by decide) rfl takes_cx (sa_cons (sv 1) sa_nil) (lenCons lenNil))) (sss_cons (sset 3 sc_m_law.nd (se_callN h_law_world hr (by decide) rfl takes_cx (sa_cons (sv 1) (sa_cons (se_ix (Room.u1 hr) (fun _ _ => rfl) (se_lst (sa_cons (se_lst (sa_cons se_int (sa_cons se_int sa_nil)) (lenCons (lenCons lenNil)) (by decide)) (sa_cons (se_lst (sa_cons se_int (sa_cons se_int sa_nil)) (lenCons (lenCons lenNil)) (by decide)) (sa_cons (se_lst (sa_cons se_int (sa_cons se_int sa_nil)) (lenCons (lenCons lenNil)) (by decide)) (sa_cons (se_lst (sa_cons se_int (sa_cons se_int (sa_cons se_int sa_nil))) (lenCons (lenCons (lenCons lenNil))) (by decide)) sa_nil)))) (lenCons (lenCons (lenCons (lenCons lenNil)))) (by decide)) (se_callN h_law_draw hr (by decide) rfl takes_cx (sa_cons (sv 1) (sa_cons se_int sa_nil)) (lenCons (lenCons lenNil))) pu_ix) sa_nil)) (lenCons (lenCons lenNil)))) (sss_cons (sset 4 sc_m_law.nd (se_callTy (crM_listD rfl) pu_listD rfl g.b_list bt_list (sa_cons (se_ix (Room.u1 hr) (fun _ _ => rfl) (se_callN h_law_walk hr (by decide) rfl takes_cx (sa_cons (sv 2) (sa_cons (sv 3) (sa_cons (se_lst sa_nil lenNil (by decide)) sa_nil))) (lenCons (lenCons (lenCons lenNil)))) se_int pu_ix) sa_nil))) (sss_cons (sset 5 sc_m_law.nd (se_cell (sa_cons (se_ix (Room.u1 hr) (fun _ _ => rfl) (se_callN0 h_law_words hr (by decide) rfl px_law_words) (se_callN h_law_draw hr (by decide) rfl takes_cx (sa_cons (sv 1) (sa_cons se_int sa_nil)) (lenCons (lenCons lenNil))) pu_ix) sa_nil) (lenCons lenNil) (by decide))) (sss_cons (ss_if (st_cmp (opM_int op_gt) pu_cmpI (nomark _) (se_callB crM_len pu_len rfl g.b_len bt_len (sa_cons (sv 4) sa_nil)) se_int) (sss_one (sset 5 sc_m_law.nd (se_cell (sa_cons (se_ix (Room.u1 hr) (fun _ _ => rfl) (sv 4) (se_callN h_law_draw hr (by decide) rfl takes_cx (sa_cons (sv 1) (sa_cons (se_callB crM_len pu_len rfl g.b_len bt_len (sa_cons (sv 4) sa_nil)) sa_nil)) (lenCons (lenCons lenNil))) pu_ix) sa_nil) (lenCons lenNil) (by decide)))) sss_nil) (sss_cons (ss_if (st_cmp (opM_eq (Room.u64 hr)) pu_eq (nomark _) (se_callN h_law_draw hr (by decide) rfl takes_cx (sa_cons (sv 1) (sa_cons se_int sa_nil)) (lenCons (lenCons lenNil))) se_int) (sss_one (ss_expr (se_app (sv 5) (se_ix (Room.u1 hr) (fun _ _ => rfl) (se_callN0 h_law_words hr (by decide) rfl px_law_words) (se_callN h_law_draw hr (by decide) rfl takes_cx (sa_cons (sv 1) (sa_cons se_int sa_nil)) (lenCons (lenCons lenNil))) pu_ix)))) sss_nil) (sss_one (ss_ret (se_callN h_law_like_6 hr (by decide) rfl takes_cx (sa_cons (se_callN h_mends hr (by decide) rfl takes_cx (sa_cons (se_callN h_law_rule hr (by decide) rfl takes_cx (sa_cons (sv 2) sa_nil) (lenCons lenNil)) (sa_cons (sv 3) (sa_cons (sv 5) sa_nil))) (lenCons (lenCons (lenCons lenNil)))) (sa_cons (se_callN h_law_due hr (by decide) rfl takes_cx (sa_cons (sv 2) (sa_cons (sv 3) (sa_cons (sv 5) sa_nil))) (lenCons (lenCons (lenCons lenNil)))) sa_nil)) (lenCons (lenCons lenNil))))))))))))
end Lw
set_option Elab.async false
set_option linter.all false
set_option maxRecDepth 100000
set_option maxHeartbeats 4000000
namespace Mi
open PySem PySem.Spec PyProof.Rows L2
section
variable {ρ : Ev} {S : Sto} {a b c : ME} {m m' : MS} {ma : MA} {t u : MT} {d : MV} {i : Nat}
@[simp] theorem w_var' : mVar i ρ S = (match ρ[i]? with
  | some (some d) => .ok d S
  | _ => .stk) := rfl
@[simp] theorem w_c : mC d ρ S = .ok d S := rfl
@[simp] theorem w_op {f : MV → MV → Sto → R MV} : mOp f a b ρ S = (a ρ S).bind fun x S1 => (b ρ S1).bind fun y S2 => f x y S2 := rfl
@[simp] theorem w_test : mTest a ρ S = (a ρ S).bind toB := rfl
@[simp] theorem w_not : mNot t ρ S = (t ρ S).bind fun b S1 => .ok (!b) S1 := rfl
@[simp] theorem w_and : mAnd t u ρ S = (t ρ S).bind fun x S1 => if x then u ρ S1 else .ok false S1 := rfl
@[simp] theorem w_or : mOr t u ρ S = (t ρ S).bind fun x S1 => if x then .ok true S1 else u ρ S1 := rfl
@[simp] theorem w_andV : mAndV a b ρ S = (mTest a ρ S).bind fun x S1 => if x then b ρ S1 else .ok (.bl false) S1 := rfl
@[simp] theorem w_orV : mOrV a b ρ S = (mTest a ρ S).bind fun x S1 => if x then .ok (.bl true) S1 else b ρ S1 := rfl
@[simp] theorem w_notV : mNotV a ρ S = (mTest a ρ S).bind fun x S1 => .ok (.bl (!x)) S1 := rfl
@[simp] theorem w_if : mIf t a b ρ S = (t ρ S).bind fun x S1 => if x then a ρ S1 else b ρ S1 := rfl
@[simp] theorem w_nil : mNil ρ S = .ok [] S := rfl
@[simp] theorem w_cons : mCons a ma ρ S = (a ρ S).bind fun x S1 => (ma ρ S1).bind fun xs S2 => .ok (x :: xs) S2 := rfl
@[simp] theorem w_tup : mTup ma ρ S = (ma ρ S).bind fun xs S1 => .ok (.tup xs) S1 := rfl
@[simp] theorem w_lst : mLst ma ρ S = (ma ρ S).bind fun xs S1 => .ok (.lst xs) S1 := rfl
@[simp] theorem w_callF {f : List MV → Sto → R MV} : mCallF f ma ρ S = (ma ρ S).bind f := rfl
@[simp] theorem w_true : mTrue ρ S = .ok true S := rfl
@[simp] theorem w_toB {x : Bool} : toB (.bl x) S = .ok x S := rfl
@[simp] theorem w_next : mNext ρ S = .nx ρ S := rfl
@[simp] theorem w_ifS : mIfS t m m' ρ S = (t ρ S).thn ρ fun x S1 => if x then m ρ S1 else m' ρ S1 := rfl
@[simp] theorem w_ret : mRet a ρ S = (a ρ S).thn ρ fun d S1 => .rt d S1 := rfl
@[simp] theorem w_asg {g : Tg} : mAsg a g ρ S = (a ρ S).thn ρ fun d S1 => oS (g.f d ρ) S1 := rfl
@[simp] theorem w_name : (tgName i).f d ρ = some (ρ.set i (some d)) := rfl
@[simp] theorem w_oS {ρ' : Ev} : oS (some ρ') S = .nx ρ' S := rfl
@[simp] theorem w_toR {S1 : Sto} : toR (.rt d S1) = .ok d S1 := rfl
@[simp] theorem w_toRn : toR (.nx ρ S) = .ok .non S := rfl
end
theorem enmI_ty {α : Type} (enc : α → MV) : ∀ (xs : List α) (k : Nat), enmI k (xs.map enc) = (xs.zipIdx k).map fun x => .tup [.int (x.2 : Nat), enc x.1]
  | [], k => rfl
  | x :: xs, k => by rw [List.map_cons, enmI, enmI_ty enc xs (k + 1)]; rfl
theorem zipI_ty {α β : Type} (f : α → MV) (g : β → MV) : ∀ (xs : List α) (ys : List β), zipI (xs.map f) (ys.map g) = (xs.zip ys).map fun x => .tup [f x.1, g x.2]
  | [], ys => by simp [zipI]
  | x :: xs, [] => by simp [zipI]
  | x :: xs, y :: ys => by rw [List.map_cons, List.map_cons, zipI, zipI_ty f g xs ys]; rfl
def hv : Option Int → MV
  | none => .non
  | some i => .int i
@[simp] theorem eq_int {a b : Int} {S : Sto} : eqM (.int a) (.int b) S = .ok (.bl (decide (a = b))) S := by simp [eqM, eqB, scalM, seqM]
@[simp] theorem ne_int {a b : Int} {S : Sto} : neM (.int a) (.int b) S = .ok (.bl (!decide (a = b))) S := by simp [neM, eqB, scalM, seqM]
@[simp] theorem eq_str {a b : Str} {S : Sto} : eqM (.str a) (.str b) S = .ok (.bl (decide (a = b))) S := by simp [eqM, eqB, scalM, seqM]
@[simp] theorem ne_str {a b : Str} {S : Sto} : neM (.str a) (.str b) S = .ok (.bl (!decide (a = b))) S := by simp [neM, eqB, scalM, seqM]
@[simp] theorem eq_hv {a b : Option Int} {S : Sto} : eqM (hv a) (hv b) S = .ok (.bl (decide (a = b))) S := by
  cases a <;> cases b <;> simp [hv, eqM, eqB, scalM, seqM]
@[simp] theorem ne_hv {a b : Option Int} {S : Sto} : neM (hv a) (hv b) S = .ok (.bl (!decide (a = b))) S := by
  cases a <;> cases b <;> simp [hv, neM, eqB, scalM, seqM]
@[simp] theorem is_hv {a : Option Int} {S : Sto} : isM (hv a) .non S = .ok (.bl (decide (a = none))) S := by
  cases a <;> simp [hv, isM, isB]
@[simp] theorem isn_hv {a : Option Int} {S : Sto} : isnM (hv a) .non S = .ok (.bl (!decide (a = none))) S := by
  cases a <;> simp [hv, isnM, isB]
theorem atI_nat {xs : List MV} {d : Nat} {x : MV} (h : xs[d]? = some x) : atI xs (d : Int) = some x := by
  have hl := (List.getElem?_eq_some_iff.mp h).1
  have e : ixN xs.length (d : Int) = some d := by
    unfold ixN
    simp
    omega
  unfold atI
  rw [e]; exact h
theorem ix_tup {xs : List MV} {d : Nat} {x : MV} {S : Sto} (h : xs[d]? = some x) : idxM (.tup xs) (.int (d : Int)) S = .ok x S := by
  unfold idxM; simp only [seqOf]; rw [atI_nat h]
theorem ix_lst {xs : List MV} {d : Nat} {x : MV} {S : Sto} (h : xs[d]? = some x) : idxM (.lst xs) (.int (d : Int)) S = .ok x S := by
  unfold idxM; simp only [seqOf, lstOf]; rw [atI_nat h]
@[simp] theorem w_wipe0 {ρ : Ev} : wipeE ρ [] = ρ := rfl
@[simp] theorem w_wipe1 {ρ : Ev} {v : Nat} {vs : List Nat} : wipeE ρ (v :: vs) = (wipeE ρ vs).set v none := rfl
theorem anyM_bl {xs : List Bool} {S : Sto} : anyM [.lst (xs.map MV.bl)] S = .ok (.bl (xs.any id)) S := by
  have : ∀ xs : List Bool, allBl (xs.map MV.bl) = some xs := fun xs => by
    induction xs with
    | nil => rfl
    | cons x xs ih => simp [allBl, ih]
  simp [anyM, overBl, lstOf, this]
theorem allM_bl {xs : List Bool} {S : Sto} : allM [.lst (xs.map MV.bl)] S = .ok (.bl (xs.all id)) S := by
  have : ∀ xs : List Bool, allBl (xs.map MV.bl) = some xs := fun xs => by
    induction xs with
    | nil => rfl
    | cons x xs ih => simp [allBl, ih]
  simp [allM, overBl, lstOf, this]
end Mi
set_option Elab.async false
set_option linter.all false
set_option maxRecDepth 100000
set_option maxHeartbeats 1000000
namespace Mi
open PySem PySem.Spec PyProof.Rows L2
def RS.nxt (r : RS) (k : Ev → Sto → RS) : RS := match r with
  | .nx ρ S => k ρ S
  | r => r
section
variable {ρ : Ev} {S : Sto} {a b c : ME} {m m' : MS} {ma : MA} {t u : MT} {d : MV} {i : Nat} {cl : Str} {k : Ev → Sto → RS}
@[simp] theorem nxt_nx : (RS.nx ρ S).nxt k = k ρ S := rfl
@[simp] theorem nxt_rt : (RS.rt d S).nxt k = .rt d S := rfl
@[simp] theorem nxt_exc : (RS.exc cl d ρ S).nxt k = .exc cl d ρ S := rfl
@[simp] theorem nxt_stk : RS.stk.nxt k = .stk := rfl
@[simp] theorem w_seq' : mSeq m m' ρ S = (m ρ S).nxt m' := by unfold mSeq RS.nxt; cases m ρ S <;> rfl
@[simp] theorem w_drop : mDrop a ρ S = (a ρ S).thn ρ fun _ S1 => .nx ρ S1 := rfl
@[simp] theorem w_stk : mStk ρ S = .stk := rfl
@[simp] theorem toR_exc : toR (.exc cl d ρ S) = .exc cl d S := rfl
@[simp] theorem toR_stk : toR .stk = .stk := rfl
@[simp] theorem w_src : mSrc a ρ S = (a ρ S).bind srcOf := rfl
@[simp] theorem w_rng : mRng ma ρ S = (ma ρ S).bind rngOf := rfl
@[simp] theorem w_rng2 : mRng2 ma ρ S = (ma ρ S).bind rng2Of := rfl
@[simp] theorem w_enum : mEnum ma ρ S = (ma ρ S).bind enmOf := rfl
@[simp] theorem w_zip2 : mZip2 ma ρ S = (ma ρ S).bind zp2Of := rfl
@[simp] theorem w_zip3 : mZip3 ma ρ S = (ma ρ S).bind zp3Of := rfl
@[simp] theorem w_ezip : mEzip ma ρ S = (ma ρ S).bind ezOf := rfl
@[simp] theorem w_for' {mi : Ev → Sto → R Src} {g : Tg} {body : MS} : mFor mi g body ρ S = (mi ρ S).thn ρ fun src S1 => forGo (fun S => src.ok S) g body src.items ρ S1 := rfl
@[simp] theorem w_lc' {fr : Bool} {vs : List Nat} {mi : Ev → Sto → R Src} {g : Tg} {tt : MT} {te : ME} : mLc fr vs mi g tt te ρ S = (mi ρ S).bind fun src S1 =>
  if src.items.length ≤ sizeLine then (lcGo (fun S => src.ok S) g tt te (wipeE ρ vs) src.items [] S1).bind (mkL fr) else .stk := rfl
@[simp] theorem w_mkLt {xs : List MV} : mkL true xs S = .ok (.lst xs) S := rfl
@[simp] theorem w_mkLf {xs : List MV} : mkL false xs S = .ok (.ref S.length) (S ++ [.lst xs]) := rfl
@[simp] theorem w_fld {c f : Str} : mFld c f a ρ S = (a ρ S).bind fun d S1 => fldM c f d S1 := rfl
@[simp] theorem w_slice {lo hi : Ev → Sto → R (Option Int)} : mSlice a lo hi ρ S = (a ρ S).bind fun d S1 => (lo ρ S1).bind fun l S2 => (hi ρ S2).bind fun h S3 => slcM d l h S3 := rfl
@[simp] theorem w_oNone : moNone ρ S = .ok none S := rfl
@[simp] theorem w_oSome : moSome a ρ S = (a ρ S).bind fun d S1 => match d with
  | .int i => .ok (some i) S1
  | _ => .stk := rfl
@[simp] theorem w_cell : mCell ma ρ S = (ma ρ S).bind fun xs S1 => .ok (.ref S1.length) (S1 ++ [.lst xs]) := rfl
@[simp] theorem w_truth : mTruth a ρ S = (a ρ S).bind truW := rfl
@[simp] theorem w_isi {t : String} : mIsi t a ρ S = (a ρ S).bind fun d S1 => isiM t [d] S1 := rfl
@[simp] theorem w_dct {fr : Bool} {ks : List Key} : mDct fr ks ma ρ S = (ma ρ S).bind fun ds S1 => mkD fr ks ds S1 := rfl
@[simp] theorem w_mkDt {ks : List Key} {ds : List MV} : mkD true ks ds S = .ok (.dct ks ds) S := rfl
@[simp] theorem w_mkDf {ks : List Key} {ds : List MV} : mkD false ks ds S = .ok (.ref S.length) (S ++ [.dct ks ds]) := rfl
@[simp] theorem w_chain {f g : MV → MV → Sto → R MV} : mChain f g a b c ρ S = (a ρ S).bind fun x S1 => (b ρ S1).bind fun y S2 => (f x y S2).bind fun z S3 => (toB z S3).bind fun k S4 =>
  if k then (c ρ S4).bind fun w S5 => g y w S5 else .ok (.bl false) S4 := rfl
@[simp] theorem bind_ite {α β : Type} {p : Prop} [Decidable p] {x y : R α} {f : α → Sto → R β} : (if p then x else y).bind f = if p then x.bind f else y.bind f := by split <;> rfl
@[simp] theorem thn_ite {α : Type} {p : Prop} [Decidable p] {x y : R α} {f : α → Sto → RS} : (if p then x else y).thn ρ f = if p then x.thn ρ f else y.thn ρ f := by split <;> rfl
@[simp] theorem nxt_ite {p : Prop} [Decidable p] {x y : RS} : (if p then x else y).nxt k = if p then x.nxt k else y.nxt k := by split <;> rfl
@[simp] theorem toR_ite {p : Prop} [Decidable p] {x y : RS} : toR (if p then x else y) = if p then toR x else toR y := by split <;> rfl
@[simp] theorem toB_ite {p : Prop} [Decidable p] {x y : MV} : toB (if p then x else y) S = if p then toB x S else toB y S := by split <;> rfl
end
@[simp] theorem str_inj {a b : String} : (Str.ofString a = Str.ofString b) ↔ a = b := by
  constructor
  · intro h
    rw [Str.ofString_eq_toList, Str.ofString_eq_toList] at h
    have h := congrArg (fun s => s.cps.toList) h
    simp only [List.map_inj_right (f := Char.toNat) (fun a b e => Char.toNat_inj.mp e)] at h
    exact String.toList_inj.mp h
  · rintro rfl; rfl
def fillF (J : List Nat) (f : Nat → Option MV) : Nat → Ev → Ev
  | _, [] => []
  | i, x :: xs => (if i ∈ J then f i else x) :: fillF J f (i + 1) xs
def SameE (J : List Nat) : Nat → Ev → Ev → Prop
  | _, [], [] => True
  | i, x :: xs, y :: ys => (i ∈ J ∨ x = y) ∧ SameE J (i + 1) xs ys
  | _, _, _ => False
theorem SameE.fill {J : List Nat} : ∀ {i : Nat} {ρ0 ρ : Ev}, SameE J i ρ0 ρ → ∃ f, ρ = fillF J f i ρ0
  | i, [], [], _ => ⟨fun _ => none, rfl⟩
  | i, [], _ :: _, h => h.elim
  | i, _ :: _, [], h => h.elim
  | i, x :: xs, y :: ys, h => by
    obtain ⟨f, e⟩ := SameE.fill (i := i + 1) h.2
    refine ⟨fun j => if j = i then y else f j, ?_⟩
    rw [fillF]
    have e2 : ∀ (xs : Ev) (k : Nat), i < k → fillF J (fun j => if j = i then y else f j) k xs = fillF J f k xs := by
      intro xs
      induction xs with
      | nil => intro k _; rfl
      | cons x xs ih =>
        intro k hk
        rw [fillF, fillF, ih (k + 1) (by omega)]
        have : ¬ k = i := by omega
        simp [this]
    rw [e2 xs (i + 1) (by omega), ← e]
    rcases h.1 with h1 | h1
    · simp [h1]
    · subst h1; by_cases hi : i ∈ J <;> simp [hi]
@[simp] theorem same_nil {J : List Nat} {i : Nat} : SameE J i [] [] := trivial
@[simp] theorem same_cons {J : List Nat} {i : Nat} {x y : Option MV} {xs ys : Ev} : SameE J i (x :: xs) (y :: ys) ↔ (i ∈ J ∨ x = y) ∧ SameE J (i + 1) xs ys := Iff.rfl
@[simp] theorem fill_nil {J : List Nat} {f : Nat → Option MV} {i : Nat} : fillF J f i [] = [] := rfl
@[simp] theorem fill_cons {J : List Nat} {f : Nat → Option MV} {i : Nat} {x : Option MV} {xs : Ev} : fillF J f i (x :: xs) = (if i ∈ J then f i else x) :: fillF J f (i + 1) xs := rfl
@[simp] theorem enmI_ty' {α : Type} (enc : α → MV) (xs : List α) (k : Nat) : enmI k (xs.map enc) = (xs.zipIdx k).map fun x => .tup [.int (x.2 : Nat), enc x.1] := enmI_ty enc xs k
@[simp] theorem zipI_ty' {α β : Type} (f : α → MV) (g : β → MV) (xs : List α) (ys : List β) : zipI (xs.map f) (ys.map g) = (xs.zip ys).map fun x => .tup [f x.1, g x.2] := zipI_ty f g xs ys
@[simp] theorem int_eq {a b : Nat} : ((a : Int) = (b : Int)) ↔ a = b := by omega
@[simp] theorem ev0_eq {N : Nat} {ds : List MV} : ev0 N ds = ds.map some ++ List.replicate (N - ds.length) none := rfl
/-- a turn of the loop: it returns d where b, else goes on, the slots the same outside of J -/
def Out (J : List Nat) (ρ0 : Ev) (S : Sto) (d : MV) (r : RS) (b : Bool) : Prop := match r with
  | .rt d' S' => b = true ∧ d' = d ∧ S' = S
  | .nx ρ S' => b = false ∧ SameE J 0 ρ0 ρ ∧ S' = S
  | _ => False
section
variable {J : List Nat} {ρ0 ρ : Ev} {S S' : Sto} {d d' : MV} {b : Bool}
@[simp] theorem out_rt : Out J ρ0 S d (.rt d' S') b ↔ b = true ∧ d' = d ∧ S' = S := Iff.rfl
@[simp] theorem out_nx : Out J ρ0 S d (.nx ρ S') b ↔ b = false ∧ SameE J 0 ρ0 ρ ∧ S' = S := Iff.rfl
@[simp] theorem out_ite {p : Prop} [Decidable p] {x y : RS} : Out J ρ0 S d (if p then x else y) b ↔ if p then Out J ρ0 S d x b else Out J ρ0 S d y b := by split <;> rfl
end
/-- run a target and a body -/
def turn (g : Tg) (body : MS) (x : MV) (ρ : Ev) (S : Sto) : RS := match g.f x ρ with
  | some ρ1 => body ρ1 S
  | none => .stk
@[simp] theorem turn_name {i : Nat} {body : MS} {x : MV} {ρ : Ev} {S : Sto} : turn (tgName i) body x ρ S = body (ρ.set i (some x)) S := rfl
@[simp] theorem turn_2 {i j : Nat} {body : MS} {x y : MV} {ρ : Ev} {S : Sto} : turn (tgTup (tgCons (tgName i) (tgCons (tgName j) tgNil))) body (.tup [x, y]) ρ S = body ((ρ.set i (some x)).set j (some y)) S := rfl
@[simp] theorem turn_3 {i j l : Nat} {body : MS} {x y z : MV} {ρ : Ev} {S : Sto} : turn (tgTup (tgCons (tgName i) (tgCons (tgName j) (tgCons (tgName l) tgNil)))) body (.tup [x, y, z]) ρ S = body (((ρ.set i (some x)).set j (some y)).set l (some z)) S := rfl
@[simp] theorem turn_12 {i j l : Nat} {body : MS} {x y z : MV} {ρ : Ev} {S : Sto} : turn (tgTup (tgCons (tgName i) (tgCons (tgTup (tgCons (tgName j) (tgCons (tgName l) tgNil))) tgNil))) body (.tup [x, .tup [y, z]]) ρ S = body (((ρ.set i (some x)).set j (some y)).set l (some z)) S := rfl
@[simp] theorem turn_13 {i j l q : Nat} {body : MS} {x y z w : MV} {ρ : Ev} {S : Sto} : turn (tgTup (tgCons (tgName i) (tgCons (tgTup (tgCons (tgName j) (tgCons (tgName l) (tgCons (tgName q) tgNil)))) tgNil))) body (.tup [x, .tup [y, z, w]]) ρ S = body ((((ρ.set i (some x)).set j (some y)).set l (some z)).set q (some w)) S := rfl
@[simp] theorem asg_2 {i j : Nat} {x y : MV} {ρ : Ev} : (tgTup (tgCons (tgName i) (tgCons (tgName j) tgNil))).f (.tup [x, y]) ρ = some ((ρ.set i (some x)).set j (some y)) := rfl
@[simp] theorem asg_3 {i j l : Nat} {x y z : MV} {ρ : Ev} : (tgTup (tgCons (tgName i) (tgCons (tgName j) (tgCons (tgName l) tgNil)))).f (.tup [x, y, z]) ρ = some (((ρ.set i (some x)).set j (some y)).set l (some z)) := rfl
@[simp] theorem asg_4 {i j l q : Nat} {x y z w : MV} {ρ : Ev} : (tgTup (tgCons (tgName i) (tgCons (tgName j) (tgCons (tgName l) (tgCons (tgName q) tgNil))))).f (.tup [x, y, z, w]) ρ = some ((((ρ.set i (some x)).set j (some y)).set l (some z)).set q (some w)) := rfl
@[simp] theorem asg_12 {i j l : Nat} {x y z : MV} {ρ : Ev} : (tgTup (tgCons (tgName i) (tgCons (tgTup (tgCons (tgName j) (tgCons (tgName l) tgNil))) tgNil))).f (.tup [x, .tup [y, z]]) ρ = some (((ρ.set i (some x)).set j (some y)).set l (some z)) := rfl
@[simp] theorem asg_13 {i j l q : Nat} {x y z w : MV} {ρ : Ev} : (tgTup (tgCons (tgName i) (tgCons (tgTup (tgCons (tgName j) (tgCons (tgName l) (tgCons (tgName q) tgNil)))) tgNil))).f (.tup [x, .tup [y, z, w]]) ρ = some ((((ρ.set i (some x)).set j (some y)).set l (some z)).set q (some w)) := rfl
def turnE {α : Type} (g : Tg) (te : Ev → Sto → R α) (x : MV) (ρ : Ev) (S : Sto) : R α := match g.f x ρ with
  | some ρ1 => te ρ1 S
  | none => .stk
section
variable {α : Type} {te : Ev → Sto → R α} {ρ : Ev} {S : Sto} {x y z w : MV} {i j l q : Nat}
@[simp] theorem turnE_name : turnE (tgName i) te x ρ S = te (ρ.set i (some x)) S := rfl
@[simp] theorem turnE_2 : turnE (tgTup (tgCons (tgName i) (tgCons (tgName j) tgNil))) te (.tup [x, y]) ρ S = te ((ρ.set i (some x)).set j (some y)) S := rfl
@[simp] theorem turnE_3 : turnE (tgTup (tgCons (tgName i) (tgCons (tgName j) (tgCons (tgName l) tgNil)))) te (.tup [x, y, z]) ρ S = te (((ρ.set i (some x)).set j (some y)).set l (some z)) S := rfl
@[simp] theorem turnE_12 : turnE (tgTup (tgCons (tgName i) (tgCons (tgTup (tgCons (tgName j) (tgCons (tgName l) tgNil))) tgNil))) te (.tup [x, .tup [y, z]]) ρ S = te (((ρ.set i (some x)).set j (some y)).set l (some z)) S := rfl
@[simp] theorem turnE_13 : turnE (tgTup (tgCons (tgName i) (tgCons (tgTup (tgCons (tgName j) (tgCons (tgName l) (tgCons (tgName q) tgNil)))) tgNil))) te (.tup [x, .tup [y, z, w]]) ρ S = te ((((ρ.set i (some x)).set j (some y)).set l (some z)).set q (some w)) S := rfl
end
section
variable {a b c d : MV} {xs : List MV} {S : Sto}
@[simp] theorem ix_t0 : idxM (.tup (a :: xs)) (.int 0) S = .ok a S := by simpa using ix_tup (xs := a :: xs) (d := 0) rfl
@[simp] theorem ix_t1 : idxM (.tup (a :: b :: xs)) (.int 1) S = .ok b S := by simpa using ix_tup (xs := a :: b :: xs) (d := 1) rfl
@[simp] theorem ix_t2 : idxM (.tup (a :: b :: c :: xs)) (.int 2) S = .ok c S := by simpa using ix_tup (xs := a :: b :: c :: xs) (d := 2) rfl
@[simp] theorem ix_t3 : idxM (.tup (a :: b :: c :: d :: xs)) (.int 3) S = .ok d S := by simpa using ix_tup (xs := a :: b :: c :: d :: xs) (d := 3) rfl
@[simp] theorem ix_l0 : idxM (.lst (a :: xs)) (.int 0) S = .ok a S := by simpa using ix_lst (xs := a :: xs) (d := 0) rfl
@[simp] theorem ix_l1 : idxM (.lst (a :: b :: xs)) (.int 1) S = .ok b S := by simpa using ix_lst (xs := a :: b :: xs) (d := 1) rfl
@[simp] theorem ix_l2 : idxM (.lst (a :: b :: c :: xs)) (.int 2) S = .ok c S := by simpa using ix_lst (xs := a :: b :: c :: xs) (d := 2) rfl
@[simp] theorem ix_l3 : idxM (.lst (a :: b :: c :: d :: xs)) (.int 3) S = .ok d S := by simpa using ix_lst (xs := a :: b :: c :: d :: xs) (d := 3) rfl
end
section
variable {xs : List MV} {S : Sto} {i j : Int}
@[simp] theorem src_tup : srcOf (.tup xs) S = .ok (.seq (.tup xs) xs) S := rfl
@[simp] theorem src_lst : srcOf (.lst xs) S = .ok (.seq (.lst xs) xs) S := rfl
@[simp] theorem enm_tup : enmOf [.tup xs] S = .ok (.enm (.tup xs) xs) S := rfl
@[simp] theorem enm_lst : enmOf [.lst xs] S = .ok (.enm (.lst xs) xs) S := rfl
@[simp] theorem it_seq {d : MV} : (Src.seq d xs).items = xs := rfl
@[simp] theorem it_enm {d : MV} : (Src.enm d xs).items = enmI 0 xs := rfl
@[simp] theorem len_enmI : ∀ (k : Nat) (xs : List MV), (enmI k xs).length = xs.length
  | _, [] => rfl
  | k, _ :: xs => by rw [enmI, List.length_cons, len_enmI, List.length_cons]
@[simp] theorem it_ezp {d e : MV} {ys : List MV} : (Src.ezp d xs e ys).items = enmI 0 (zipI xs ys) := rfl
@[simp] theorem it_zp2 {d e : MV} {ys : List MV} : (Src.zp2 d xs e ys).items = zipI xs ys := rfl
@[simp] theorem ok_seqT : (Src.seq (.tup xs) xs).ok S = true := by simp [Src.ok, seqOf]
@[simp] theorem ok_seqL : (Src.seq (.lst xs) xs).ok S = true := by simp [Src.ok, seqOf, lstOf]
@[simp] theorem ok_enmT : (Src.enm (.tup xs) xs).ok S = true := by simp [Src.ok, seqOf]
@[simp] theorem ok_enmL : (Src.enm (.lst xs) xs).ok S = true := by simp [Src.ok, seqOf, lstOf]
@[simp] theorem ok_ezpT {ys : List MV} : (Src.ezp (.tup xs) xs (.tup ys) ys).ok S = true := by simp [Src.ok, seqOf]
@[simp] theorem ok_zp2T {ys : List MV} : (Src.zp2 (.tup xs) xs (.tup ys) ys).ok S = true := by simp [Src.ok, seqOf]
@[simp] theorem ok_rng {lo : Int} {n : Nat} : (Src.rng lo n).ok S = true := rfl
@[simp] theorem ez_tup {ys : List MV} : ezOf [.tup xs, .tup ys] S = .ok (.ezp (.tup xs) xs (.tup ys) ys) S := rfl
@[simp] theorem zp_tup {ys : List MV} : zp2Of [.tup xs, .tup ys] S = .ok (.zp2 (.tup xs) xs (.tup ys) ys) S := rfl
@[simp] theorem tup_lst : tupM [.lst xs] S = .ok (.tup xs) S := rfl
@[simp] theorem tup_tup : tupM [.tup xs] S = .ok (.tup xs) S := rfl
@[simp] theorem add_int : addM (.int i) (.int j) S = .ok (.int (i + j)) S := rfl
@[simp] theorem sub_int : subM (.int i) (.int j) S = .ok (.int (i - j)) S := rfl
@[simp] theorem lt_int : ltM (.int i) (.int j) S = .ok (.bl (decide (i < j))) S := rfl
@[simp] theorem le_int : leM (.int i) (.int j) S = .ok (.bl (decide (i ≤ j))) S := rfl
@[simp] theorem gt_int : gtM (.int i) (.int j) S = .ok (.bl (decide (j < i))) S := rfl
@[simp] theorem ge_int : geM (.int i) (.int j) S = .ok (.bl (decide (j ≤ i))) S := rfl
end
end Mi
set_option Elab.async false
set_option linter.all false
set_option maxRecDepth 100000
set_option maxHeartbeats 1000000
namespace Mi
open PySem PySem.Spec PyProof.Rows L2
section
variable {S : Sto} {o o' : MO} {d : MV} {xs : List MV}
@[simp] theorem set_last : (S ++ [o]).set S.length o' = S ++ [o'] := by simp
@[simp] theorem app_last (h : xs.length < sizeLine) : appM (.ref S.length) d (S ++ [.lst xs]) = .ok .non (S ++ [.lst (xs ++ [d])]) := by
  unfold appM
  simp [h]
@[simp] theorem isLst_last : isLst (S ++ [.lst xs]) (.ref S.length) = true := by simp [isLst, lstOf]
@[simp] theorem seq_last : seqOf (S ++ [.lst xs]) (.ref S.length) = some xs := by simp [seqOf, lstOf]
@[simp] theorem tup_last : tupM [.ref S.length] (S ++ [.lst xs]) = .ok (.tup xs) (S ++ [.lst xs]) := by simp [tupM, seqOf, lstOf]
@[simp] theorem w_app {a b : ME} {ρ : Ev} : mApp a b ρ S = (a ρ S).bind fun od S1 => if isLst S1 od then (b ρ S1).bind fun d S2 => appM od d S2 else .stk := rfl
end
/-- ended: nothing follows -/
def Ended (r : RS) (r' : R MV) : Prop := toR r = r' ∧ ∀ k, r.nxt k = r
def Gen {β : Type} (J : List Nat) (En : β → Ev) (St : β → Sto) (Inv : β → Prop) (r : RS) : β ⊕ R MV → Prop
  | .inl s => ∃ ρ, r = .nx ρ (St s) ∧ SameE J 0 (En s) ρ ∧ Inv s
  | .inr r' => Ended r r'
@[simp] theorem gen_l {β : Type} {J : List Nat} {En : β → Ev} {St : β → Sto} {Inv : β → Prop} {ρ : Ev} {S : Sto} {s : β} : Gen J En St Inv (.nx ρ S) (.inl s) ↔ S = St s ∧ SameE J 0 (En s) ρ ∧ Inv s := by
  constructor
  · rintro ⟨ρ', e, h⟩; cases e; exact ⟨rfl, h⟩
  · rintro ⟨rfl, h⟩; exact ⟨_, rfl, h⟩
@[simp] theorem ended_rt {d : MV} {S : Sto} {r : R MV} : Ended (.rt d S) r ↔ .ok d S = r := ⟨fun h => h.1, fun h => ⟨h, fun _ => rfl⟩⟩
@[simp] theorem ended_exc {c : Str} {d : MV} {S : Sto} {ρ : Ev} {r : R MV} : Ended (.exc c d ρ S) r ↔ .exc c d S = r := ⟨fun h => h.1, fun h => ⟨h, fun _ => rfl⟩⟩
@[simp] theorem gen_r {β : Type} {J : List Nat} {En : β → Ev} {St : β → Sto} {Inv : β → Prop} {r : RS} {r' : R MV} : Gen J En St Inv r (.inr r') ↔ Ended r r' := Iff.rfl
end Mi
set_option Elab.async false
set_option linter.all false
set_option maxRecDepth 100000
set_option maxHeartbeats 1000000
namespace Mi
open PySem PySem.Spec PyProof.Rows L2
theorem refs_map {α : Type} {b : Nat} {f : α → MV} {xs : List α} (h : ∀ x ∈ xs, refsB b (f x) = true) : refsBs b (xs.map f) = true := by
  induction xs with
  | nil => rfl
  | cons x xs ih => rw [List.map_cons, refsBs, h x List.mem_cons_self, ih fun y hy => h y (List.mem_cons_of_mem _ hy)]; rfl
theorem strOk_lit (x : String) : PyData.strOk (Str.ofString x) = true := by
  rw [Str.ofString_eq_toList]
  unfold PyData.strOk
  simp only [List.all_toArray, List.all_map, List.all_eq_true, Function.comp_apply, decide_eq_true_eq]
  intro c _
  have := c.valid
  have h : c.toNat.isValidChar := this
  rcases h with h | h
  · exact Nat.lt_trans h (by decide)
  · exact h.2
@[simp] theorem sh_lit (x : String) : sh (.str (Str.ofString x)) = true := strOk_lit x
end Mi
set_option Elab.async false
set_option linter.all false
set_option maxRecDepth 100000
set_option maxHeartbeats 1000000
namespace Mi
open PySem PySem.Spec PyProof.Rows L2
section
variable {xs : List MV} {S : Sto} {i j : Int} {b : Bool}
@[simp] theorem len_tup : lenM [.tup xs] S = .ok (.int (xs.length : Nat)) S := rfl
@[simp] theorem len_lst : lenM [.lst xs] S = .ok (.int (xs.length : Nat)) S := rfl
@[simp] theorem len_dct {ks : List Key} : lenM [.dct ks xs] S = .ok (.int (ks.length : Nat)) S := rfl
@[simp] theorem any_ty {α : Type} {p : α → Bool} {xs : List α} : anyM [.lst (xs.map fun x => .bl (p x))] S = .ok (.bl (xs.any p)) S := by
  have e := anyM_bl (xs := xs.map p) (S := S)
  rw [List.map_map] at e
  rw [show (xs.map fun x => MV.bl (p x)) = xs.map (MV.bl ∘ p) from rfl, e, List.any_map]; rfl
@[simp] theorem all_ty {α : Type} {p : α → Bool} {xs : List α} : allM [.lst (xs.map fun x => .bl (p x))] S = .ok (.bl (xs.all p)) S := by
  have e := allM_bl (xs := xs.map p) (S := S)
  rw [List.map_map] at e
  rw [show (xs.map fun x => MV.bl (p x)) = xs.map (MV.bl ∘ p) from rfl, e, List.all_map]; rfl
theorem allIn_ty : ∀ ns : List Int, allIn (ns.map MV.int) = some ns
  | [] => rfl
  | n :: ns => by simp [allIn, allIn_ty ns]
@[simp] theorem sum_ty {α : Type} {f : α → Int} {xs : List α} : sumM [.lst (xs.map fun x => .int (f x))] S = .ok (.int (xs.map f).sum) S := by
  have := allIn_ty (xs.map f)
  rw [List.map_map] at this
  simp only [sumM, lstOf]
  rw [show (xs.map fun x => MV.int (f x)) = xs.map (MV.int ∘ f) from rfl, this]
@[simp] theorem int_int : intM [.int i] S = .ok (.int i) S := rfl
@[simp] theorem int_bl : intM [.bl b] S = .ok (.int (if b then 1 else 0)) S := rfl
@[simp] theorem lstT_tup : lstM true [.tup xs] S = .ok (.lst xs) S := rfl
@[simp] theorem lstT_lst : lstM true [.lst xs] S = .ok (.lst xs) S := rfl
@[simp] theorem lstF_tup : lstM false [.tup xs] S = .ok (.ref S.length) (S ++ [.lst xs]) := rfl
@[simp] theorem lstF_lst : lstM false [.lst xs] S = .ok (.ref S.length) (S ++ [.lst xs]) := rfl
@[simp] theorem isi_int_int : isiM "int" [.int i] S = .ok (.bl true) S := rfl
@[simp] theorem isi_int_bl : isiM "int" [.bl b] S = .ok (.bl true) S := rfl
@[simp] theorem isi_int_non : isiM "int" [.non] S = .ok (.bl false) S := rfl
@[simp] theorem isi_int_str {x : Str} : isiM "int" [.str x] S = .ok (.bl false) S := rfl
@[simp] theorem isi_int_tup : isiM "int" [.tup xs] S = .ok (.bl false) S := rfl
@[simp] theorem isi_int_lst : isiM "int" [.lst xs] S = .ok (.bl false) S := rfl
@[simp] theorem isi_bl_int : isiM "bool" [.int i] S = .ok (.bl false) S := rfl
@[simp] theorem isi_bl_bl : isiM "bool" [.bl b] S = .ok (.bl true) S := rfl
@[simp] theorem isi_bl_str {x : Str} : isiM "bool" [.str x] S = .ok (.bl false) S := rfl
@[simp] theorem isi_bl_tup : isiM "bool" [.tup xs] S = .ok (.bl false) S := rfl
@[simp] theorem isi_bl_lst : isiM "bool" [.lst xs] S = .ok (.bl false) S := rfl
@[simp] theorem isi_str_str {x : Str} : isiM "str" [.str x] S = .ok (.bl true) S := rfl
@[simp] theorem isi_str_tup : isiM "str" [.tup xs] S = .ok (.bl false) S := rfl
@[simp] theorem isi_str_lst : isiM "str" [.lst xs] S = .ok (.bl false) S := rfl
@[simp] theorem isi_str_int : isiM "str" [.int i] S = .ok (.bl false) S := rfl
@[simp] theorem isi_tup_tup : isiM "tuple" [.tup xs] S = .ok (.bl true) S := rfl
@[simp] theorem isi_tup_lst : isiM "tuple" [.lst xs] S = .ok (.bl false) S := rfl
@[simp] theorem isi_tup_str {x : Str} : isiM "tuple" [.str x] S = .ok (.bl false) S := rfl
@[simp] theorem isi_tup_int : isiM "tuple" [.int i] S = .ok (.bl false) S := rfl
@[simp] theorem isi_lst_lst : isiM "list" [.lst xs] S = .ok (.bl true) S := rfl
@[simp] theorem isi_lst_tup : isiM "list" [.tup xs] S = .ok (.bl false) S := rfl
@[simp] theorem tru_bl : truW (.bl b) S = .ok b S := rfl
@[simp] theorem tru_tup : truW (.tup xs) S = .ok (!xs.isEmpty) S := rfl
@[simp] theorem tru_lst : truW (.lst xs) S = .ok (!xs.isEmpty) S := rfl
end
@[simp] theorem w_lc2 {fr : Bool} {vs vs1 : List Nat} {mi mi1 : Ev → Sto → R Src} {g g1 : Tg} {tt tt1 : MT} {te : ME} {ρ : Ev} {S : Sto} : mLc2 fr vs vs1 mi g tt mi1 g1 tt1 te ρ S = (mi ρ S).bind fun src S1 =>
  (lc2Go (fun S => src.ok S) g tt mi1 vs1 g1 tt1 te (wipeE ρ vs) src.items [] S1).bind (mkL fr) := rfl
end Mi
set_option Elab.async false
set_option linter.all false
set_option maxRecDepth 10000
set_option maxHeartbeats 400000
namespace Lw
open PySem PySem.Spec PyProof.Rows L2 Mi
structure Day where
  a : Option Int
  b : Option Int
  s : Bool
  deriving DecidableEq
structure Row where
  who : Int
  base : Int
  days : List Day
  deriving DecidableEq
def Day.half (d : Day) : Bool → Option Int
  | false => d.a
  | true => d.b
def pDay (d : Day) : MV := .tup [hv d.a, hv d.b, .bl d.s]
def pRow (r : Row) : MV := .tup [.int r.who, .int r.base, .tup (r.days.map pDay)]
def pSt (rs : List Row) : MV := .tup (rs.map pRow)
def lDay (d : Day) : MV := .lst [hv d.a, hv d.b, .bl d.s]
def lRow (r : Row) : MV := .dct [.inr "who", .inr "base", .inr "days"] [.int r.who, .int r.base, .lst (r.days.map lDay)]
def dayAt (r : Row) (d : Nat) : Day := r.days.getD d ⟨none, none, false⟩
def rowAt (rs : List Row) (k : Nat) : Row := rs.getD k ⟨0, 0, []⟩
/-- no other series has the half at the hour of the day -/
def takes (rs : List Row) (k d : Nat) (h : Option Int) (half : Bool) (i : Nat) (r : Row) : Bool :=
  !decide (i = k) && ((!half || decide (r.who = (rowAt rs k).who)) && decide ((dayAt r d).half half = h))
def free (rs : List Row) (k d : Nat) (h : Option Int) (half : Bool) : Bool := !rs.zipIdx.any fun x => takes rs k d h half x.2 x.1
/-- all rows have as many days -/
def Wide (D : Nat) (rs : List Row) : Prop := ∀ r ∈ rs, r.days.length = D
theorem row_at {rs : List Row} {k : Nat} (hk : k < rs.length) : rs[k]? = some (rowAt rs k) := by
  unfold rowAt
  rw [List.getD_eq_getElem?_getD, List.getElem?_eq_getElem hk]; rfl
theorem Wide.at {D : Nat} {rs : List Row} (W : Wide D rs) {k : Nat} (hk : k < rs.length) : (rowAt rs k).days.length = D := W _ (List.mem_of_getElem? (row_at hk))
theorem Wide.set {D : Nat} {rs : List Row} (W : Wide D rs) {k : Nat} {r : Row} (h : r.days.length = D) : Wide D (rs.set k r) := fun x hx => by
  rcases List.mem_or_eq_of_mem_set hx with h1 | h1
  · exact W x h1
  · rw [h1]; exact h
@[simp] theorem row0 {r : Row} {S : Sto} : idxM (pRow r) (.int 0) S = .ok (.int r.who) S := rfl
@[simp] theorem row1 {r : Row} {S : Sto} : idxM (pRow r) (.int 1) S = .ok (.int r.base) S := rfl
@[simp] theorem row2 {r : Row} {S : Sto} : idxM (pRow r) (.int 2) S = .ok (.tup (r.days.map pDay)) S := rfl
@[simp] theorem day0 {d : Day} {S : Sto} : idxM (pDay d) (.int 0) S = .ok (hv d.a) S := rfl
@[simp] theorem day1 {d : Day} {S : Sto} : idxM (pDay d) (.int 1) S = .ok (hv d.b) S := rfl
@[simp] theorem day2 {d : Day} {S : Sto} : idxM (pDay d) (.int 2) S = .ok (.bl d.s) S := rfl
@[simp] theorem lrow0 {r : Row} {S : Sto} : idxM (lRow r) (.str "who") S = .ok (.int r.who) S := rfl
@[simp] theorem lrow1 {r : Row} {S : Sto} : idxM (lRow r) (.str "base") S = .ok (.int r.base) S := rfl
@[simp] theorem lrow2 {r : Row} {S : Sto} : idxM (lRow r) (.str "days") S = .ok (.lst (r.days.map lDay)) S := rfl
@[simp] theorem lday0 {d : Day} {S : Sto} : idxM (lDay d) (.int 0) S = .ok (hv d.a) S := rfl
@[simp] theorem lday1 {d : Day} {S : Sto} : idxM (lDay d) (.int 1) S = .ok (hv d.b) S := rfl
@[simp] theorem lday2 {d : Day} {S : Sto} : idxM (lDay d) (.int 2) S = .ok (.bl d.s) S := rfl
def gap (rs : List Row) (k : Nat) (h : Int) : Bool := !(rowAt rs k).days.zipIdx.any fun x => !decide (x.1.a = none) && (!free rs k x.2 (some h) false || !free rs k x.2 (some h) true)
abbrev Hrs := List (Option Int)
def hrs (r : Row) : Hrs := r.days.map fun d => d.b
def pHrs (h : Hrs) : MV := .tup (h.map hv)
def pRule (c s h t : Str) : MV := .obj "Rule" ["checking", "singles", "halves", "telling"] [.str c, .str s, .str h, .str t]
@[simp] theorem fld_c {c s h t : Str} {S : Sto} : fldM "Rule" "checking" (pRule c s h t) S = .ok (.str c) S := rfl
@[simp] theorem fld_s {c s h t : Str} {S : Sto} : fldM "Rule" "singles" (pRule c s h t) S = .ok (.str s) S := rfl
@[simp] theorem fld_h {c s h t : Str} {S : Sto} : fldM "Rule" "halves" (pRule c s h t) S = .ok (.str h) S := rfl
@[simp] theorem fld_t {c s h t : Str} {S : Sto} : fldM "Rule" "telling" (pRule c s h t) S = .ok (.str t) S := rfl
def rday (s : Str) (hours base : Int) (d : Day) (h : Int) : Day := match d.a with
  | none => d
  | some a => if d.s = true ∧ s = "keep" then d else if d.s = true ∧ s = "move" then ⟨some ((a + h - base) % hours), d.b, true⟩ else ⟨some h, d.b, false⟩
def rdays (s : Str) (hours : Int) (r : Row) (h : Int) : List Day := r.days.map fun d => rday s hours r.base d h
def pdays (r : Row) : List Day := r.days.map fun d => ⟨d.a, d.a, d.s⟩
def clash (rs : List Row) (k : Nat) (old new : List Day) (half : Bool) : Bool := (old.zip new).zipIdx.any fun x => !decide (x.1.1.half half = x.1.2.half half) && !free rs k x.2 (x.1.2.half half) half
abbrev OSt := Option (List Row)
def roomSet (c s : Str) (hours : Int) (rs : List Row) (k : Nat) (h : Int) : OSt :=
  if c ≠ "none" ∧ clash rs k (rowAt rs k).days (rdays s hours (rowAt rs k) h) false = true then none else some (rs.set k ⟨(rowAt rs k).who, h, rdays s hours (rowAt rs k) h⟩)
def personSet (c : Str) (rs : List Row) (k : Nat) : OSt :=
  if c = "both" ∧ clash rs k (rowAt rs k).days (pdays (rowAt rs k)) true = true then none else some (rs.set k ⟨(rowAt rs k).who, (rowAt rs k).base, pdays (rowAt rs k)⟩)
def backDay (now old : Day) : Day := if now.a = none then now else ⟨old.a, now.b, old.s⟩
def backRow (r o : Row) : Row := ⟨r.who, o.base, List.zipWith backDay r.days o.days⟩
def takenBack (rs : List Row) (k : Nat) (o : Row) : List Row := rs.set k (backRow (rowAt rs k) o)
def oneSet (c : Str) (rs : List Row) (k d : Nat) (h : Int) : OSt :=
  if (dayAt (rowAt rs k) d).a = none ∨ (c ≠ "none" ∧ free rs k d (some h) false = false) ∨ (c = "both" ∧ free rs k d (some h) true = false) then none
  else some (rs.set k ⟨(rowAt rs k).who, (rowAt rs k).base, (rowAt rs k).days.set d ⟨some h, some h, true⟩⟩)
def offSet (rs : List Row) (k d : Nat) : OSt :=
  if (dayAt (rowAt rs k) d).a = none then none else some (rs.set k ⟨(rowAt rs k).who, (rowAt rs k).base, (rowAt rs k).days.set d ⟨none, none, false⟩⟩)
inductive Step where
  | find (h : Int) | room (h : Int) | person | one (d : Nat) (h : Int) | off (d : Nat) | tell
  deriving DecidableEq
def pStep : Step → MV
  | .find h => .tup [.str "find", .int h]
  | .room h => .tup [.str "room", .int h]
  | .person => .tup [.str "person"]
  | .one d h => .tup [.str "one", .int (d : Nat), .int h]
  | .off d => .tup [.str "off", .int (d : Nat)]
  | .tell => .tup [.str "tell"]
def Step.word : Step → Str
  | .find _ => "find"
  | .room _ => "room"
  | .person => "person"
  | .one _ _ => "one"
  | .off _ => "off"
  | .tell => "tell"
@[simp] theorem step_w {s : Step} {S : Sto} : idxM (pStep s) (.int 0) S = .ok (.str s.word) S := by cases s <;> rfl
/-- what a hand remembers -/
structure Mem where
  found : Option Bool
  seen : Option Hrs
  old : Option Row
  deriving DecidableEq
def oB : Option Bool → MV
  | none => .non
  | some b => .bl b
def oH : Option Hrs → MV
  | none => .non
  | some h => pHrs h
def oR : Option Row → MV
  | none => .non
  | some r => pRow r
def olR : Option Row → MV
  | none => .non
  | some r => lRow r
def oSt : OSt → MV
  | none => .non
  | some rs => pSt rs
def pMem (m : Mem) : MV := .tup [oB m.found, oH m.seen, oR m.old]
inductive Told where
  | b (b : Bool) | hrs (h : Hrs) | done | refused
  deriving DecidableEq
def pTold : Told → MV
  | .b b => .bl b
  | .hrs h => pHrs h
  | .done => .str "done"
  | .refused => .str "refused"
/-- a rule's parts -/
structure Par where
  c : Str
  s : Str
  h : Str
  t : Str
  deriving DecidableEq
def pPar (p : Par) : MV := pRule p.c p.s p.h p.t
def lPar (p : Par) : MV := .lst [.str p.c, .str p.s, .str p.h, .str p.t]
def fin (o : OSt) (m m' : Mem) (rs : List Row) : Told × Mem × List Row := match o with
  | none => (.refused, m, rs)
  | some rs' => (.done, m', rs')
/-- a step: what it tells, what is remembered, the standing -/
def stepT (p : Par) (H : Int) (rs : List Row) (k : Nat) (m : Mem) : Step → Told × Mem × List Row
  | .find h => (.b (gap rs k h), ⟨some (gap rs k h), some (hrs (rowAt rs k)), m.old⟩, rs)
  | .tell => (.hrs (if p.t = "seen" then m.seen.getD (hrs (rowAt rs k)) else hrs (rowAt rs k)), ⟨m.found, some (if p.t = "seen" then m.seen.getD (hrs (rowAt rs k)) else hrs (rowAt rs k)), m.old⟩, rs)
  | .room h => fin (if m.found = some false then none else roomSet p.c p.s H rs k h) m ⟨m.found, m.seen, some (rowAt rs k)⟩ rs
  | .person => match personSet p.c rs k with
    | some rs' => (.done, m, rs')
    | none => if p.h = "undone" then (match m.old with
      | some o => (.refused, ⟨m.found, m.seen, none⟩, takenBack rs k o)
      | none => (.refused, m, rs)) else (.refused, m, rs)
  | .one d h => fin (oneSet p.c rs k d h) m m rs
  | .off d => fin (offSet rs k d) m m rs
structure World where
  D : Nat
  H : Nat
  ser : List (Int × Int)
  hands : List (Nat × List Step)
  deriving DecidableEq
def pHand (h : Nat × List Step) : MV := .tup [.int (h.1 : Nat), .tup (h.2.map pStep)]
def pSer (s : Int × Int) : MV := .tup [.int s.1, .int s.2]
def pWorld (W : World) : MV := .tup [.int (W.D : Nat), .int (W.H : Nat), .tup (W.ser.map pSer), .tup (W.hands.map pHand)]
/-- a state: the next steps, what hands remember, the standing -/
structure WS where
  places : List Nat
  mems : List Mem
  rows : List Row
  deriving DecidableEq
def pNat (n : Nat) : MV := .int (n : Nat)
def pWS (s : WS) : MV := .tup [.tup (s.places.map pNat), .tup (s.mems.map pMem), pSt s.rows]
def placeAt (s : WS) (n : Nat) : Nat := s.places.getD n 0
def handAt (W : World) (n : Nat) : Nat × List Step := W.hands.getD n (0, [])
def stepAt (W : World) (s : WS) (n : Nat) : Step := (handAt W n).2.getD (placeAt s n) .tell
def memAt (s : WS) (n : Nat) : Mem := s.mems.getD n ⟨none, none, none⟩
def hasT (W : World) (s : WS) (n : Nat) : Bool := decide (placeAt s n < (handAt W n).2.length)
def nextT (p : Par) (W : World) (s : WS) (n : Nat) : Told × Mem × List Row := stepT p W.H s.rows (handAt W n).1 (memAt s n) (stepAt W s n)
def afterT (p : Par) (W : World) (s : WS) (n : Nat) : WS := ⟨s.places.set n (placeAt s n + 1), s.mems.set n (nextT p W s n).2.1, (nextT p W s n).2.2⟩
/-- a step of a world -/
def SOk (W : World) : Step → Prop
  | .find h => 0 ≤ h ∧ h < W.H
  | .room h => 0 ≤ h ∧ h < W.H
  | .person => True
  | .one d h => d < W.D ∧ 0 ≤ h ∧ h < W.H
  | .off d => d < W.D
  | .tell => True
structure WOk (W : World) : Prop where
  D1 : 1 ≤ W.D
  D2 : W.D ≤ 2
  H1 : 2 ≤ W.H
  H2 : W.H ≤ 3
  n1 : 1 ≤ W.ser.length
  n2 : W.ser.length ≤ 3
  ser : ∀ x ∈ W.ser, 0 ≤ x.1 ∧ x.1 ≤ 2 ∧ 0 ≤ x.2 ∧ x.2 < W.H
  nd : (W.ser.map (·.2)).Nodup
  h1 : 1 ≤ W.hands.length
  h2 : W.hands.length ≤ 3
  hand : ∀ h ∈ W.hands, h.1 < W.ser.length ∧ 1 ≤ h.2.length ∧ h.2.length ≤ 4 ∧ ∀ s ∈ h.2, SOk W s
  sum : (W.hands.map fun h => h.2.length).sum ≤ 8
/-- a state of a world -/
structure StOk (W : World) (s : WS) : Prop where
  pl : s.places.length = W.hands.length
  ml : s.mems.length = W.hands.length
  rl : s.rows.length = W.ser.length
  wide : Wide W.D s.rows
  olds : ∀ m ∈ s.mems, ∀ o, m.old = some o → o.days.length = W.D
  place : ∀ n, n < W.hands.length → placeAt s n ≤ (handAt W n).2.length
section
variable {b : Nat}
@[simp] theorem rf_hv {h : Option Int} : refsB b (hv h) = true := by cases h <;> rfl
@[simp] theorem rf_day {d : Day} : refsB b (pDay d) = true := by simp [pDay, refsB, refsBs]
@[simp] theorem rf_lday {d : Day} : refsB b (lDay d) = true := by simp [lDay, refsB, refsBs]
@[simp] theorem rf_row {r : Row} : refsB b (pRow r) = true := by
  have := refs_map (b := b) (f := pDay) (xs := r.days) fun _ _ => rf_day
  simp [pRow, refsB, refsBs, this]
@[simp] theorem rf_lrow {r : Row} : refsB b (lRow r) = true := by
  have := refs_map (b := b) (f := lDay) (xs := r.days) fun _ _ => rf_lday
  simp [lRow, refsB, refsBs, this]
@[simp] theorem rf_st {rs : List Row} : refsB b (pSt rs) = true := by
  have := refs_map (b := b) (f := pRow) (xs := rs) fun _ _ => rf_row
  simp [pSt, refsB, this]
@[simp] theorem rf_hrs {h : Hrs} : refsB b (pHrs h) = true := by
  have := refs_map (b := b) (f := hv) (xs := h) fun _ _ => rf_hv
  simp [pHrs, refsB, this]
@[simp] theorem rf_par {p : Par} : refsB b (pPar p) = true := by simp [pPar, pRule, refsB, refsBs]
@[simp] theorem rf_lpar {p : Par} : refsB b (lPar p) = true := by simp [lPar, refsB, refsBs]
@[simp] theorem rf_oB {o : Option Bool} : refsB b (oB o) = true := by cases o <;> rfl
@[simp] theorem rf_oH {o : Option Hrs} : refsB b (oH o) = true := by cases o <;> simp [oH, refsB]
@[simp] theorem rf_oR {o : Option Row} : refsB b (oR o) = true := by cases o <;> simp [oR, refsB]
@[simp] theorem rf_olR {o : Option Row} : refsB b (olR o) = true := by cases o <;> simp [olR, refsB]
@[simp] theorem rf_oSt {o : OSt} : refsB b (oSt o) = true := by cases o <;> simp [oSt, refsB]
@[simp] theorem rf_mem {m : Mem} : refsB b (pMem m) = true := by simp [pMem, refsB, refsBs]
@[simp] theorem rf_told {t : Told} : refsB b (pTold t) = true := by cases t <;> simp [pTold, refsB]
@[simp] theorem rf_step {s : Step} : refsB b (pStep s) = true := by cases s <;> simp [pStep, refsB, refsBs]
@[simp] theorem rf_hand {h : Nat × List Step} : refsB b (pHand h) = true := by
  have := refs_map (b := b) (f := pStep) (xs := h.2) fun _ _ => rf_step
  simp [pHand, refsB, refsBs, this]
@[simp] theorem rf_world {W : World} : refsB b (pWorld W) = true := by
  have h1 := refs_map (b := b) (f := pHand) (xs := W.hands) fun _ _ => rf_hand
  have h2 := refs_map (b := b) (f := pSer) (xs := W.ser) fun _ _ => by simp [pSer, refsB, refsBs]
  simp [pWorld, refsB, refsBs, h1, h2]
@[simp] theorem rf_ws {s : WS} : refsB b (pWS s) = true := by
  have h1 := refs_map (b := b) (f := pMem) (xs := s.mems) fun _ _ => rf_mem
  have h2 := refs_map (b := b) (f := pNat) (xs := s.places) fun _ _ => rfl
  simp [pWS, refsB, refsBs, h1, h2]
end
end Lw
set_option Elab.async false
set_option linter.all false
set_option maxRecDepth 10000
set_option maxHeartbeats 400000
namespace Lw
open PySem PySem.Spec PyProof.Rows L2 Mi
@[simp] theorem enm_st {rs : List Row} {S : Sto} : enmOf [pSt rs] S = .ok (.enm (pSt rs) (rs.map pRow)) S := rfl
@[simp] theorem ok_enmS {rs : List Row} {S : Sto} : (Src.enm (pSt rs) (rs.map pRow)).ok S = true := by simp [pSt]
end Lw
set_option Elab.async false
set_option linter.all false
set_option maxRecDepth 10000
set_option maxHeartbeats 400000
namespace Lw
open PySem PySem.Spec PyProof.Rows L2 Mi
@[simp] theorem slc_st {rs : List Row} {lo hi : Option Int} {S : Sto} : slcM (pSt rs) lo hi S = slcM (.tup (rs.map pRow)) lo hi S := rfl
end Lw
set_option Elab.async false
set_option linter.all false
set_option maxRecDepth 10000
set_option maxHeartbeats 400000
namespace Lw
open PySem PySem.Spec PyProof.Rows L2 Mi
@[simp] theorem mem0 {m : Mem} {S : Sto} : idxM (pMem m) (.int 0) S = .ok (oB m.found) S := rfl
@[simp] theorem mem1 {m : Mem} {S : Sto} : idxM (pMem m) (.int 1) S = .ok (oH m.seen) S := rfl
@[simp] theorem mem2 {m : Mem} {S : Sto} : idxM (pMem m) (.int 2) S = .ok (oR m.old) S := rfl
@[simp] theorem isn_hrs {h : Hrs} {S : Sto} : isnM (pHrs h) .non S = .ok (.bl true) S := rfl
@[simp] theorem is_st {rs : List Row} {S : Sto} : isM (pSt rs) .non S = .ok (.bl false) S := rfl
@[simp] theorem isn_st {rs : List Row} {S : Sto} : isnM (pSt rs) .non S = .ok (.bl true) S := rfl
@[simp] theorem isn_row {r : Row} {S : Sto} : isnM (pRow r) .non S = .ok (.bl true) S := rfl
@[simp] theorem is_nn {S : Sto} : isM .non .non S = .ok (.bl true) S := rfl
@[simp] theorem isn_nn {S : Sto} : isnM .non .non S = .ok (.bl false) S := rfl
@[simp] theorem is_false {o : Option Bool} {S : Sto} : isM (oB o) (.bl false) S = .ok (.bl (decide (o = some false))) S := by
  cases o with
  | none => rfl
  | some b => cases b <;> rfl
end Lw
set_option Elab.async false
set_option linter.all false
set_option maxRecDepth 10000
set_option maxHeartbeats 400000
namespace Lw
open PySem PySem.Spec PyProof.Rows L2 Mi
@[simp] theorem stp_find {h : Int} {S : Sto} : idxM (pStep (.find h)) (.int 1) S = .ok (.int h) S := rfl
@[simp] theorem stp_room {h : Int} {S : Sto} : idxM (pStep (.room h)) (.int 1) S = .ok (.int h) S := rfl
@[simp] theorem stp_one1 {d : Nat} {h : Int} {S : Sto} : idxM (pStep (.one d h)) (.int 1) S = .ok (.int (d : Nat)) S := rfl
@[simp] theorem stp_one2 {d : Nat} {h : Int} {S : Sto} : idxM (pStep (.one d h)) (.int 2) S = .ok (.int h) S := rfl
@[simp] theorem stp_off {d : Nat} {S : Sto} : idxM (pStep (.off d)) (.int 1) S = .ok (.int (d : Nat)) S := rfl
@[simp] theorem wld0 {W : World} {S : Sto} : idxM (pWorld W) (.int 0) S = .ok (.int (W.D : Nat)) S := rfl
@[simp] theorem wld1 {W : World} {S : Sto} : idxM (pWorld W) (.int 1) S = .ok (.int (W.H : Nat)) S := rfl
@[simp] theorem wld2 {W : World} {S : Sto} : idxM (pWorld W) (.int 2) S = .ok (.tup (W.ser.map pSer)) S := rfl
@[simp] theorem wld3 {W : World} {S : Sto} : idxM (pWorld W) (.int 3) S = .ok (.tup (W.hands.map pHand)) S := rfl
@[simp] theorem list_enm {xs : List MV} {S : Sto} (h : xs.length ≤ sizeLine) : lstE [.tup xs] S = .ok (.lst (enmI 0 xs)) S := by simp [lstE, seqOf, h]
theorem sh_hv {h : Option Int} : sh (hv h) = true := by cases h <;> rfl
theorem shs_map {α : Type} {f : α → MV} (hf : ∀ x, sh (f x) = true) : ∀ xs : List α, shs (xs.map f) = true
  | [] => rfl
  | x :: xs => by rw [List.map_cons, shs, hf, shs_map hf xs]; rfl
theorem dpts_map {α : Type} {f : α → MV} {n : Nat} : ∀ xs : List α, (∀ x ∈ xs, dpt (f x) ≤ n) → dpts (xs.map f) ≤ n
  | [], _ => by simp [dpts]
  | x :: xs, hf => by
    rw [List.map_cons, dpts]
    exact Nat.max_le.mpr ⟨hf x List.mem_cons_self, dpts_map xs fun y hy => hf y (List.mem_cons_of_mem _ hy)⟩
theorem sh_hrs {h : Hrs} : sh (pHrs h) = true := by rw [pHrs, sh]; exact shs_map (fun _ => sh_hv) h
theorem dpt_hv {h : Option Int} : dpt (hv h) = 0 := by cases h <;> rfl
theorem dpt_hrs {h : Hrs} : dpt (pHrs h) ≤ 1 := by
  rw [pHrs, dpt]
  have := dpts_map (f := hv) (n := 0) h fun _ _ => by rw [dpt_hv]; exact Nat.le_refl _
  omega
theorem sh_told {t : Told} : sh (pTold t) = true := by
  cases t with
  | b b => rfl
  | hrs h => exact sh_hrs
  | done => exact sh_lit _
  | refused => exact sh_lit _
theorem dpt_told {t : Told} : dpt (pTold t) ≤ 1 := by
  cases t with
  | hrs h => exact dpt_hrs
  | _ => exact Nat.zero_le _
theorem deref_told {S : Sto} {t : Told} : deref S (pTold t) = pTold t := by cases t <;> rfl
@[simp] theorem told_done {t : Told} {S : Sto} : eqM (pTold t) (.str "done") S = .ok (.bl (decide (t = .done))) S := by
  show eqM (pTold t) (pTold .done) S = _
  rw [eqM_sh (deref_told (t := t)) (deref_told (t := .done)) sh_told (sh_told (t := .done)) (Nat.le_trans dpt_told (by omega)) (by decide)]
  cases t with
  | b b => simp [pTold, cn]
  | hrs h => simp [pTold, cn, pHrs]
  | done => simp [pTold, cn]
  | refused => simp [pTold, cn]
def pStr (s : Str) : MV := .str s
@[simp] theorem app_lastS {S : Sto} {xs : List Str} {x : Str} (h : xs.length < sizeLine) : appM (.ref S.length) (.str x) (S ++ [.lst (xs.map pStr)]) = .ok .non (S ++ [.lst ((xs ++ [x]).map pStr)]) := by
  rw [app_last (by simpa using h)]; simp [pStr]
end Lw
set_option Elab.async false
set_option linter.all false
set_option maxRecDepth 10000
set_option maxHeartbeats 400000
namespace Lw
open PySem PySem.Spec PyProof.Rows L2 Mi
theorem hand_at {W : World} {n : Nat} (h : n < W.hands.length) : W.hands[n]? = some (handAt W n) := by
  unfold handAt
  rw [List.getElem?_eq_getElem h, List.getD_eq_getElem?_getD, List.getElem?_eq_getElem h]; rfl
theorem mem_at {s : WS} {n : Nat} (h : n < s.mems.length) : s.mems[n]? = some (memAt s n) := by
  unfold memAt
  rw [List.getElem?_eq_getElem h, List.getD_eq_getElem?_getD, List.getElem?_eq_getElem h]; rfl
theorem fin_len {o : OSt} {m m' : Mem} {rs : List Row} (h : ∀ rs', o = some rs' → rs'.length = rs.length) : (fin o m m' rs).2.2.length = rs.length := by
  cases o with
  | none => rfl
  | some rs' => exact h rs' rfl
theorem roomSet_len {c s : Str} {H h : Int} {rs rs' : List Row} {k : Nat} (e : roomSet c s H rs k h = some rs') : rs'.length = rs.length := by
  unfold roomSet at e; split at e
  · cases e
  · cases e; simp
theorem personSet_len {c : Str} {rs rs' : List Row} {k : Nat} (e : personSet c rs k = some rs') : rs'.length = rs.length := by
  unfold personSet at e; split at e
  · cases e
  · cases e; simp
theorem oneSet_len {c : Str} {h : Int} {rs rs' : List Row} {k d : Nat} (e : oneSet c rs k d h = some rs') : rs'.length = rs.length := by
  unfold oneSet at e; split at e
  · cases e
  · cases e; simp
theorem offSet_len {rs rs' : List Row} {k d : Nat} (e : offSet rs k d = some rs') : rs'.length = rs.length := by
  unfold offSet at e; split at e
  · cases e
  · cases e; simp
theorem stepT_len {p : Par} {H : Int} {rs : List Row} {k : Nat} {m : Mem} {s : Step} : (stepT p H rs k m s).2.2.length = rs.length := by
  cases s with
  | find h => rfl
  | tell => rfl
  | room h =>
    refine fin_len fun rs' e => ?_
    split at e
    · cases e
    · exact roomSet_len e
  | person =>
    rw [stepT]
    cases e : personSet p.c rs k with
    | some rs' => exact personSet_len e
    | none =>
      dsimp only
      split
      · cases m.old with
        | none => rfl
        | some o => simp [takenBack]
      · rfl
  | one d h => exact fin_len fun rs' e => oneSet_len e
  | off d => exact fin_len fun rs' e => offSet_len e
theorem fin_wide {D : Nat} {o : OSt} {m m' : Mem} {rs : List Row} (W : Wide D rs) (h : ∀ rs', o = some rs' → Wide D rs') : Wide D (fin o m m' rs).2.2 := by
  cases o with
  | none => exact W
  | some rs' => exact h rs' rfl
theorem stepT_wide {p : Par} {H : Int} {D : Nat} {rs : List Row} {k : Nat} {m : Mem} {s : Step} (W : Wide D rs) (hk : k < rs.length) (ho : ∀ o, m.old = some o → o.days.length = D) : Wide D (stepT p H rs k m s).2.2 := by
  have hd := W.at hk
  cases s with
  | find h => exact W
  | tell => exact W
  | room h =>
    refine fin_wide W fun rs' e => ?_
    split at e
    · cases e
    · unfold roomSet at e; split at e
      · cases e
      · cases e; exact W.set (by simp [rdays, hd])
  | person =>
    rw [stepT]
    cases e : personSet p.c rs k with
    | some rs' =>
      unfold personSet at e; split at e
      · cases e
      · cases e; exact W.set (by simp [pdays, hd])
    | none =>
      dsimp only
      split
      · cases eo : m.old with
        | none => exact W
        | some o => exact W.set (by simp [backRow, hd, ho o eo])
      · exact W
  | one d h =>
    refine fin_wide W fun rs' e => ?_
    unfold oneSet at e; split at e
    · cases e
    · cases e; exact W.set (by simp [hd])
  | off d =>
    refine fin_wide W fun rs' e => ?_
    unfold offSet at e; split at e
    · cases e
    · cases e; exact W.set (by simp [hd])
theorem fin_old {D : Nat} {o : OSt} {m m' : Mem} {rs : List Row} (h : ∀ r, m.old = some r → r.days.length = D) (h' : ∀ r, m'.old = some r → r.days.length = D) : ∀ r, (fin o m m' rs).2.1.old = some r → r.days.length = D := by
  cases o with
  | none => exact h
  | some rs' => exact h'
theorem stepT_old {p : Par} {H : Int} {D : Nat} {rs : List Row} {k : Nat} {m : Mem} {s : Step} (W : Wide D rs) (hk : k < rs.length) (ho : ∀ o, m.old = some o → o.days.length = D) : ∀ o, (stepT p H rs k m s).2.1.old = some o → o.days.length = D := by
  cases s with
  | find h => exact ho
  | tell => exact ho
  | room h => exact fin_old ho fun r e => by cases e; exact W.at hk
  | person =>
    rw [stepT]
    cases e : personSet p.c rs k with
    | some rs' => exact ho
    | none =>
      dsimp only
      split
      · cases eo : m.old with
        | none => dsimp only; intro o e; rw [eo] at e; cases e
        | some o => dsimp only; intro o e; cases e
      · exact ho
  | one d h => exact fin_old ho ho
  | off d => exact fin_old ho ho
/-- the state behind a step is one -/
theorem StOk.after {p : Par} {W : World} (w : WOk W) {s : WS} (h : StOk W s) {n : Nat} (hn : n < W.hands.length) (hs : hasT W s n = true) : StOk W (afterT p W s n) := by
  have hk : (handAt W n).1 < s.rows.length := by rw [h.rl]; exact (w.hand _ (List.mem_of_getElem? (hand_at hn))).1
  have ho : ∀ o, (memAt s n).old = some o → o.days.length = W.D := fun o e => h.olds (memAt s n) (List.mem_of_getElem? (mem_at (by rw [h.ml]; exact hn))) o e
  refine ⟨by simp [afterT, h.pl], by simp [afterT, h.ml], ?_, ?_, ?_, ?_⟩
  · show (stepT p W.H s.rows (handAt W n).1 (memAt s n) (stepAt W s n)).2.2.length = _
    rw [stepT_len, h.rl]
  · exact stepT_wide h.wide hk ho
  · intro m hm o eo
    rcases List.mem_or_eq_of_mem_set hm with hm | hm
    · exact h.olds m hm o eo
    · subst hm; exact stepT_old h.wide hk ho o eo
  · intro i hi
    show (s.places.set n (placeAt s n + 1)).getD i 0 ≤ _
    simp only [List.getD_eq_getElem?_getD]
    by_cases e : i = n
    · subst e
      rw [List.getElem?_set_self (by rw [h.pl]; exact hi)]
      have := of_decide_eq_true hs
      show placeAt s i + 1 ≤ _
      omega
    · rw [List.getElem?_set_ne (Ne.symm e)]
      have := h.place i hi
      unfold placeAt at this
      rwa [List.getD_eq_getElem?_getD] at this
theorem StOk.days {W : World} (w : WOk W) {s : WS} (h : StOk W s) : (s.rows.flatMap fun r => r.days).length ≤ 1000 := by
  have : ∀ rs : List Row, Wide W.D rs → (rs.flatMap fun r => r.days).length = rs.length * W.D := by
    intro rs hw
    induction rs with
    | nil => simp
    | cons r rs ih =>
      rw [List.flatMap_cons, List.length_append, hw r List.mem_cons_self, ih fun x hx => hw x (List.mem_cons_of_mem _ hx), List.length_cons, Nat.succ_mul]
      omega
  rw [this _ h.wide, h.rl]
  have h1 := w.n2
  have h2 := w.D2
  have : W.ser.length * W.D ≤ 3 * 2 := Nat.mul_le_mul h1 h2
  omega
end Lw
set_option Elab.async false
set_option linter.all false
set_option maxRecDepth 10000
set_option maxHeartbeats 400000
namespace Lw
open PySem PySem.Spec PyProof.Rows L2 Mi
@[simp] theorem w_dc {fr : Bool} {vs : List Nat} {mi : Ev → Sto → R Src} {g : Tg} {tt : MT} {tk tv : ME} {ρ : Ev} {S : Sto} : mDc fr vs mi g tt tk tv ρ S = (mi ρ S).bind fun src S1 =>
  if src.items.length ≤ sizeLine then (dcGo (fun S => src.ok S) g tt tk tv (wipeE ρ vs) src.items [] [] S1).bind fun p S2 => mkD fr p.1 p.2 S2 else .stk := rfl
@[simp] theorem is_whole_eq {i a b : Int} {S : Sto} : m_is_whole [.int i, .int a, .int b] S = .ok (.bl (decide (a ≤ i ∧ i ≤ b))) S := by
  simp [m_is_whole, mFn, m_is_whole_s0]
  split <;> simp_all
  omega
end Lw
set_option Elab.async false
set_option linter.all false
set_option maxRecDepth 10000
set_option maxHeartbeats 400000
namespace Lw
open PySem PySem.Spec PyProof.Rows L2 Mi
def pTF (x : Told × List Str) : MV := .tup [pTold x.1, .lst (x.2.map pStr)]
@[simp] theorem rf_tf {b : Nat} {x : Told × List Str} : refsB b (pTF x) = true := by
  have := refs_map (b := b) (f := pStr) (xs := x.2) fun _ _ => rfl
  simp [pTF, refsB, refsBs, this]
end Lw
set_option Elab.async false
set_option linter.all false
set_option maxRecDepth 10000
set_option maxHeartbeats 400000
namespace Lw
open PySem PySem.Spec PyProof.Rows L2 Mi
def hb (half : Bool) : MV := .int (if half then 1 else 0)
@[simp] theorem rng_nat {n : Nat} {S : Sto} (h : n ≤ 1000) : rngOf [.int (n : Nat)] S = .ok (.rng 0 n) S := by
  have e : rngOf [.int (n : Nat)] S = if Nat.blt n 4611686018427387904 then .ok (.rng 0 (n : Int).toNat) S else .stk := rfl
  rw [e, if_pos (by simp [Nat.blt]; omega), Int.toNat_natCast]
@[simp] theorem it_rng {n : Nat} : (Src.rng 0 n).items = (List.range n).map pNat := by
  simp [Src.items, pNat]
@[simp] theorem ix_half {d : Day} {half : Bool} {S : Sto} : idxM (lDay d) (hb half) S = .ok (hv (d.half half)) S := by cases half <;> rfl
end Lw
set_option Elab.async false
set_option linter.all false
set_option maxRecDepth 10000
set_option maxHeartbeats 400000
namespace Lw
open PySem PySem.Spec PyProof.Rows L2 Mi
@[simp] theorem lpar0 {p : Par} {S : Sto} : idxM (lPar p) (.int 0) S = .ok (.str p.c) S := rfl
@[simp] theorem lpar1 {p : Par} {S : Sto} : idxM (lPar p) (.int 1) S = .ok (.str p.s) S := rfl
@[simp] theorem lpar2 {p : Par} {S : Sto} : idxM (lPar p) (.int 2) S = .ok (.str p.h) S := rfl
@[simp] theorem lpar3 {p : Par} {S : Sto} : idxM (lPar p) (.int 3) S = .ok (.str p.t) S := rfl
end Lw
set_option Elab.async false
set_option linter.all false
set_option maxRecDepth 10000
set_option maxHeartbeats 400000
namespace Lw
open PySem PySem.Spec PyProof.Rows L2 Mi
@[simp] theorem w_sub {e o i : ME} {ρ : Ev} {S : Sto} : mSub e o i ρ S = (e ρ S).thn ρ fun d S1 => (o ρ S1).thn ρ fun od S2 => (i ρ S2).thn ρ fun id S3 => match setM od id d S3 with
  | some S4 => .nx ρ S4
  | none => .stk := rfl
end Lw
set_option Elab.async false
set_option linter.all false
set_option maxRecDepth 10000
set_option maxHeartbeats 400000
namespace Lw
open PySem PySem.Spec PyProof.Rows L2 Mi
@[simp] theorem isn_int {a : Int} {S : Sto} : isnM (.int a) .non S = .ok (.bl true) S := rfl
@[simp] theorem is_int {a : Int} {S : Sto} : isM (.int a) .non S = .ok (.bl false) S := rfl
end Lw
set_option Elab.async false
set_option linter.all false
set_option maxRecDepth 10000
set_option maxHeartbeats 400000
set_option Elab.async false
set_option linter.all false
set_option maxRecDepth 10000
set_option maxHeartbeats 400000
namespace Lw
open PySem PySem.Spec PyProof.Rows L2 Mi
@[simp] theorem isn_olR {o : Option Row} {S : Sto} : isnM (olR o) .non S = .ok (.bl (!decide (o = none))) S := by cases o <;> rfl
@[simp] theorem is_olR {o : Option Row} {S : Sto} : isM (olR o) .non S = .ok (.bl (decide (o = none))) S := by cases o <;> rfl
@[simp] theorem is_oH {o : Option Hrs} {S : Sto} : isM (oH o) .non S = .ok (.bl (decide (o = none))) S := by cases o <;> rfl
@[simp] theorem isn_lrow {r : Row} {S : Sto} : isnM (lRow r) .non S = .ok (.bl true) S := rfl
@[simp] theorem stp_last1 {d : Nat} {h : Int} {S : Sto} : idxM (pStep (.one d h)) (.int (-1)) S = .ok (.int h) S := rfl
@[simp] theorem stp_last2 {d : Nat} {S : Sto} : idxM (pStep (.off d)) (.int (-1)) S = .ok (.int (d : Nat)) S := rfl
abbrev handK : List Key := [.inr "next", .inr "found", .inr "seen", .inr "old"]
def lHand (n : Nat) (m : Mem) : MO := .dct handK [.int (n : Nat), oB m.found, oH m.seen, olR m.old]
def lv (r : Nat) (hs : List Nat) : MV := .dct [.inr "rows", .inr "hands"] [.ref r, .lst (hs.map .ref)]
@[simp] theorem lv_rows {r : Nat} {hs : List Nat} {S : Sto} : idxM (lv r hs) (.str "rows") S = .ok (.ref r) S := rfl
@[simp] theorem lv_hands {r : Nat} {hs : List Nat} {S : Sto} : idxM (lv r hs) (.str "hands") S = .ok (.lst (hs.map .ref)) S := rfl
/-- the cells of a law's state -/
structure LSt (S : Sto) (r : Nat) (hs : List Nat) (s : WS) : Prop where
  rows : S[r]? = some (.lst (s.rows.map lRow))
  len : hs.length = s.mems.length
  hand : ∀ (n h : Nat), hs[n]? = some h → S[h]? = some (lHand (placeAt s n) (memAt s n))
  ne : ∀ (n h : Nat), hs[n]? = some h → r ≠ h
  inj : hs.Nodup
theorem fin_keep {o : OSt} {m m' : Mem} {rs : List Row} (h : m'.found = m.found ∧ m'.seen = m.seen) : (fin o m m' rs).2.1.found = m.found ∧ (fin o m m' rs).2.1.seen = m.seen := by
  cases o with
  | none => exact ⟨rfl, rfl⟩
  | some x => exact h
theorem stepT_keep {p : Par} {H : Int} {rs : List Row} {k : Nat} {m : Mem} {s : Step} (hw : s.word ≠ "find" ∧ s.word ≠ "tell") : (stepT p H rs k m s).2.1.found = m.found ∧ (stepT p H rs k m s).2.1.seen = m.seen := by
  cases s with
  | find x => exact absurd rfl hw.1
  | tell => exact absurd rfl hw.2
  | room x => exact fin_keep ⟨rfl, rfl⟩
  | one d x => exact fin_keep ⟨rfl, rfl⟩
  | off d => exact fin_keep ⟨rfl, rfl⟩
  | person =>
    rw [stepT]
    cases personSet p.c rs k with
    | some x => exact ⟨rfl, rfl⟩
    | none =>
      dsimp only
      split
      · cases m.old with
        | none => exact ⟨rfl, rfl⟩
        | some o => exact ⟨rfl, rfl⟩
      · exact ⟨rfl, rfl⟩
end Lw
set_option Elab.async false
set_option linter.all false
set_option maxRecDepth 10000
set_option maxHeartbeats 400000
namespace Lw
open PySem PySem.Spec PyProof.Rows L2 Mi
def hsN (b n : Nat) : List Nat := (List.range n).map fun i => b + 1 + i
def cells (n : Nat) (s : WS) : Sto := .lst (s.rows.map lRow) :: (List.range n).map fun i => lHand (placeAt s i) (memAt s i)
theorem hsN_get {b n i : Nat} (h : i < n) : (hsN b n)[i]? = some (b + 1 + i) := by
  unfold hsN; rw [List.getElem?_map, List.getElem?_range h]; rfl
theorem LSt.of {S e : Sto} {n : Nat} {s : WS} (h : s.mems.length = n) : LSt (S ++ (cells n s ++ e)) S.length (hsN S.length n) s := by
  refine ⟨?_, by simp [hsN, h], ?_, ?_, ?_⟩
  · rw [List.getElem?_append_right (Nat.le_refl _)]; simp [cells]
  · intro i x hx
    by_cases hi : i < n
    · rw [hsN_get hi] at hx
      cases hx
      rw [List.getElem?_append_right (by omega)]
      have : S.length + 1 + i - S.length = i + 1 := by omega
      rw [this, cells, List.cons_append, List.getElem?_cons_succ, List.getElem?_append_left (by simpa using hi), List.getElem?_map, List.getElem?_range hi]; rfl
    · rw [List.getElem?_eq_none (by simp [hsN]; omega)] at hx; cases hx
  · intro i x hx
    unfold hsN at hx
    rw [List.getElem?_map] at hx
    cases e : (List.range n)[i]? with
    | none => rw [e] at hx; cases hx
    | some j => rw [e] at hx; cases hx; show S.length ≠ S.length + 1 + j; omega
  · unfold hsN
    exact List.Pairwise.map _ (fun a b hab hc => hab (by omega)) List.nodup_range
theorem LSt.app {S e : Sto} {r : Nat} {hs : List Nat} {s : WS} (L : LSt S r hs s) : LSt (S ++ e) r hs s := by
  have up : ∀ {n : Nat} {o : MO}, S[n]? = some o → (S ++ e)[n]? = some o := fun {n o} h => by rw [List.getElem?_append_left (List.getElem?_eq_some_iff.mp h).1]; exact h
  exact ⟨up L.rows, L.len, fun n h hn => up (L.hand n h hn), L.ne, L.inj⟩
end Lw
set_option Elab.async false
set_option linter.all false
set_option maxRecDepth 10000
set_option maxHeartbeats 400000
set_option Elab.async false
set_option linter.all false
set_option maxRecDepth 10000
set_option maxHeartbeats 400000
set_option linter.all false
set_option maxRecDepth 100000
set_option maxHeartbeats 4000000
set_option Elab.async false
set_option linter.all false
set_option maxRecDepth 10000
set_option maxHeartbeats 400000
namespace Lw
open PySem PySem.Spec PyProof.Rows L2 Mi
@[simp] theorem w_fset {c f : Str} {e o : ME} {ρ : Ev} {S : Sto} : mFset c f e o ρ S = (e ρ S).thn ρ fun d S1 => (o ρ S1).thn ρ fun od S2 => match fsetM c f od d S2 with
  | some S3 => .nx ρ S3
  | none => .stk := rfl
@[simp] theorem w_ninM {a b : MV} {S : Sto} {k : Bool} (h : inM a b S = .ok (.bl k) S) : ninM a b S = .ok (.bl (!k)) S := by
  unfold inM at h
  unfold ninM
  cases e : inB S a b with
  | none => simp [e] at h
  | some k' => rw [e] at h; cases h; rfl
end Lw
set_option Elab.async false
set_option linter.all false
set_option maxRecDepth 10000
set_option maxHeartbeats 400000
set_option Elab.async false
set_option linter.all false
set_option maxRecDepth 10000
set_option maxHeartbeats 400000
set_option Elab.async false
set_option linter.all false
set_option maxRecDepth 10000
set_option maxHeartbeats 400000
namespace Lw
open PySem PySem.Spec Mi
def SeenOk (D : Nat) (s : WS) : Prop := ∀ m ∈ s.mems, ∀ h, m.seen = some h → h.length = D
theorem nextT_seen {p : Par} {W : World} {s : WS} {n : Nat} (ok : StOk W s) (sk : SeenOk W.D s) (hk : (handAt W n).1 < s.rows.length) (hn : n < s.mems.length) :
    (∀ h, (nextT p W s n).2.1.seen = some h → h.length = W.D) ∧ ∀ h, (nextT p W s n).1 = .hrs h → h.length = W.D := by
  have hl : (hrs (rowAt s.rows (handAt W n).1)).length = W.D := by simp [hrs, ok.wide.at hk]
  have hm : ∀ h, (memAt s n).seen = some h → h.length = W.D := sk _ (List.mem_of_getElem? (mem_at hn))
  unfold nextT
  cases es : stepAt W s n with
  | find x => exact ⟨fun h e => by cases e; exact hl, fun h e => by cases e⟩
  | tell =>
    have : (if p.t = "seen" then (memAt s n).seen.getD (hrs (rowAt s.rows (handAt W n).1)) else hrs (rowAt s.rows (handAt W n).1)).length = W.D := by
      split
      · cases e : (memAt s n).seen with
        | none => exact hl
        | some h => exact hm h e
      · exact hl
    exact ⟨fun h e => by cases e; exact this, fun h e => by cases e; exact this⟩
  | _ =>
    have hw : (stepAt W s n).word ≠ "find" ∧ (stepAt W s n).word ≠ "tell" := by rw [es]; simp [Step.word]
    have kp := (stepT_keep (p := p) (H := W.H) (rs := s.rows) (k := (handAt W n).1) (m := memAt s n) hw).2
    rw [es] at kp
    refine ⟨fun h e => hm h (by rw [← kp, e]), fun h e => ?_⟩
    exfalso
    revert e
    first
      | (rw [stepT]; cases (if (memAt s n).found = some false then none else roomSet p.c p.s W.H s.rows (handAt W n).1 _) <;> simp [fin]; done)
      | (rw [stepT]
         cases personSet p.c s.rows (handAt W n).1 with
         | some x => simp
         | none =>
           dsimp only
           split
           · cases (memAt s n).old <;> simp
           · simp)
      | (rw [stepT]; cases oneSet p.c s.rows (handAt W n).1 _ _ <;> simp [fin]; done)
      | (rw [stepT]; cases offSet s.rows (handAt W n).1 _ <;> simp [fin]; done)
theorem SeenOk.after {p : Par} {W : World} (w : WOk W) {s : WS} {n : Nat} (ok : StOk W s) (sk : SeenOk W.D s) (hn : n < W.hands.length) : SeenOk W.D (afterT p W s n) := by
  have hk : (handAt W n).1 < s.rows.length := by rw [ok.rl]; exact (w.hand _ (List.mem_of_getElem? (hand_at hn))).1
  intro m hm h e
  rcases List.mem_or_eq_of_mem_set hm with hm | hm
  · exact sk m hm h e
  · subst hm; exact (nextT_seen ok sk hk (by rw [ok.ml]; exact hn)).1 h e
end Lw
set_option Elab.async false
set_option linter.all false
set_option maxRecDepth 10000
set_option maxHeartbeats 400000
set_option Elab.async false
set_option linter.all false
set_option maxRecDepth 10000
set_option maxHeartbeats 400000
set_option Elab.async false
set_option linter.all false
set_option maxRecDepth 10000
set_option maxHeartbeats 400000
set_option Elab.async false
set_option linter.all false
set_option maxRecDepth 10000
set_option maxHeartbeats 400000
namespace Mi
open PySem PySem.Spec PyProof.Rows L2
section
variable {ρ : Ev} {S : Sto} {mk mv me mo mi : ME} {c : MT} {b : MS} {fr : Bool} {ks ds : List MV}
@[simp] theorem w_dct1T : mDct1T fr mk mv ρ S = (mk ρ S).bind fun kd S1 => (mv ρ S1).bind fun d S2 => if keyT kd then mkDT fr [kd] [d] S2 else .stk := rfl
@[simp] theorem w_mkDTf : mkDT false ks ds S = .ok (.ref S.length) (S ++ [.dcT ks ds]) := rfl
@[simp] theorem w_subT : mSubT me mo mi ρ S = (me ρ S).thn ρ fun d S1 => (mo ρ S1).thn ρ fun od S2 => (mi ρ S2).thn ρ fun id S3 => match setTM od id d S3 with
  | some S4 => .nx ρ S4
  | none => .stk := rfl
end
end Mi
set_option Elab.async false
set_option linter.all false
set_option maxRecDepth 10000
set_option maxHeartbeats 400000
set_option Elab.async false
set_option linter.all false
set_option maxRecDepth 10000
set_option maxHeartbeats 400000
namespace Mi
open PySem PySem.Spec PyProof.Rows L2
end Mi
namespace Lw
open PySem PySem.Spec PyProof.Rows L2 Mi
def okey : Option Row → MV
  | none => .non
  | some r => pSt [r]
def lKH (x : Nat × Mem) : MV := .tup [.int (x.1 : Nat), oB x.2.found, oH x.2.seen, okey x.2.old]
def lKey (s : WS) : MV := .tup [pSt s.rows, .tup ((s.places.zip s.mems).map lKH)]
end Lw
set_option Elab.async false
set_option linter.all false
set_option maxRecDepth 10000
set_option maxHeartbeats 400000
namespace Lw
open PySem PySem.Spec PyProof.Rows L2 Mi
abbrev Jn := Nat × Nat
abbrev JK := WS × Option Jn
abbrev JE := JK × List Nat
abbrev FD := List (Str × List Nat)
def putF (wv : List Nat) (F : FD) (f : Str) : FD := if f ∈ F.map (·.1) then F else F ++ [(f, wv)]
def words5 : List Str := ["room", "person", "lost", "elder", "half"]
structure FOk (F : FD) : Prop where
  nd : (F.map (·.1)).Nodup
  ws : ∀ x ∈ F, x.1 ∈ words5
theorem few {α : Type} [BEq α] [LawfulBEq α] : ∀ (l w : List α), l.Nodup → (∀ x ∈ l, x ∈ w) → l.length ≤ w.length
  | [], _, _, _ => by simp
  | x :: l, w, nd, h => by
    have hx := h x List.mem_cons_self
    have nd' := List.nodup_cons.mp nd
    have := few l (w.erase x) nd'.2 fun y hy => (List.mem_erase_of_ne (fun e => nd'.1 (by rw [← e]; exact hy))).mpr (h y (List.mem_cons_of_mem _ hy))
    rw [List.length_erase_of_mem hx] at this
    have : 0 < w.length := List.length_pos_of_mem hx
    rw [List.length_cons]; omega
theorem FOk.len {F : FD} (h : FOk F) : F.length ≤ 5 := by
  have := few (F.map (·.1)) words5 h.nd fun x hx => by
    obtain ⟨y, my, rfl⟩ := List.mem_map.mp hx
    exact h.ws y my
  simpa [words5] using this
theorem FOk.put {F : FD} (h : FOk F) {f : Str} (hf : f ∈ words5) (wv : List Nat) : FOk (putF wv F f) := by
  unfold putF
  split
  · exact h
  · rename_i n
    refine ⟨?_, fun x hx => ?_⟩
    · rw [List.map_append]; rw [List.nodup_append]
      refine ⟨h.nd, by simp, fun a ha b hb => ?_⟩
      have : b = f := by simpa using hb
      subst this
      intro e; subst e; exact n ha
    · obtain m | m := List.mem_append.mp hx
      · exact h.ws x m
      · rw [List.mem_singleton.mp m]; exact hf
theorem FOk.nil : FOk [] := ⟨List.nodup_nil, fun x hx => by cases hx⟩
end Lw
set_option Elab.async false
set_option linter.all false
set_option maxRecDepth 10000
set_option maxHeartbeats 400000
namespace Lw
open PySem PySem.Spec PyProof.Rows L2 Mi
def pJn (x : Jn) : MV := .tup [pNat x.1, pNat x.2]
def oJ : Option Jn → MV
  | none => .non
  | some x => pJn x
def fks (F : FD) : List Key := F.map fun x => .inr x.1
def fvs (F : FD) : List MV := F.map fun x => .lst (x.2.map pNat)
end Lw
set_option Elab.async false
set_option linter.all false
set_option maxRecDepth 10000
set_option maxHeartbeats 400000
namespace Lw
open PySem PySem.Spec PyProof.Rows L2 Mi
def jents (Q : List JE) : List JK := Q.map (·.1)
end Lw
set_option Elab.async false
set_option linter.all false
set_option maxRecDepth 10000
set_option maxHeartbeats 400000
namespace Lw
open PySem PySem.Spec PyProof.Rows L2 Mi
def lJK (k : JK) : MV := .tup [lKey k.1, oJ k.2]
abbrev LJ := JE × Nat
def rowJ (n : Nat) (x : LJ) : MV := .lst [lv x.2 (hsN x.2 n), .lst (x.1.2.map pNat), oJ x.1.1.2]
def AtJ (W : World) (R : Nat) (S : Sto) (c : Nat) (s : WS) : Prop := LSt S c (hsN c W.hands.length) s ∧ (c + W.hands.length < R ∨ R + 2 < c)
theorem AtJ.app {W : World} {R c : Nat} {S e : Sto} {s : WS} (h : AtJ W R S c s) : AtJ W R (S ++ e) c s := ⟨h.1.app, h.2⟩
structure LJQ (T : Sto) (W : World) (R : Nat) (S : Sto) (L : List LJ) (F : FD) : Prop where
  base : ∃ U, S = T ++ U
  r0 : T.length ≤ R
  r1 : R + 2 < S.length
  rows : S[R]? = some (.lst (L.map (rowJ W.hands.length)))
  seen : S[R + 1]? = some (.dcT ((jents (L.map (·.1))).map lJK) (L.map fun _ => MV.bl true))
  fl : S[R + 2]? = some (.dct (fks F) (fvs F))
  at_ : ∀ x ∈ L, AtJ W R S x.2 x.1.1.1
theorem LJQ.app {T : Sto} {W : World} {R : Nat} {S e : Sto} {L : List LJ} {F : FD} (h : LJQ T W R S L F) : LJQ T W R (S ++ e) L F := by
  obtain ⟨U, hU⟩ := h.base
  have := h.r1
  refine ⟨⟨U ++ e, by rw [hU, List.append_assoc]⟩, h.r0, by rw [List.length_append]; omega, ?_, ?_, ?_, fun x hx => (h.at_ x hx).app⟩
  · rw [List.getElem?_append_left (by omega)]; exact h.rows
  · rw [List.getElem?_append_left (by omega)]; exact h.seen
  · rw [List.getElem?_append_left (by omega)]; exact h.fl
end Lw
set_option Elab.async false
set_option linter.all false
set_option maxRecDepth 10000
set_option maxHeartbeats 400000
set_option Elab.async false
set_option linter.all false
set_option maxRecDepth 100000
set_option maxHeartbeats 0
set_option Elab.async false
set_option linter.all false
set_option maxRecDepth 10000
set_option maxHeartbeats 400000
set_option Elab.async false
set_option linter.all false
set_option maxRecDepth 10000
set_option maxHeartbeats 400000
set_option Elab.async false
set_option linter.all false
set_option maxRecDepth 10000
set_option maxHeartbeats 400000
set_option Elab.async false
set_option linter.all false
set_option maxRecDepth 100000
set_option maxHeartbeats 0
namespace Lw
open PySem PySem.Spec PyProof.Rows L2 Mi
theorem fn_nox {P : Program} {w : PySem.World} {K : PySem.W.Frag} {mg : Str → Option Value} {base : Heap} {k : Nat} {f : Addr} {fd : FuncData} {ps : List Str} {sp : Sp} (F : FnOk P w K mg base (L2.CX P w) k f fd ps sp) :
    FnOk P w K mg base CX0 k f fd ps (fun vs H Q _ => sp vs H Q (fun _ _ _ => False)) :=
  ⟨fun vs H Q E h => F.len _ _ _ _ h, fun A outer s H args us vs Q E hr he hb hv hs => codeAny_mono (F.run A outer s H args us vs Q (fun _ _ _ => False) hr he hb hv hs) fun r s' q => by
    cases r with
    | error e =>
      obtain ⟨_, _, _, _, _, _, _, _, _, _, _, _, z⟩ := q
      exact z
    | ok fl =>
      cases fl with
      | ret u => exact q
      | next => exact q
      | brk => exact q
      | cont => exact q⟩
theorem gs_of {K : PySem.W.Frag} {h : Heap} {mg : Str → Option Value} (X : K.In h) (G : h.Ns mainGlobals mg) (c : He.SaysD fa fn K) (e : ex K = true) : Gs K mg where
  b_all := He.free_ok X G (c.fact 74)
  b_any := He.free_ok X G (c.fact 75)
  b_bool := He.free_ok X G (c.fact 76)
  b_dict := He.free_ok X G (c.fact 77)
  b_enumerate := He.free_ok X G (c.fact 78)
  b_int := He.free_ok X G (c.fact 79)
  b_isinstance := He.free_ok X G (c.fact 80)
  b_len := He.free_ok X G (c.fact 81)
  b_list := He.free_ok X G (c.fact 82)
  b_max := He.free_ok X G (c.fact 83)
  b_range := He.free_ok X G (c.fact 84)
  b_str := He.free_ok X G (c.fact 85)
  b_sum := He.free_ok X G (c.fact 86)
  b_tuple := He.free_ok X G (c.fact 87)
  b_zip := He.free_ok X G (c.fact 88)
  k_BLANK := kc_of (He.glo_ok X G (c.fact 89)) (ex_at e 0)
  k_FAULTS := kc_of (He.glo_ok X G (c.fact 90)) (ex_at e 1)
  k_PARTS := kc_of (He.glo_ok X G (c.fact 91)) (ex_at e 2)
  k_VALUES := kc_of (He.glo_ok X G (c.fact 92)) (ex_at e 3)
  gc_Rule := He.glo_ok X G (c.fact 93)
  c_Rule := He.cls_ok (c.fact 94)
  n_Rule_checking := He.noat_ok (c.fact 95)
  n_Rule_halves := He.noat_ok (c.fact 96)
  n_Rule_singles := He.noat_ok (c.fact 97)
  n_Rule_telling := He.noat_ok (c.fact 98)
  m_Rule_parts := He.meth_ok (c.fact 99)
  mk_Rule := He.mkr_ok (c.fact 100)
theorem facts {P : Program} {w : PySem.World} {K : PySem.W.Frag} {h : Heap} {mg : Str → Option Value} {f : Addr} (X : K.In h) (G : h.Ns mainGlobals mg) (hfa : mg ("law" : Str) = some (.ref f)) (c : He.SaysD fa fn K) (e : ex K = true) :
    ∃ fd : FuncData, (∀ (s : Shared) (v : Value), BindsTo s fd ⟨[v], []⟩ [("_law_script", v)]) ∧ ∀ base : Heap, K.In base → base.Ns mainGlobals mg → FnOk P w K mg base (L2.CX P w) 9 f fd ["_law_script"] (spM w K 1 m_law) := by
  have g : Gs K mg := gs_of X G c e
  obtain ⟨fd0, F0⟩ := c.def_ 0 (d := D_law_begin) rfl
  obtain ⟨fd1, F1⟩ := c.def_ 1 (d := D_law_values) rfl
  obtain ⟨fd2, F2⟩ := c.def_ 2 (d := D_law_draw) rfl
  obtain ⟨fd3, F3⟩ := c.def_ 3 (d := D_law_parts) rfl
  obtain ⟨fd4, F4⟩ := c.def_ 4 (d := D_law_hour_step) rfl
  obtain ⟨fd5, F5⟩ := c.def_ 5 (d := D_law_world) rfl
  obtain ⟨fd6, F6⟩ := c.def_ 6 (d := D_law_new) rfl
  obtain ⟨fd7, F7⟩ := c.def_ 7 (d := D_law_start) rfl
  obtain ⟨fd8, F8⟩ := c.def_ 8 (d := D_law_key) rfl
  obtain ⟨fd9, F9⟩ := c.def_ 9 (d := D_law_state) rfl
  obtain ⟨fd10, F10⟩ := c.def_ 10 (d := D_law_has) rfl
  obtain ⟨fd11, F11⟩ := c.def_ 11 (d := D_law_next) rfl
  obtain ⟨fd12, F12⟩ := c.def_ 12 (d := D_law_clone) rfl
  obtain ⟨fd13, F13⟩ := c.def_ 13 (d := D_law_free) rfl
  obtain ⟨fd14, F14⟩ := c.def_ 14 (d := D_law_gap) rfl
  obtain ⟨fd15, F15⟩ := c.def_ 15 (d := D_law_told) rfl
  obtain ⟨fd16, F16⟩ := c.def_ 16 (d := D_law_copy) rfl
  obtain ⟨fd17, F17⟩ := c.def_ 17 (d := D_law_room) rfl
  obtain ⟨fd18, F18⟩ := c.def_ 18 (d := D_law_fits) rfl
  obtain ⟨fd19, F19⟩ := c.def_ 19 (d := D_law_person) rfl
  obtain ⟨fd20, F20⟩ := c.def_ 20 (d := D_law_undone) rfl
  obtain ⟨fd21, F21⟩ := c.def_ 21 (d := D_law_single) rfl
  obtain ⟨fd22, F22⟩ := c.def_ 22 (d := D_law_write) rfl
  obtain ⟨fd23, F23⟩ := c.def_ 23 (d := D_law_step) rfl
  obtain ⟨fd24, F24⟩ := c.def_ 24 (d := D_law_meets) rfl
  obtain ⟨fd25, F25⟩ := c.def_ 25 (d := D_law_words) rfl
  obtain ⟨fd26, F26⟩ := c.def_ 26 (d := D_law_faults) rfl
  obtain ⟨fd27, F27⟩ := c.def_ 27 (d := D_law_walk) rfl
  obtain ⟨fd28, F28⟩ := c.def_ 28 (d := D_law_like_0) rfl
  obtain ⟨fd29, F29⟩ := c.def_ 29 (d := D_law_sets_0) rfl
  obtain ⟨fd30, F30⟩ := c.def_ 30 (d := D_law_names) rfl
  obtain ⟨fd31, F31⟩ := c.def_ 31 (d := D_law_set) rfl
  obtain ⟨fd32, F32⟩ := c.def_ 32 (d := D_law_due) rfl
  obtain ⟨fd33, F33⟩ := c.def_ 33 (d := D_is_whole) rfl
  obtain ⟨fd34, F34⟩ := c.def_ 34 (d := D_are_series) rfl
  obtain ⟨fd35, F35⟩ := c.def_ 35 (d := D_is_step) rfl
  obtain ⟨fd36, F36⟩ := c.def_ 36 (d := D_is_hand) rfl
  obtain ⟨fd37, F37⟩ := c.def_ 37 (d := D_is_world) rfl
  obtain ⟨fd38, F38⟩ := c.def_ 38 (d := D_check_world) rfl
  obtain ⟨fd39, F39⟩ := c.def_ 39 (d := D_check_faults) rfl
  obtain ⟨fd40, F40⟩ := c.def_ 40 (d := D_Rule_parts) rfl
  obtain ⟨fd41, F41⟩ := c.def_ 41 (d := D_turnings_0) rfl
  obtain ⟨fd42, F42⟩ := c.def_ 42 (d := D_fresh) rfl
  obtain ⟨fd43, F43⟩ := c.def_ 43 (d := D_begin) rfl
  obtain ⟨fd44, F44⟩ := c.def_ 44 (d := D_has_step) rfl
  obtain ⟨fd45, F45⟩ := c.def_ 45 (d := D_hands_at) rfl
  obtain ⟨fd46, F46⟩ := c.def_ 46 (d := D_is_room_free) rfl
  obtain ⟨fd47, F47⟩ := c.def_ 47 (d := D_is_person_free) rfl
  obtain ⟨fd48, F48⟩ := c.def_ 48 (d := D_is_gap) rfl
  obtain ⟨fd49, F49⟩ := c.def_ 49 (d := D_person_hours) rfl
  obtain ⟨fd50, F50⟩ := c.def_ 50 (d := D_find_step) rfl
  obtain ⟨fd51, F51⟩ := c.def_ 51 (d := D_tell_step) rfl
  obtain ⟨fd52, F52⟩ := c.def_ 52 (d := D_room_day) rfl
  obtain ⟨fd53, F53⟩ := c.def_ 53 (d := D_with_series) rfl
  obtain ⟨fd54, F54⟩ := c.def_ 54 (d := D_room_set) rfl
  obtain ⟨fd55, F55⟩ := c.def_ 55 (d := D_room_step) rfl
  obtain ⟨fd56, F56⟩ := c.def_ 56 (d := D_person_set) rfl
  obtain ⟨fd57, F57⟩ := c.def_ 57 (d := D_taken_back) rfl
  obtain ⟨fd58, F58⟩ := c.def_ 58 (d := D_person_step) rfl
  obtain ⟨fd59, F59⟩ := c.def_ 59 (d := D_one_set) rfl
  obtain ⟨fd60, F60⟩ := c.def_ 60 (d := D_off_set) rfl
  obtain ⟨fd61, F61⟩ := c.def_ 61 (d := D_stepped) rfl
  obtain ⟨fd62, F62⟩ := c.def_ 62 (d := D_meets_room) rfl
  obtain ⟨fd63, F63⟩ := c.def_ 63 (d := D_meets_person) rfl
  obtain ⟨fd64, F64⟩ := c.def_ 64 (d := D_lost_single) rfl
  obtain ⟨fd65, F65⟩ := c.def_ 65 (d := D_step_faults) rfl
  obtain ⟨fd66, F66⟩ := c.def_ 66 (d := D_is_half) rfl
  obtain ⟨fd67, F67⟩ := c.def_ 67 (d := D_led) rfl
  obtain ⟨fd68, F68⟩ := c.def_ 68 (d := D_walked) rfl
  obtain ⟨fd69, F69⟩ := c.def_ 69 (d := D_is_without) rfl
  obtain ⟨fd70, F70⟩ := c.def_ 70 (d := D_Rule___init__) rfl
  obtain ⟨fd71, F71⟩ := c.def_ 71 (d := D_rule_of) rfl
  obtain ⟨fd72, F72⟩ := c.def_ 72 (d := D_with_turns) rfl
  obtain ⟨fd73, F73⟩ := c.def_ 73 (d := D_mends) rfl
  obtain ⟨fd74, F74⟩ := c.def_ 74 (d := D_law_rule) rfl
  obtain ⟨fd75, F75⟩ := c.def_ 75 (d := D_law) rfl
  have e0 := hfa.symm.trans (He.glo_ok X G (c.fact 73))
  cases e0
  have b := FunD.bindsA (ps := ["_law_script"]) F75 fun _ _ _ _ _ _ us hl => match us, hl with | [_], _ => rfl
  refine ⟨fd75, fun s v => b s [v] rfl, fun base _ _ => ?_⟩
  have h_law_begin := ok_law_begin (P := P) (w := w) (base := base) g    F0 (He.glo_ok X G (c.fact 0))
  have h_law_values := ok_law_values (P := P) (w := w) (base := base) g    F1 (He.glo_ok X G (c.fact 1))
  have h_law_draw := ok_law_draw (P := P) (w := w) (base := base) g    F2 (He.glo_ok X G (c.fact 2))
  have h_law_parts := ok_law_parts (P := P) (w := w) (base := base) g h_law_values h_law_draw   F3 (He.glo_ok X G (c.fact 3))
  have h_law_hour_step := ok_law_hour_step (P := P) (w := w) (base := base) g h_law_draw   F4 (He.glo_ok X G (c.fact 4))
  have h_law_world := ok_law_world (P := P) (w := w) (base := base) g h_law_draw h_law_hour_step   F5 (He.glo_ok X G (c.fact 5))
  have h_law_new := ok_law_new (P := P) (w := w) (base := base) g    F6 (He.glo_ok X G (c.fact 6))
  have h_law_start := ok_law_start (P := P) (w := w) (base := base) g h_law_new   F7 (He.glo_ok X G (c.fact 7))
  have h_law_key := ok_law_key (P := P) (w := w) (base := base) g    F8 (He.glo_ok X G (c.fact 8))
  have h_law_state := ok_law_state (P := P) (w := w) (base := base) g h_law_key   F9 (He.glo_ok X G (c.fact 9))
  have h_law_has := ok_law_has (P := P) (w := w) (base := base) g    F10 (He.glo_ok X G (c.fact 10))
  have h_law_next := ok_law_next (P := P) (w := w) (base := base) g h_law_has   F11 (He.glo_ok X G (c.fact 11))
  have h_law_clone := ok_law_clone (P := P) (w := w) (base := base) g    F12 (He.glo_ok X G (c.fact 12))
  have h_law_free := ok_law_free (P := P) (w := w) (base := base) g    F13 (He.glo_ok X G (c.fact 13))
  have h_law_gap := ok_law_gap (P := P) (w := w) (base := base) g h_law_free   F14 (He.glo_ok X G (c.fact 14))
  have h_law_told := ok_law_told (P := P) (w := w) (base := base) g    F15 (He.glo_ok X G (c.fact 15))
  have h_law_copy := ok_law_copy (P := P) (w := w) (base := base) g    F16 (He.glo_ok X G (c.fact 16))
  have h_law_room := ok_law_room (P := P) (w := w) (base := base) g h_law_copy   F17 (He.glo_ok X G (c.fact 17))
  have h_law_fits := ok_law_fits (P := P) (w := w) (base := base) g h_law_free   F18 (He.glo_ok X G (c.fact 18))
  have h_law_person := ok_law_person (P := P) (w := w) (base := base) g h_law_copy   F19 (He.glo_ok X G (c.fact 19))
  have h_law_undone := ok_law_undone (P := P) (w := w) (base := base) g h_law_copy   F20 (He.glo_ok X G (c.fact 20))
  have h_law_single := ok_law_single (P := P) (w := w) (base := base) g h_law_free h_law_copy   F21 (He.glo_ok X G (c.fact 21))
  have h_law_write := ok_law_write (P := P) (w := w) (base := base) g h_law_room h_law_fits h_law_person h_law_undone h_law_single   F22 (He.glo_ok X G (c.fact 22))
  have h_law_step := ok_law_step (P := P) (w := w) (base := base) g h_law_gap h_law_told h_law_write   F23 (He.glo_ok X G (c.fact 23))
  have h_law_meets := ok_law_meets (P := P) (w := w) (base := base) g h_law_free   F24 (He.glo_ok X G (c.fact 24))
  have h_law_words := ok_law_words (P := P) (w := w) (base := base) g    F25 (He.glo_ok X G (c.fact 25))
  have h_law_faults := ok_law_faults (P := P) (w := w) (base := base) g h_law_meets h_law_told h_law_has h_law_words   F26 (He.glo_ok X G (c.fact 26))
  have h_law_walk := ok_law_walk (P := P) (w := w) (base := base) g h_law_start h_law_state h_law_next h_law_clone h_law_step h_law_faults   F27 (He.glo_ok X G (c.fact 27))
  have h_law_like_0 := ok_law_like_0 (P := P) (w := w) (base := base) g    F28 (He.glo_ok X G (c.fact 28))
  have h_law_like_1 := ok_law_like_1 (P := P) (w := w) (base := base) g h_law_like_0   F28 (He.glo_ok X G (c.fact 28))
  have h_law_like_2 := ok_law_like_2 (P := P) (w := w) (base := base) g h_law_like_1   F28 (He.glo_ok X G (c.fact 28))
  have h_law_like_3 := ok_law_like_3 (P := P) (w := w) (base := base) g h_law_like_2   F28 (He.glo_ok X G (c.fact 28))
  have h_law_like_4 := ok_law_like_4 (P := P) (w := w) (base := base) g h_law_like_3   F28 (He.glo_ok X G (c.fact 28))
  have h_law_like_5 := ok_law_like_5 (P := P) (w := w) (base := base) g h_law_like_4   F28 (He.glo_ok X G (c.fact 28))
  have h_law_like_6 := ok_law_like_6 (P := P) (w := w) (base := base) g h_law_like_5   F28 (He.glo_ok X G (c.fact 28))
  have h_law_sets_0 := ok_law_sets_0 (P := P) (w := w) (base := base) g    F29 (He.glo_ok X G (c.fact 29))
  have h_law_names := ok_law_names (P := P) (w := w) (base := base) g    F30 (He.glo_ok X G (c.fact 30))
  have h_law_sets_1 := ok_law_sets_1 (P := P) (w := w) (base := base) g h_law_values h_law_sets_0 h_law_names   F29 (He.glo_ok X G (c.fact 29))
  have h_law_sets_2 := ok_law_sets_2 (P := P) (w := w) (base := base) g h_law_values h_law_sets_1 h_law_names   F29 (He.glo_ok X G (c.fact 29))
  have h_law_sets_3 := ok_law_sets_3 (P := P) (w := w) (base := base) g h_law_values h_law_sets_2 h_law_names   F29 (He.glo_ok X G (c.fact 29))
  have h_law_sets_4 := ok_law_sets_4 (P := P) (w := w) (base := base) g h_law_values h_law_sets_3 h_law_names   F29 (He.glo_ok X G (c.fact 29))
  have h_law_sets_5 := ok_law_sets_5 (P := P) (w := w) (base := base) g h_law_values h_law_sets_4 h_law_names   F29 (He.glo_ok X G (c.fact 29))
  have h_law_set := ok_law_set (P := P) (w := w) (base := base) g h_law_names   F31 (He.glo_ok X G (c.fact 31))
  have h_law_due := ok_law_due (P := P) (w := w) (base := base) g h_law_sets_5 h_law_walk h_law_set   F32 (He.glo_ok X G (c.fact 32))
  have h_is_whole := ok_is_whole (P := P) (w := w) (base := base) g    F33 (He.glo_ok X G (c.fact 33))
  have h_are_series := ok_are_series (P := P) (w := w) (base := base) g h_is_whole   F34 (He.glo_ok X G (c.fact 34))
  have h_is_step := ok_is_step (P := P) (w := w) (base := base) g h_is_whole   F35 (He.glo_ok X G (c.fact 35))
  have h_is_hand := ok_is_hand (P := P) (w := w) (base := base) g h_is_whole h_is_step   F36 (He.glo_ok X G (c.fact 36))
  have h_is_world := ok_is_world (P := P) (w := w) (base := base) g h_is_whole h_are_series h_is_hand   F37 (He.glo_ok X G (c.fact 37))
  have h_check_world := ok_check_world (P := P) (w := w) (base := base) g h_is_world   F38 (He.glo_ok X G (c.fact 38))
  have h_check_faults := ok_check_faults (P := P) (w := w) (base := base) g    F39 (He.glo_ok X G (c.fact 39))
  have h_Rule_parts := ok_Rule_parts (P := P) (w := w) (base := base) g    F40
  have h_turnings_0 := ok_turnings_0 (P := P) (w := w) (base := base) g    F41 (He.glo_ok X G (c.fact 40))
  have h_turnings_1 := ok_turnings_1 (P := P) (w := w) (base := base) g h_Rule_parts h_turnings_0   F41 (He.glo_ok X G (c.fact 40))
  have h_turnings_2 := ok_turnings_2 (P := P) (w := w) (base := base) g h_Rule_parts h_turnings_1   F41 (He.glo_ok X G (c.fact 40))
  have h_turnings_3 := ok_turnings_3 (P := P) (w := w) (base := base) g h_Rule_parts h_turnings_2   F41 (He.glo_ok X G (c.fact 40))
  have h_turnings_4 := ok_turnings_4 (P := P) (w := w) (base := base) g h_Rule_parts h_turnings_3   F41 (He.glo_ok X G (c.fact 40))
  have h_turnings_5 := ok_turnings_5 (P := P) (w := w) (base := base) g h_Rule_parts h_turnings_4   F41 (He.glo_ok X G (c.fact 40))
  have h_fresh := ok_fresh (P := P) (w := w) (base := base) g    F42 (He.glo_ok X G (c.fact 41))
  have h_begin := ok_begin (P := P) (w := w) (base := base) g h_fresh   F43 (He.glo_ok X G (c.fact 42))
  have h_has_step := ok_has_step (P := P) (w := w) (base := base) g h_is_whole   F44 (He.glo_ok X G (c.fact 43))
  have h_hands_at := ok_hands_at (P := P) (w := w) (base := base) g h_has_step   F45 (He.glo_ok X G (c.fact 44))
  have h_is_room_free := ok_is_room_free (P := P) (w := w) (base := base) g    F46 (He.glo_ok X G (c.fact 45))
  have h_is_person_free := ok_is_person_free (P := P) (w := w) (base := base) g    F47 (He.glo_ok X G (c.fact 46))
  have h_is_gap := ok_is_gap (P := P) (w := w) (base := base) g h_is_room_free h_is_person_free   F48 (He.glo_ok X G (c.fact 47))
  have h_person_hours := ok_person_hours (P := P) (w := w) (base := base) g    F49 (He.glo_ok X G (c.fact 48))
  have h_find_step := ok_find_step (P := P) (w := w) (base := base) g h_is_gap h_person_hours   F50 (He.glo_ok X G (c.fact 49))
  have h_tell_step := ok_tell_step (P := P) (w := w) (base := base) g h_person_hours   F51 (He.glo_ok X G (c.fact 50))
  have h_room_day := ok_room_day (P := P) (w := w) (base := base) g    F52 (He.glo_ok X G (c.fact 51))
  have h_with_series := ok_with_series (P := P) (w := w) (base := base) g    F53 (He.glo_ok X G (c.fact 52))
  have h_room_set := ok_room_set (P := P) (w := w) (base := base) g h_room_day h_is_room_free h_with_series   F54 (He.glo_ok X G (c.fact 53))
  have h_room_step := ok_room_step (P := P) (w := w) (base := base) g h_room_set   F55 (He.glo_ok X G (c.fact 54))
  have h_person_set := ok_person_set (P := P) (w := w) (base := base) g h_is_person_free h_with_series   F56 (He.glo_ok X G (c.fact 55))
  have h_taken_back := ok_taken_back (P := P) (w := w) (base := base) g h_with_series   F57 (He.glo_ok X G (c.fact 56))
  have h_person_step := ok_person_step (P := P) (w := w) (base := base) g h_person_set h_taken_back   F58 (He.glo_ok X G (c.fact 57))
  have h_one_set := ok_one_set (P := P) (w := w) (base := base) g h_is_room_free h_is_person_free h_with_series   F59 (He.glo_ok X G (c.fact 58))
  have h_off_set := ok_off_set (P := P) (w := w) (base := base) g h_with_series   F60 (He.glo_ok X G (c.fact 59))
  have h_stepped := ok_stepped (P := P) (w := w) (base := base) g h_find_step h_tell_step h_room_step h_person_step h_one_set h_off_set   F61 (He.glo_ok X G (c.fact 60))
  have h_meets_room := ok_meets_room (P := P) (w := w) (base := base) g h_is_room_free   F62 (He.glo_ok X G (c.fact 61))
  have h_meets_person := ok_meets_person (P := P) (w := w) (base := base) g h_is_person_free   F63 (He.glo_ok X G (c.fact 62))
  have h_lost_single := ok_lost_single (P := P) (w := w) (base := base) g    F64 (He.glo_ok X G (c.fact 63))
  have h_step_faults := ok_step_faults (P := P) (w := w) (base := base) g h_meets_room h_meets_person h_lost_single h_person_hours   F65 (He.glo_ok X G (c.fact 64))
  have h_is_half := ok_is_half (P := P) (w := w) (base := base) g    F66 (He.glo_ok X G (c.fact 65))
  have h_led := ok_led (P := P) (w := w) (base := base) g h_stepped h_step_faults h_is_half   F67 (He.glo_ok X G (c.fact 66))
  have h_walked := ok_walked (P := P) (w := w) (base := base) g h_begin h_hands_at h_led   F68 (He.glo_ok X G (c.fact 67))
  have h_is_without := ok_is_without (P := P) (w := w) (base := base) g h_walked   F69 (He.glo_ok X G (c.fact 68))
  have h_Rule___init__ := ok_Rule___init__ (P := P) (w := w) (base := base) g    F70
  have h_rule_of := ok_rule_of (P := P) (w := w) (base := base) g h_Rule___init__   F71 (He.glo_ok X G (c.fact 69))
  have h_with_turns := ok_with_turns (P := P) (w := w) (base := base) g h_rule_of h_Rule_parts   F72 (He.glo_ok X G (c.fact 70))
  have h_mends := ok_mends (P := P) (w := w) (base := base) g h_check_world h_check_faults h_turnings_5 h_is_without h_with_turns   F73 (He.glo_ok X G (c.fact 71))
  have h_law_rule := ok_law_rule (P := P) (w := w) (base := base) g h_Rule___init__   F74 (He.glo_ok X G (c.fact 72))
  exact ok_law g h_law_begin h_law_parts h_law_world h_law_draw h_law_walk h_law_words h_law_like_6 h_law_due h_mends h_law_rule   F75
theorem law_sp {w : PySem.World} {K : PySem.W.Frag} (H : Hp) (a : Addr) (ns : List Int) (hl : ns.length ≤ 63) (hO : Only H) (hS : SqL K H a (ns.map V.int)) : spM w K 1 m_law [.ref a] H (fun v _ => v = .bl true) (fun _ _ _ => False) := by
  refine ⟨rfl, ⟨w, K, H, [], []⟩, [], [.kls (ns.map MV.int)], rfl, rfl, rfl, ⟨rfl, List.nodup_nil, (fun a m => nomatch m), fun n o a e _ => by simp at e⟩, ?_, ?_⟩
  · refine .cons ?_ .nil
    rw [RepV]
    have t : RepVs ⟨w, K, H, [], []⟩ (ns.map MV.int) (ns.map V.int) := by
      induction ns with
      | nil => exact .nil
      | cons n ns ih =>
        refine .cons (repI n) ?_
        have z : ∀ ns : List Int, RepVs ⟨w, K, H, [], []⟩ (ns.map MV.int) (ns.map V.int) := fun ns => by
          induction ns with
          | nil => exact .nil
          | cons n ns ih => exact .cons (repI n) ih
        exact z ns
    refine ⟨a, ns.map V.int, rfl, ?_, t⟩
    rcases hS with (h | ⟨o, h⟩) | h
    · rcases hO a with z | ⟨o, xs, z⟩ <;> rw [z] at h <;> cases h
    · exact .inl ⟨o, h⟩
    · exact .inr (.inr h)
  · obtain ⟨S', e⟩ := law_true ns hl
    rw [e]
    exact fun C' g r v rv => vBl rv
end Lw
open PySem PySem.W PySem.Calls PyProof.Rows
theorem PySem.Challenge.cw_seriesbooked_k07_whole_mends_holds : PySem.Challenge.rw_seriesbooked_k07_whole_mends.Holds := by
  w_on; o_law
  refine HandSHeadRun.head_any (r := OpenLaw.row PySem.Challenge.rw_seriesbooked_k07_whole_mends) (q := view (OpenLaw.row PySem.Challenge.rw_seriesbooked_k07_whole_mends).prog [90]) (H := Lw.hk) (ob := Lw.ob) (M := 4000) (loose := Lw.nms) (d := HandSHeadRun.topDef (OpenLaw.row PySem.Challenge.rw_seriesbooked_k07_whole_mends).prog 90) (kwd := []) Lw.ob_eq
    (by kernel_rfl) (fun s => by kernel_rfl) Lw.run0 (by kernel_rfl) (by kernel_rfl) (by kernel_rfl) (by rfl) (by first | assumption | decide +kernel) (by decide +kernel) ⟨rfl, rfl, rfl, rfl, rfl, by decide +kernel⟩ ?hw ?hc
  case hw => w_witness2
  case hc =>
    refine L2.walk_ofE (l := PySem.Challenge.rw_seriesbooked_k07_whole_mends) (n := 63) (k := 9) (x := "_law_script") (CX := L2.CX0) rfl (by decide) (by kernel_rfl) ⟨rfl, by decide, by decide⟩ ?F (fun _ _ _ _ z => z)
    intro w mg fa h Y G hmg0
    obtain ⟨K, KX, c⟩ := Y
    have glaw : mg ("law" : PySem.Str) = some (.ref fa) := by
      have e : (HandSHeadRun.topDef (OpenLaw.row PySem.Challenge.rw_seriesbooked_k07_whole_mends).prog 90).name = ("law" : PySem.Str) := by kernel_rfl
      rw [← e]
      exact hmg0
    obtain ⟨fd, hb, hF⟩ := Lw.facts (P := (PySem.Challenge.rw_seriesbooked_k07_whole_mends).prog) (w := w) KX G glaw c.1.d c.2
    exact ⟨K, fd, (fun vs H Q _ => Mi.spM w K 1 Lw.m_law vs H Q (fun _ _ _ => False)), KX, hb, fun H a ns hl hO hS => Lw.law_sp H a ns hl hO hS, fun base k1 k2 => Lw.fn_nox (hF base k1 k2)⟩
