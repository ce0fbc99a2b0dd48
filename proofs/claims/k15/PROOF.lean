import PyProof.Rows.All
import Wide.All
import OpenK.AllK
import Wide.FinOn
import HandS.ForMost
import HandS.ForExc
import HandS.ExcInit
import HandS.TryMany
import HandS.TryOnly
import HandS.CallSlots
import HandS.IsInst
import HandS.Walk
import HandS.Zip
import HandS.HeadHook4
import HandS.Flow
import HandS.Wide
import HandS.TupAny
import HandS.TupMul
import HandS.Deep
import HandS.Style
import KE.GoesZip
import KE.GoesMore
import KE.GoesEnum
import KE.GoesNew
import HandS.Comp
import HandS.Small
import HandS.ExcField
import HandS.HeadEnd
import KE.KDictZip
import HandS.DictComp
import KE.KDictKeyed
import HandS.Dict
import KE.KDictDisplayH
import HandS.TupLen
import KE.KEqDict
import HandS.More
import HandS.HeadHook3
import HandS.NamedTupGet
import PyProof.InstNe
import HandS.Text
import HandS.RaiseMore
import HandS.ReplaceLit
import HandS.FStrTup
import PyProof.ReprRoads
import PyProof.ReprHeadsEmpty
import PyProof.CallStr
import PySem.Challenge.RW_seriesbooked_k15_errors_are_apart
import HandS.Head0
import HandS.Head1
import HandS.Head2
import HandS.HeadHook1
import HandS.HeadHook2
import KE.KStateDown
import Lean
set_option Elab.async false
set_option linter.all false
set_option maxRecDepth 100000
set_option maxHeartbeats 2000000
namespace Mi
open PySem PySem.Spec PyProof.Rows L2
/-- plain data, and references into a store -/
inductive MV where
  | non | bl (b : Bool) | int (i : Int) | str (x : Str)
  | tup (xs : List MV) | lst (xs : List MV)
  | dct (ks : List Key) (vs : List MV)
  | dcT (ks : List MV) (vs : List MV)
  | obj (c : Str) (fs : List Str) (vs : List MV)
  | ref (n : Nat)
  | kls (xs : List MV)
  deriving Inhabited
mutual
def conB (K : PySem.W.Frag) : MV → Value → Bool
  | .non, .none => true
  | .bl b, .bool c => b == c
  | .str x, .str y _ => decide (y = x)
  | .int i, .int j _ => decide (j = i)
  | .tup xs, .ref a => (match K.lookup a with
    | some ⟨.type c, _, .seq its _, _⟩ => decide (c = "tuple") && (decide (its.size ≤ sizeLine) && conBs K xs its.toList)
    | _ => false)
  | _, _ => false
def conBs (K : PySem.W.Frag) : List MV → List Value → Bool
  | [], [] => true
  | d :: ds, u :: us => conB K d u && conBs K ds us
  | _, _ => false
end
def oexObj (C : Addr) : Option Obj → Bool
  | some ⟨.type "type", _, .cls ⟨_, _, .ref D :: up, _, _, true, _, _, _, _, false⟩, ⟨[_, _, _, _, some (.builtin n), _]⟩⟩ => D == C && (n == "ValueError.__new__" && PySem.HandSPX.refsVE up)
  | _ => false
def oexB (K : PySem.W.Frag) (C : Addr) : Bool := oexObj C (K.lookup C) && (He.eqO (PySem.W.findIn K (.ref C) "__setattr__") (some (some (.builtin "object.__setattr__"))) &&
  (decide (PySem.W.subIn K (.ref C) (.type "BaseException") = some true ∧ PySem.W.typeIn K (.ref C) = some (.type "type")) && PySem.W.keepIn K (.ref C)))
def tabB (K : PySem.W.Frag) (x : Str) (kvs : List (Str × Int)) : Bool := match K.lookup (He.ga K x) with
  | some ⟨_, _, .dict es _, _⟩ => decide (es.toList.map (fun e => (match e.key with
    | .str y _ => some y
    | _ => none)) = kvs.map fun p => some p.1) && (es.toList.zip kvs).all fun q => (match q.1.val with
    | .int j _ => decide (j = q.2.2)
    | _ => false)
  | _ => false
end Mi
namespace Lw
open PySem PySem.Spec PyProof.Rows L2 Mi
set_option maxHeartbeats 0
def top (i : Nat) : Stmt := PySem.Challenge.pw_seriesbooked_k15_errors_are_apart.main.body.getD i (.Pass ⟨0, 0, 0, 0⟩)
def d_BLANK : MV := .tup [.non, .non, .non]
def d_FAULTS : MV := .tup [.str "room", .str "person", .str "lost", .str "elder", .str "half"]
def d_FIGURES : MV := .str "0123456789"
def d_PARTS : MV := .tup [.str "checking", .str "singles", .str "halves", .str "telling"]
def d_VALUES : MV := .tup [.tup [.str "none", .str "room", .str "both"], .tup [.str "keep", .str "move", .str "reset"], .tup [.str "left", .str "undone"], .tup [.str "now", .str "seen"]]
def tab_SIZES : List (Str × Int) := [("room", 3), ("person", 2), ("one", 4), ("off", 3)]
abbrev s_law_begin : Stmt := top 78
abbrev s_Rule___init__ : Stmt := inClass (top 15) 0
abbrev s_law_rule : Stmt := top 83
abbrev s_law_values : Stmt := top 80
abbrev s_law_draw : Stmt := top 79
abbrev s_law_parts : Stmt := top 82
abbrev s_is_whole : Stmt := top 33
abbrev s_Calendar_is_deed : Stmt := inClass (top 68) 10
abbrev s_Calendar_do : Stmt := inClass (top 68) 16
abbrev s_are_series : Stmt := top 36
abbrev s_is_step : Stmt := top 34
abbrev s_is_hand : Stmt := top 35
abbrev s_is_world : Stmt := top 37
abbrev s_check_world : Stmt := top 38
abbrev s_check_faults : Stmt := top 58
abbrev s_bars : Stmt := top 62
abbrev s_mends : Stmt := top 65
abbrev s_fresh : Stmt := top 18
abbrev s_Calendar_count : Stmt := inClass (top 68) 1
abbrev s_Calendar_mark : Stmt := inClass (top 68) 2
abbrev s_Calendar_add : Stmt := inClass (top 68) 6
abbrev s_Calendar_undo : Stmt := inClass (top 68) 20
abbrev s_number_of : Stmt := top 72
abbrev s_calendar_in : Stmt := top 73
abbrev s_read : Stmt := top 76
abbrev s_begin : Stmt := top 39
abbrev s_has_step : Stmt := top 51
abbrev s_person_hours : Stmt := top 29
abbrev s_tell_step : Stmt := top 41
abbrev s_stepped : Stmt := top 44
abbrev s_is_room_free : Stmt := top 19
abbrev s_meets_room : Stmt := top 45
abbrev s_is_person_free : Stmt := top 20
abbrev s_meets_person : Stmt := top 46
abbrev s_lost_single : Stmt := top 47
abbrev s_step_faults : Stmt := top 48
abbrev s_is_half : Stmt := top 49
abbrev s_led : Stmt := top 50
abbrev s_woven : Stmt := top 52
abbrev s_run : Stmt := top 53
abbrev s_law_call : Stmt := top 84
abbrev s_law_kind : Stmt := top 85
abbrev s_Calendar___init__ : Stmt := inClass (top 68) 0
abbrev s_law_calendar : Stmt := top 87
abbrev s_law_under : Stmt := top 86
abbrev s_law : Stmt := top 88
abbrev s_XBadLine : Stmt := inClass (top 11) 0
abbrev s_XBadRule : Stmt := inClass (top 8) 0
abbrev s_XBadWeaving : Stmt := inClass (top 9) 0
abbrev s_XRefused : Stmt := inClass (top 10) 0
def D_law_begin : He.DefD := ⟨("_law_begin", none), "_law_begin", "_law_begin", defArgs s_law_begin, defBody s_law_begin, defScope s_law_begin, [], []⟩
def D_Rule___init__ : He.DefD := ⟨("Rule", some "__init__"), "__init__", "Rule.__init__", defArgs s_Rule___init__, defBody s_Rule___init__, defScope s_Rule___init__, [], []⟩
def D_law_rule : He.DefD := ⟨("_law_rule", none), "_law_rule", "_law_rule", defArgs s_law_rule, defBody s_law_rule, defScope s_law_rule, [], []⟩
def D_law_values : He.DefD := ⟨("_law_values", none), "_law_values", "_law_values", defArgs s_law_values, defBody s_law_values, defScope s_law_values, [], []⟩
def D_law_draw : He.DefD := ⟨("_law_draw", none), "_law_draw", "_law_draw", defArgs s_law_draw, defBody s_law_draw, defScope s_law_draw, [], []⟩
def D_law_parts : He.DefD := ⟨("_law_parts", none), "_law_parts", "_law_parts", defArgs s_law_parts, defBody s_law_parts, defScope s_law_parts, [], []⟩
def D_is_whole : He.DefD := ⟨("is_whole", none), "is_whole", "is_whole", defArgs s_is_whole, defBody s_is_whole, defScope s_is_whole, [], []⟩
def D_Calendar_is_deed : He.DefD := ⟨("Calendar", some "is_deed"), "is_deed", "Calendar.is_deed", defArgs s_Calendar_is_deed, defBody s_Calendar_is_deed, defScope s_Calendar_is_deed, [], []⟩
def D_Calendar_do : He.DefD := ⟨("Calendar", some "do"), "do", "Calendar.do", defArgs s_Calendar_do, defBody s_Calendar_do, defScope s_Calendar_do, [], []⟩
def D_are_series : He.DefD := ⟨("are_series", none), "are_series", "are_series", defArgs s_are_series, defBody s_are_series, defScope s_are_series, [], []⟩
def D_is_step : He.DefD := ⟨("is_step", none), "is_step", "is_step", defArgs s_is_step, defBody s_is_step, defScope s_is_step, [], []⟩
def D_is_hand : He.DefD := ⟨("is_hand", none), "is_hand", "is_hand", defArgs s_is_hand, defBody s_is_hand, defScope s_is_hand, [], []⟩
def D_is_world : He.DefD := ⟨("is_world", none), "is_world", "is_world", defArgs s_is_world, defBody s_is_world, defScope s_is_world, [], []⟩
def D_check_world : He.DefD := ⟨("check_world", none), "check_world", "check_world", defArgs s_check_world, defBody s_check_world, defScope s_check_world, [], []⟩
def D_check_faults : He.DefD := ⟨("check_faults", none), "check_faults", "check_faults", defArgs s_check_faults, defBody s_check_faults, defScope s_check_faults, [], []⟩
def D_bars : He.DefD := ⟨("bars", none), "bars", "bars", defArgs s_bars, defBody s_bars, defScope s_bars, [], []⟩
def D_mends : He.DefD := ⟨("mends", none), "mends", "mends", defArgs s_mends, defBody s_mends, defScope s_mends, [], []⟩
def D_fresh : He.DefD := ⟨("fresh", none), "fresh", "fresh", defArgs s_fresh, defBody s_fresh, defScope s_fresh, [], []⟩
def D_Calendar_count : He.DefD := ⟨("Calendar", some "count"), "count", "Calendar.count", defArgs s_Calendar_count, defBody s_Calendar_count, defScope s_Calendar_count, [], []⟩
def D_Calendar_mark : He.DefD := ⟨("Calendar", some "mark"), "mark", "Calendar.mark", defArgs s_Calendar_mark, defBody s_Calendar_mark, defScope s_Calendar_mark, [], []⟩
def D_Calendar_add : He.DefD := ⟨("Calendar", some "add"), "add", "Calendar.add", defArgs s_Calendar_add, defBody s_Calendar_add, defScope s_Calendar_add, [], []⟩
def D_Calendar_undo : He.DefD := ⟨("Calendar", some "undo"), "undo", "Calendar.undo", defArgs s_Calendar_undo, defBody s_Calendar_undo, defScope s_Calendar_undo, [], []⟩
def D_number_of : He.DefD := ⟨("number_of", none), "number_of", "number_of", defArgs s_number_of, defBody s_number_of, defScope s_number_of, [], []⟩
def D_calendar_in : He.DefD := ⟨("calendar_in", none), "calendar_in", "calendar_in", defArgs s_calendar_in, defBody s_calendar_in, defScope s_calendar_in, [], []⟩
def D_read : He.DefD := ⟨("read", none), "read", "read", defArgs s_read, defBody s_read, defScope s_read, [], []⟩
def D_begin : He.DefD := ⟨("begin", none), "begin", "begin", defArgs s_begin, defBody s_begin, defScope s_begin, [], []⟩
def D_has_step : He.DefD := ⟨("has_step", none), "has_step", "has_step", defArgs s_has_step, defBody s_has_step, defScope s_has_step, [], []⟩
def D_person_hours : He.DefD := ⟨("person_hours", none), "person_hours", "person_hours", defArgs s_person_hours, defBody s_person_hours, defScope s_person_hours, [], []⟩
def D_tell_step : He.DefD := ⟨("tell_step", none), "tell_step", "tell_step", defArgs s_tell_step, defBody s_tell_step, defScope s_tell_step, [], []⟩
def D_stepped : He.DefD := ⟨("stepped", none), "stepped", "stepped", defArgs s_stepped, defBody s_stepped, defScope s_stepped, [], []⟩
def D_is_room_free : He.DefD := ⟨("is_room_free", none), "is_room_free", "is_room_free", defArgs s_is_room_free, defBody s_is_room_free, defScope s_is_room_free, [], []⟩
def D_meets_room : He.DefD := ⟨("meets_room", none), "meets_room", "meets_room", defArgs s_meets_room, defBody s_meets_room, defScope s_meets_room, [], []⟩
def D_is_person_free : He.DefD := ⟨("is_person_free", none), "is_person_free", "is_person_free", defArgs s_is_person_free, defBody s_is_person_free, defScope s_is_person_free, [], []⟩
def D_meets_person : He.DefD := ⟨("meets_person", none), "meets_person", "meets_person", defArgs s_meets_person, defBody s_meets_person, defScope s_meets_person, [], []⟩
def D_lost_single : He.DefD := ⟨("lost_single", none), "lost_single", "lost_single", defArgs s_lost_single, defBody s_lost_single, defScope s_lost_single, [], []⟩
def D_step_faults : He.DefD := ⟨("step_faults", none), "step_faults", "step_faults", defArgs s_step_faults, defBody s_step_faults, defScope s_step_faults, [], []⟩
def D_is_half : He.DefD := ⟨("is_half", none), "is_half", "is_half", defArgs s_is_half, defBody s_is_half, defScope s_is_half, [], []⟩
def D_led : He.DefD := ⟨("led", none), "led", "led", defArgs s_led, defBody s_led, defScope s_led, [], []⟩
def D_woven : He.DefD := ⟨("woven", none), "woven", "woven", defArgs s_woven, defBody s_woven, defScope s_woven, [], []⟩
def D_run : He.DefD := ⟨("run", none), "run", "run", defArgs s_run, defBody s_run, defScope s_run, [], []⟩
def D_law_call : He.DefD := ⟨("_law_call", none), "_law_call", "_law_call", defArgs s_law_call, defBody s_law_call, defScope s_law_call, [], []⟩
def D_law_kind : He.DefD := ⟨("_law_kind", none), "_law_kind", "_law_kind", defArgs s_law_kind, defBody s_law_kind, defScope s_law_kind, [], []⟩
def D_Calendar___init__ : He.DefD := ⟨("Calendar", some "__init__"), "__init__", "Calendar.__init__", defArgs s_Calendar___init__, defBody s_Calendar___init__, defScope s_Calendar___init__, [], []⟩
def D_law_calendar : He.DefD := ⟨("_law_calendar", none), "_law_calendar", "_law_calendar", defArgs s_law_calendar, defBody s_law_calendar, defScope s_law_calendar, [], []⟩
def D_law_under : He.DefD := ⟨("_law_under", none), "_law_under", "_law_under", defArgs s_law_under, defBody s_law_under, defScope s_law_under, [], []⟩
def D_law : He.DefD := ⟨("law", none), "law", "law", defArgs s_law, defBody s_law, defScope s_law, [], []⟩
def D_XBadLine : He.DefD := ⟨("BadLine", some "__init__"), "__init__", "BadLine.__init__", defArgs s_XBadLine, defBody s_XBadLine, defScope s_XBadLine, [], []⟩
def D_XBadRule : He.DefD := ⟨("BadRule", some "__init__"), "__init__", "BadRule.__init__", defArgs s_XBadRule, defBody s_XBadRule, defScope s_XBadRule, [], []⟩
def D_XBadWeaving : He.DefD := ⟨("BadWeaving", some "__init__"), "__init__", "BadWeaving.__init__", defArgs s_XBadWeaving, defBody s_XBadWeaving, defScope s_XBadWeaving, [], []⟩
def D_XRefused : He.DefD := ⟨("Refused", some "__init__"), "__init__", "Refused.__init__", defArgs s_XRefused, defBody s_XRefused, defScope s_XRefused, [], []⟩
def fn : List He.DefD := [D_law_begin, D_Rule___init__, D_law_rule, D_law_values, D_law_draw, D_law_parts, D_is_whole, D_Calendar_is_deed, D_Calendar_do, D_are_series, D_is_step, D_is_hand, D_is_world, D_check_world, D_check_faults, D_bars, D_mends, D_fresh, D_Calendar_count, D_Calendar_mark, D_Calendar_add, D_Calendar_undo, D_number_of, D_calendar_in, D_read, D_begin, D_has_step, D_person_hours, D_tell_step, D_stepped, D_is_room_free, D_meets_room, D_is_person_free, D_meets_person, D_lost_single, D_step_faults, D_is_half, D_led, D_woven, D_run, D_law_call, D_law_kind, D_Calendar___init__, D_law_calendar, D_law_under, D_law, D_XBadLine, D_XBadRule, D_XBadWeaving, D_XRefused]
def fa : List He.Fa := [.glo "_law_begin", .glo "_law_rule", .glo "_law_values", .glo "_law_draw", .glo "_law_parts", .glo "is_whole", .glo "are_series", .glo "is_step", .glo "is_hand", .glo "is_world", .glo "check_world", .glo "check_faults", .glo "bars", .glo "mends", .glo "fresh", .glo "number_of", .glo "calendar_in", .glo "read", .glo "begin", .glo "has_step", .glo "person_hours", .glo "tell_step", .glo "stepped", .glo "is_room_free", .glo "meets_room", .glo "is_person_free", .glo "meets_person", .glo "lost_single", .glo "step_faults", .glo "is_half", .glo "led", .glo "woven", .glo "run", .glo "_law_call", .glo "_law_kind", .glo "_law_calendar", .glo "_law_under", .glo "law", .free "all", .free "any", .free "bool", .free "enumerate", .free "int", .free "isinstance", .free "len", .free "list", .free "range", .free "str", .free "sum", .free "tuple", .free "zip", .glo "BLANK", .glo "FAULTS", .str "FIGURES" "0123456789", .glo "PARTS", .glo "VALUES", .glo "SIZES", .glo "BadDeed", .glo "BadFault", .glo "BadLine", .glo "BadRule", .glo "BadSeries", .glo "BadWeaving", .glo "BadWorld", .glo "Calendar", .glo "NothingDone", .glo "Refused", .glo "Rule", .glo "SeriesError", .cls "Calendar", .cls "Rule", .noat "Calendar" "before", .noat "Calendar" "days", .noat "Calendar" "done", .noat "Calendar" "hours", .noat "Calendar" "persons", .noat "Calendar" "rooms", .noat "Calendar" "rows", .noat "Calendar" "rule", .noat "Calendar" "seen", .noat "Rule" "checking", .noat "Rule" "halves", .noat "Rule" "singles", .noat "Rule" "telling", .noat "BadLine" "line", .noat "BadRule" "part", .noat "BadWeaving" "at", .noat "Refused" "deed", .exm "BadDeed" "BadDeed" true, .exm "BadFault" "BadFault" true, .exm "BadLine" "BadLine" true, .exm "BadRule" "BadRule" true, .exm "BadSeries" "BadSeries" true, .exm "BadWeaving" "BadWeaving" true, .exm "BadWorld" "BadWorld" true, .exm "NothingDone" "NothingDone" true, .exm "Refused" "Refused" true, .exm "SeriesError" "SeriesError" true, .exm "BadDeed" "BadRule" false, .exm "BadFault" "BadDeed" false, .exm "BadFault" "BadRule" false, .exm "BadLine" "BadDeed" false, .exm "BadLine" "BadFault" false, .exm "BadLine" "BadRule" false, .exm "BadLine" "BadSeries" false, .exm "BadLine" "NothingDone" false, .exm "BadSeries" "BadDeed" false, .exm "BadSeries" "BadFault" false, .exm "BadSeries" "BadRule" false, .exm "BadWeaving" "BadDeed" false, .exm "BadWeaving" "BadFault" false, .exm "BadWeaving" "BadLine" false, .exm "BadWeaving" "BadRule" false, .exm "BadWeaving" "BadSeries" false, .exm "BadWeaving" "BadWorld" false, .exm "BadWeaving" "NothingDone" false, .exm "BadWeaving" "Refused" false, .exm "BadWorld" "BadDeed" false, .exm "BadWorld" "BadFault" false, .exm "BadWorld" "BadLine" false, .exm "BadWorld" "BadRule" false, .exm "BadWorld" "BadSeries" false, .exm "BadWorld" "NothingDone" false, .exm "BadWorld" "Refused" false, .exm "NothingDone" "BadDeed" false, .exm "NothingDone" "BadFault" false, .exm "NothingDone" "BadRule" false, .exm "NothingDone" "BadSeries" false, .exm "Refused" "BadDeed" false, .exm "Refused" "BadFault" false, .exm "Refused" "BadLine" false, .exm "Refused" "BadRule" false, .exm "Refused" "BadSeries" false, .exm "Refused" "NothingDone" false, .exm "BadDeed" "SeriesError" true, .exm "BadFault" "SeriesError" true, .exm "BadLine" "SeriesError" true, .exm "BadRule" "SeriesError" true, .exm "BadSeries" "SeriesError" true, .exm "BadWeaving" "SeriesError" true, .exm "BadWorld" "SeriesError" true, .exm "NothingDone" "SeriesError" true, .exm "Refused" "SeriesError" true, .exc "BadDeed", .exc "BadFault", .exc "BadSeries", .exc "BadWorld", .exc "NothingDone", .exc "SeriesError", .meth "Calendar" "add", .meth "Calendar" "count", .meth "Calendar" "do", .meth "Calendar" "is_deed", .meth "Calendar" "mark", .meth "Calendar" "undo", .mkr "Calendar", .mkr "Rule"]
def exs : List (PySem.W.Frag → Bool) := [fun K => conB K d_BLANK (.ref (He.ga K "BLANK")), fun K => conB K d_FAULTS (.ref (He.ga K "FAULTS")), fun K => conB K d_PARTS (.ref (He.ga K "PARTS")), fun K => conB K d_VALUES (.ref (He.ga K "VALUES")), fun K => oexB K (He.ga K "BadLine"), fun K => xfB K (He.ga K "BadLine"), fun K => He.eqO (PySem.W.findIn K (.ref (He.ga K "BadLine")) "__init__") (some (some (.ref (He.ma K (He.ga K "BadLine") "__init__")))), fun K => decide (PySem.W.typeIn K (.ref (He.ma K (He.ga K "BadLine") "__init__")) = some (.type "function")), fun K => oexB K (He.ga K "BadRule"), fun K => xfB K (He.ga K "BadRule"), fun K => He.eqO (PySem.W.findIn K (.ref (He.ga K "BadRule")) "__init__") (some (some (.ref (He.ma K (He.ga K "BadRule") "__init__")))), fun K => decide (PySem.W.typeIn K (.ref (He.ma K (He.ga K "BadRule") "__init__")) = some (.type "function")), fun K => oexB K (He.ga K "BadWeaving"), fun K => xfB K (He.ga K "BadWeaving"), fun K => He.eqO (PySem.W.findIn K (.ref (He.ga K "BadWeaving")) "__init__") (some (some (.ref (He.ma K (He.ga K "BadWeaving") "__init__")))), fun K => decide (PySem.W.typeIn K (.ref (He.ma K (He.ga K "BadWeaving") "__init__")) = some (.type "function")), fun K => oexB K (He.ga K "Refused"), fun K => xfB K (He.ga K "Refused"), fun K => He.eqO (PySem.W.findIn K (.ref (He.ga K "Refused")) "__init__") (some (some (.ref (He.ma K (He.ga K "Refused") "__init__")))), fun K => decide (PySem.W.typeIn K (.ref (He.ma K (He.ga K "Refused") "__init__")) = some (.type "function")), fun K => tabB K "SIZES" tab_SIZES]
def ex (K : PySem.W.Frag) : Bool := exs.all fun f => f K
theorem ex_at {K : PySem.W.Frag} (h : ex K = true) (i : Nat) {f : PySem.W.Frag → Bool} (e : exs[i]? = some f := by rfl) : f K = true := List.all_eq_true.mp h f (List.mem_of_getElem? e)
abbrev R0 : PySem.W.OpenRow := PySem.W.OpenLaw.row PySem.Challenge.rw_seriesbooked_k15_errors_are_apart
def asL : List Addr := [3, 6, 4, 21, 31, 44, 56, 68, 80, 92, 111, 130, 149, 168, 171, 176, 212, 223, 230, 235, 242, 249, 256, 263, 268, 273, 280, 287, 294, 299, 300, 301, 308, 315, 320, 325, 330, 337, 342, 349, 356, 363, 370, 377, 382, 389, 394, 401, 406, 413, 420, 427, 432, 437, 444, 449, 454, 459, 464, 469, 474, 479, 484, 485, 646, 657, 662, 669, 674, 681, 688, 695, 702, 709, 716, 721, 728, 735, 742, 749, 756, 763, 0, 20, 30, 43, 55, 67, 79, 91, 110, 129, 148, 167, 172, 173, 174, 175, 211, 222, 229, 234, 241, 248, 255, 262, 267, 272, 279, 286, 293, 298, 307, 314, 319, 324, 329, 336, 341, 348, 355, 362, 369, 376, 381, 388, 393, 400, 405, 412, 419, 426, 431, 436, 443, 448, 453, 458, 463, 468, 473, 478, 483, 645, 656, 661, 668, 673, 680, 687, 694, 701, 708, 715, 720, 727, 734, 741, 748, 755, 762, 15, 16, 17, 18, 19, 29, 32, 42, 54, 66, 78, 90, 108, 109, 127, 128, 146, 147, 165, 166, 190, 197, 204, 209, 210, 213, 214, 217, 218, 219, 220, 221, 224, 225, 226, 227, 228, 231, 232, 233, 236, 237, 238, 239, 240, 243, 244, 245, 246, 247, 250, 251, 252, 253, 254, 257, 258, 259, 260, 261, 264, 265, 266, 269, 270, 271, 274, 275, 276, 277, 278, 281, 282, 283, 284, 285, 288, 289, 290, 291, 292, 295, 296, 297, 302, 303, 304, 305, 306, 309, 310, 311, 312, 313, 316, 317, 318, 321, 322, 323, 326, 327, 328, 331, 332, 333, 334, 335, 338, 339, 340, 343, 344, 345, 346, 347, 350, 351, 352, 353, 354, 357, 358, 359, 360, 361, 364, 365, 366, 367, 368, 371, 372, 373, 374, 375, 378, 379, 380, 383, 384, 385, 386, 387, 390, 391, 392, 395, 396, 397, 398, 399, 402, 403, 404, 407, 408, 409, 410, 411, 414, 415, 416, 417, 418, 421, 422, 423, 424, 425, 428, 429, 430, 433, 434, 435, 438, 439, 440, 441, 442, 445, 446, 447, 450, 451, 452, 455, 456, 457, 460, 461, 462, 465, 466, 467, 470, 471, 472, 475, 476, 477, 480, 481, 482, 499, 506, 513, 520, 525, 530, 537, 544, 551, 558, 565, 570, 575, 582, 589, 596, 603, 610, 617, 622, 629, 636, 643, 644, 647, 648, 651, 652, 653, 654, 655, 658, 659, 660, 663, 664, 665, 666, 667, 670, 671, 672, 675, 676, 677, 678, 679, 682, 683, 684, 685, 686, 689, 690, 691, 692, 693, 696, 697, 698, 699, 700, 703, 704, 705, 706, 707, 710, 711, 712, 713, 714, 717, 718, 719, 722, 723, 724, 725, 726, 729, 730, 731, 732, 733, 736, 737, 738, 739, 740, 743, 744, 745, 746, 747, 750, 751, 752, 753, 754, 757, 758, 759, 760, 761, 107, 126, 145, 164, 189, 196, 203, 208, 498, 505, 512, 519, 524, 529, 536, 543, 550, 557, 564, 569, 574, 581, 588, 595, 602, 609, 616, 621, 628, 635, 642, 102, 103, 104, 105, 106, 121, 122, 123, 124, 125, 140, 141, 142, 143, 144, 159, 160, 161, 162, 163, 184, 185, 186, 187, 188, 191, 192, 193, 194, 195, 198, 199, 200, 201, 202, 205, 206, 207, 493, 494, 495, 496, 497, 500, 501, 502, 503, 504, 507, 508, 509, 510, 511, 514, 515, 516, 517, 518, 521, 522, 523, 526, 527, 528, 531, 532, 533, 534, 535, 538, 539, 540, 541, 542, 545, 546, 547, 548, 549, 552, 553, 554, 555, 556, 559, 560, 561, 562, 563, 566, 567, 568, 571, 572, 573, 576, 577, 578, 579, 580, 583, 584, 585, 586, 587, 590, 591, 592, 593, 594, 597, 598, 599, 600, 601, 604, 605, 606, 607, 608, 611, 612, 613, 614, 615, 618, 619, 620, 623, 624, 625, 626, 627, 630, 631, 632, 633, 634, 637, 638, 639, 640, 641]
/-- the hook's view of the state, over told addresses -/
def obsA (as : List Addr) (fa : List He.Fa) (fn : List He.DefD) (ts : List He.Tab) (ex : PySem.W.Frag → Bool) (g : Addr → Option Obj) : He.AlT × Bool :=
  (He.obsT fa fn ts (He.frT g as), ex (He.frT g as))
def hookA (as : List Addr) (fa : List He.Fa) (fn : List He.DefD) (ts : List He.Tab) (ex : PySem.W.Frag → Bool) : PySem.W.Hook where
  α := He.AlT × Bool
  obs := fun s => obsA as fa fn ts ex s.heap.get?
  val := fun w => (He.valT fn ts w, true)
  says := fun w h => ∃ K : PySem.W.Frag, K.In h ∧ (He.SaysT fa fn ts w K ∧ ex K = true)
  of := fun _ _ e => ⟨_, He.frT_in, congrArg Prod.fst e, congrArg Prod.snd e⟩
  keeps := fun _ _ _ z k => z.elim fun K c => ⟨K, PySem.W.Frag.In.keeps c.1 k, c.2⟩
abbrev hk : PySem.W.Hook := hookA asL fa fn [((fun K => He.ga K "SIZES"), ["room", "person", "one", "off"])] ex
def ob (s : PySem.W.SharedT) : He.AlT × Bool := obsA asL fa fn [((fun K => He.ga K "SIZES"), ["room", "person", "one", "off"])] ex (HandSHeadRun.getT s)
theorem ob_eq (s : PySem.W.SharedT) : ob s = hk.obs s.abs := by
  have e : HandSHeadRun.getT s = s.abs.heap.get? := funext (HandSHeadRun.getT_eq s)
  unfold ob
  rw [e]
  rfl
def ns0 : List PySem.Str := ["_wall", "SeriesError", "BadWorld", "BadFault", "BadSeries", "BadDeed", "NothingDone", "BadRule", "BadWeaving", "Refused", "BadLine", "PARTS", "VALUES", "Rule", "rule_of", "fresh", "is_room_free", "is_person_free", "is_gap", "with_series"]
def ns1 : List PySem.Str := ["room_day", "room_set", "person_set", "taken_back", "one_set", "off_set", "person_hours", "FAULTS", "BLANK", "is_whole", "is_step", "is_hand", "are_series", "is_world", "check_world", "begin", "find_step", "tell_step", "room_step", "person_step"]
def ns2 : List PySem.Str := ["stepped", "meets_room", "meets_person", "lost_single", "step_faults", "is_half", "led", "has_step", "woven", "run", "hands_at", "walked", "check_faults", "picks", "all_joints", "is_without", "bars", "turnings", "with_turns", "mends"]
def ns3 : List PySem.Str := ["SIZES", "Calendar", "led_on", "FIGURES", "number_of", "calendar_in", "deed_in", "is_done", "read", "_law_begin", "_law_draw", "_law_values", "_law_names", "_law_parts", "_law_rule", "_law_call", "_law_kind", "_law_under", "_law_calendar"]
def nms : List PySem.Str := ns0 ++ ns1 ++ ns2 ++ ns3
theorem run_f (w : PySem.World) : HandSHeadRun.RunEq R0 (PySem.W.view R0.prog [88]) hk ob 6000 nms (w.withFollow "special-get-raises" false) := by
  intro os
  kernel_rfl
theorem run_t (w : PySem.World) : HandSHeadRun.RunEq R0 (PySem.W.view R0.prog [88]) hk ob 6000 nms (w.withFollow "special-get-raises" true) := by
  intro os
  kernel_rfl
theorem run0 (w : PySem.World) : HandSHeadRun.RunEq R0 (PySem.W.view R0.prog [88]) hk ob 6000 nms w := by
  exact PySem.W.byRow2 "special-get-raises" run_f run_t w
set_option maxHeartbeats 2000000
end Lw
namespace Mi
open PySem PySem.Spec PyProof.Rows L2
/-- what stands in the store -/
inductive MO where
  | lst (xs : List MV)
  | dct (ks : List Key) (vs : List MV)
  | dcT (ks : List MV) (vs : List MV)
  | obj (c : Str) (fs : List Str) (vs : List MV)
  deriving Inhabited
abbrev Sto := List MO
abbrev Ev := List (Option MV)
mutual
def MV.beq : MV → MV → Bool
  | .non, .non => true
  | .bl a, .bl b => a == b
  | .int a, .int b => decide (a = b)
  | .str a, .str b => decide (a = b)
  | .tup a, .tup b => MV.beqs a b
  | .lst a, .lst b => MV.beqs a b
  | .dct ka a, .dct kb b => decide (ka = kb) && MV.beqs a b
  | .dcT ka a, .dcT kb b => MV.beqs ka kb && MV.beqs a b
  | .obj c f a, .obj c' f' b => decide (c = c') && (decide (f = f') && MV.beqs a b)
  | .ref a, .ref b => decide (a = b)
  | .kls a, .kls b => MV.beqs a b
  | _, _ => false
def MV.beqs : List MV → List MV → Bool
  | [], [] => true
  | a :: as, b :: bs => MV.beq a b && MV.beqs as bs
  | _, _ => false
end
mutual
theorem MV.beq_ok : ∀ a b : MV, MV.beq a b = true ↔ a = b
  | .non, b => by cases b <;> simp [MV.beq]
  | .bl a, b => by cases b <;> simp [MV.beq]
  | .int a, b => by cases b <;> simp [MV.beq]
  | .str a, b => by cases b <;> simp [MV.beq]
  | .tup a, b => by cases b <;> simp [MV.beq, MV.beqs_ok a]
  | .lst a, b => by cases b <;> simp [MV.beq, MV.beqs_ok a]
  | .dct ka a, b => by cases b <;> simp [MV.beq, MV.beqs_ok a]
  | .dcT ka a, b => by cases b <;> simp [MV.beq, MV.beqs_ok a, MV.beqs_ok ka]
  | .obj c f a, b => by cases b <;> simp [MV.beq, MV.beqs_ok a]
  | .ref a, b => by cases b <;> simp [MV.beq]
  | .kls a, b => by cases b <;> simp [MV.beq, MV.beqs_ok a]
theorem MV.beqs_ok : ∀ a b : List MV, MV.beqs a b = true ↔ a = b
  | [], b => by cases b <;> simp [MV.beqs]
  | a :: as, b => by
    cases b with
    | nil => simp [MV.beqs]
    | cons b bs => simp [MV.beqs, MV.beq_ok a b, MV.beqs_ok as bs]
end
instance : DecidableEq MV := fun a b => decidable_of_iff _ (MV.beq_ok a b)
def MO.beq : MO → MO → Bool
  | .lst a, .lst b => MV.beqs a b
  | .dct ka a, .dct kb b => decide (ka = kb) && MV.beqs a b
  | .dcT ka a, .dcT kb b => MV.beqs ka kb && MV.beqs a b
  | .obj c f a, .obj c' f' b => decide (c = c') && (decide (f = f') && MV.beqs a b)
  | _, _ => false
theorem MO.beq_ok (a b : MO) : MO.beq a b = true ↔ a = b := by
  cases a <;> cases b <;> simp [MO.beq, MV.beqs_ok]
instance : DecidableEq MO := fun a b => decidable_of_iff _ (MO.beq_ok a b)
mutual
def canon : MV → MV
  | .bl b => .int (if b then 1 else 0)
  | .tup xs => .tup (canons xs)
  | x => x
def canons : List MV → List MV
  | [] => []
  | x :: xs => canon x :: canons xs
end
theorem canons_map : ∀ xs : List MV, canons xs = xs.map canon
  | [] => rfl
  | x :: xs => by rw [canons, canons_map xs]; rfl
mutual
def keyOk : MV → Bool
  | .non | .bl _ | .int _ | .str _ => true
  | .tup xs => keyOks xs
  | _ => false
def keyOks : List MV → Bool
  | [] => true
  | x :: xs => keyOk x && keyOks xs
end
mutual
def kdep : MV → Nat
  | .tup xs => kdeps xs + 1
  | _ => 0
def kdeps : List MV → Nat
  | [] => 0
  | x :: xs => max (kdep x) (kdeps xs)
end
/-- keys of a dict: plain data, not too deep -/
def keyTs (ks : List MV) : Bool := keyOks ks && decide (kdeps ks ≤ 8)
/-- where data is read: the program, the world, the written part, the abstract heap, the addresses of the store -/
structure RC where
  w : World
  K : PySem.W.Frag
  H : Hp
  ι : List Addr
  bad : List Addr := []
/-- not to be written -/
def Froz (C : RC) (a : Addr) : Prop := a ∉ C.ι ∧ a ∉ C.bad
mutual
def hashK (w : World) : MV → Int
  | .non => 0xfca86420
  | .int i => hashInt i
  | .bl b => hashInt (if b then 1 else 0)
  | .str x => hashStr w x
  | .tup xs => reduceHash (Builtin.Tuple.tupleHashOf (hashKs w xs))
  | _ => 0
def hashKs (w : World) : List MV → List Int
  | [] => []
  | x :: xs => hashK w x :: hashKs w xs
end
/-- the entries of a dict whose keys are tuples -/
def entsOf (w : World) : List MV → List Addr → List Value → List DictEntry
  | k :: ks, p :: ps, u :: us => ⟨hashK w k, .ref p, u⟩ :: entsOf w ks ps us
  | _, _, _ => []
/-- a list of the written part -/
def KList (K : PySem.W.Frag) (a : Addr) (xs : List V) : Prop :=
  SqL K (fun _ => none) a xs
theorem KList.sq {K : PySem.W.Frag} {a : Addr} {xs : List V} (h : KList K a xs) (H : Hp) : SqL K H a xs := by
  rcases h with (k | ⟨ob, k⟩) | k
  · cases k
  · cases k
  · exact .inr k
theorem KList.of {K : PySem.W.Frag} {a : Addr} {xs : List V} {o : Obj} {its : Array Value} {n : Nat} (q : K.lookup a = some o) (c : o.cls = .type "list") (nd : o.dict = none) (dt : o.data = .seq its n) (z : its.size ≤ sizeLine) (rv : Vals xs its.toList) : KList K a xs :=
  .inr ⟨o, its, n, q, c, nd, dt, z, rv⟩
mutual
def RepV (C : RC) : MV → V → Prop
  | .non, v => v = .non
  | .bl b, v => v = .bl b
  | .int i, v => v = .int i
  | .str x, v => v = .str x
  | .tup xs, v => ∃ a vs, v = .ref a ∧ SqT C.K C.H a vs ∧ RepVs C xs vs
  | .lst xs, v => ∃ a vs, v = .ref a ∧ Froz C a ∧ C.H a = some (.lst vs) ∧ RepVs C xs vs
  | .dct ks ds, v => ∃ a vs, v = .ref a ∧ Froz C a ∧ Rd C.H a (.dK (ks.zip vs)) ∧ ks.length = vs.length ∧ ks.Nodup ∧ RepVs C ds vs
  | .dcT ks ds, v => ∃ a, v = .ref a ∧ Froz C a ∧ (a == sysModules) = false ∧ keyTs ks = true ∧ ((canons ks).Nodup) ∧ ks.length = ds.length ∧ ks.length ≤ sizeLine ∧
      ∃ (ob : Obj) (es : Array DictEntry) (ep : Nat) (ps : List Addr) (us : List Value) (kvs vs : List V),
        C.H a = some (.ext fun h => h.get? a = some ob) ∧ ob.ExactDict ∧ ob.data = .dict es ep ∧ es.toList = entsOf C.w ks ps us ∧ kvs = ps.map V.ref ∧ RepVs C ks kvs ∧ Vals vs us ∧ RepVs C ds vs
  | .obj c fs ds, v => ∃ a dx vs, v = .ref a ∧ Froz C a ∧ C.H a = some (.ins (He.ga C.K c) dx (fs.zip vs)) ∧ fs.length = vs.length ∧ RepVs C ds vs
  | .ref n, v => ∃ a, v = .ref a ∧ C.ι[n]? = some a
  | .kls xs, v => ∃ a vs, v = .ref a ∧ ((∃ o, C.H a = some (.frz o (.lst vs))) ∨ KList C.K a vs) ∧ RepVs C xs vs
def RepVs (C : RC) : List MV → List V → Prop
  | [], [] => True
  | d :: ds, v :: vs => RepV C d v ∧ RepVs C ds vs
  | _, _ => False
end
/-- an object of the store at its address -/
def RepO (C : RC) (a : Addr) : MO → Prop
  | .lst xs => ∃ vs, C.H a = some (.lst vs) ∧ RepVs C xs vs
  | .dct ks ds => ∃ vs, C.H a = some (.dK (ks.zip vs)) ∧ ks.length = vs.length ∧ ks.Nodup ∧ RepVs C ds vs
  | .dcT ks ds => (a == sysModules) = false ∧ keyTs ks = true ∧ ((canons ks).Nodup) ∧ ks.length = ds.length ∧ ks.length ≤ sizeLine ∧
      ∃ (ob : Obj) (es : Array DictEntry) (ep : Nat) (ps : List Addr) (us : List Value) (kvs vs : List V),
        C.H a = some (.ext fun h => h.get? a = some ob) ∧ ob.ExactDict ∧ ob.data = .dict es ep ∧ es.toList = entsOf C.w ks ps us ∧ kvs = ps.map V.ref ∧ RepVs C ks kvs ∧ Vals vs us ∧ RepVs C ds vs
  | .obj c fs ds => ∃ dx vs, C.H a = some (.ins (He.ga C.K c) dx (fs.zip vs)) ∧ fs.length = vs.length ∧ RepVs C ds vs
structure RepS (C : RC) (S : Sto) : Prop where
  len : C.ι.length = S.length
  nd : C.ι.Nodup
  bad : ∀ a ∈ C.bad, a ∉ C.ι ∧ C.H a ≠ none
  ob : ∀ (n : Nat) (o : MO) (a : Addr), S[n]? = some o → C.ι[n]? = some a → RepO C a o
theorem RepVs.length {C : RC} : ∀ {ds : List MV} {vs : List V}, RepVs C ds vs → ds.length = vs.length
  | [], [], _ => rfl
  | [], _ :: _, h => by simp [RepVs] at h
  | _ :: _, [], h => by simp [RepVs] at h
  | d :: ds, v :: vs, h => by
    rw [RepVs] at h
    simp [RepVs.length h.2]
theorem RepVs.get {C : RC} : ∀ {ds : List MV} {vs : List V} {i : Nat} {d : MV}, RepVs C ds vs → ds[i]? = some d → ∃ v, vs[i]? = some v ∧ RepV C d v
  | [], _, _, _, _, e => by simp at e
  | _ :: _, [], _, _, h, _ => by simp [RepVs] at h
  | d :: ds, v :: vs, 0, x, h, e => by
    rw [RepVs] at h
    simp at e; subst e
    exact ⟨v, rfl, h.1⟩
  | d :: ds, v :: vs, i + 1, x, h, e => by
    rw [RepVs] at h
    obtain ⟨w, k1, k2⟩ := RepVs.get (i := i) h.2 (by simpa using e)
    exact ⟨w, by simpa using k1, k2⟩
theorem RepVs.get' {C : RC} : ∀ {ds : List MV} {vs : List V} {i : Nat} {v : V}, RepVs C ds vs → vs[i]? = some v → ∃ d, ds[i]? = some d ∧ RepV C d v
  | [], [], _, _, _, e => by simp at e
  | [], _ :: _, _, _, h, _ => by simp [RepVs] at h
  | _ :: _, [], _, _, h, _ => by simp [RepVs] at h
  | d :: ds, v :: vs, 0, x, h, e => by
    rw [RepVs] at h
    simp at e; subst e
    exact ⟨d, rfl, h.1⟩
  | d :: ds, v :: vs, i + 1, x, h, e => by
    rw [RepVs] at h
    obtain ⟨w, k1, k2⟩ := RepVs.get' (i := i) h.2 (by simpa using e)
    exact ⟨w, by simpa using k1, k2⟩
theorem RepVs.cons {C : RC} {d : MV} {ds : List MV} {v : V} {vs : List V} (h : RepV C d v) (t : RepVs C ds vs) : RepVs C (d :: ds) (v :: vs) := by
  rw [RepVs]; exact ⟨h, t⟩
theorem RepVs.nil {C : RC} : RepVs C [] [] := by rw [RepVs]; trivial
theorem RepVs.cons_inv {C : RC} {d : MV} {ds : List MV} {vs : List V} (h : RepVs C (d :: ds) vs) : ∃ v vr, vs = v :: vr ∧ RepV C d v ∧ RepVs C ds vr := by
  cases vs with
  | nil => simp [RepVs] at h
  | cons v vr => rw [RepVs] at h; exact ⟨v, vr, rfl, h.1, h.2⟩
theorem RepVs.nil_inv {C : RC} {vs : List V} (h : RepVs C [] vs) : vs = [] := by
  cases vs with
  | nil => rfl
  | cons v vr => simp [RepVs] at h
theorem RepVs.append {C : RC} : ∀ {ds es : List MV} {vs us : List V}, RepVs C ds vs → RepVs C es us → RepVs C (ds ++ es) (vs ++ us)
  | [], _, vs, _, h, t => by rw [h.nil_inv]; exact t
  | d :: ds, _, vs, _, h, t => by
    obtain ⟨v, vr, rfl, h1, h2⟩ := h.cons_inv
    exact .cons h1 (RepVs.append h2 t)
theorem RepVs.take {C : RC} : ∀ {ds : List MV} {vs : List V} (n : Nat), RepVs C ds vs → RepVs C (ds.take n) (vs.take n)
  | _, _, 0, _ => by simp; exact .nil
  | [], vs, n + 1, h => by rw [h.nil_inv]; simpa using RepVs.nil
  | d :: ds, vs, n + 1, h => by
    obtain ⟨v, vr, rfl, h1, h2⟩ := h.cons_inv
    exact .cons h1 (RepVs.take n h2)
theorem RepVs.drop {C : RC} : ∀ {ds : List MV} {vs : List V} (n : Nat), RepVs C ds vs → RepVs C (ds.drop n) (vs.drop n)
  | _, _, 0, h => h
  | [], vs, n + 1, h => by rw [h.nil_inv]; simpa using RepVs.nil
  | d :: ds, vs, n + 1, h => by
    obtain ⟨v, vr, rfl, h1, h2⟩ := h.cons_inv
    exact RepVs.drop n h2
theorem RepVs.set {C : RC} {d : MV} {v : V} (r : RepV C d v) : ∀ {ds : List MV} {vs : List V} (i : Nat), RepVs C ds vs → RepVs C (ds.set i d) (vs.set i v)
  | [], vs, _, h => by rw [h.nil_inv]; simpa using RepVs.nil
  | x :: ds, vs, 0, h => by
    obtain ⟨u, vr, rfl, h1, h2⟩ := h.cons_inv
    exact .cons r h2
  | x :: ds, vs, i + 1, h => by
    obtain ⟨u, vr, rfl, h1, h2⟩ := h.cons_inv
    exact .cons h1 (RepVs.set r i h2)
theorem RepVs.flatRep {C : RC} {ds : List MV} {vs : List V} (h : RepVs C ds vs) : ∀ n : Nat, RepVs C ((List.replicate n ds).flatten) ((List.replicate n vs).flatten)
  | 0 => by simpa using RepVs.nil
  | n + 1 => by
    simp only [List.replicate_succ, List.flatten_cons]
    exact h.append (h.flatRep n)
/-- what stands at a later: the same, or a dict that is told to be read only from then on -/
def Kp (C C' : RC) (a : Addr) (o : HO) : Prop := C'.H a = some o ∨ a ∉ C.bad ∧ (∃ kvs, o = .dK kvs) ∧ ∃ ob, C'.H a = some (.frz ob o)
theorem Kp.isIt {C C' : RC} {a : Addr} {o : HO} (k : Kp C C' a o) : ∃ u, C'.H a = some u := by
  rcases k with k | ⟨_, _, ob, k⟩
  · exact ⟨_, k⟩
  · exact ⟨_, k⟩
theorem Kp.nix {C C' : RC} {a : Addr} {o : HO} (k : Kp C C' a o) : ¬ C'.H a = none := fun z => by
  obtain ⟨u, e⟩ := k.isIt
  rw [e] at z; cases z
theorem Kp.exact {C C' : RC} {a : Addr} {o : HO} (k : Kp C C' a o) (h : (∀ kvs, o ≠ .dK kvs) ∨ a ∈ C.bad) : C'.H a = some o := by
  rcases k with k | ⟨nb, ⟨kvs, e⟩, _⟩
  · exact k
  · rcases h with h | h
    · exact absurd e (h kvs)
    · exact absurd h nb
/-- from one state to a later one: b the least length of the store in between -/
structure Ext (b : Nat) (C C' : RC) : Prop where
  w : C'.w = C.w
  K : C'.K = C.K
  bad : ∀ a ∈ C'.bad, a ∈ C.bad ∨ a ∈ C.ι ∨ C.H a = none
  bad' : ∀ a ∈ C.bad, a ∈ C'.bad
  kp : ∀ a o, a ∉ C.ι → C.H a = some o → Kp C C' a o
  new : ∀ a ∈ C'.ι, a ∈ C.ι ∨ C.H a = none
  pre : C'.ι.take b = C.ι.take b
  le : b ≤ C.ι.length
  le' : b ≤ C'.ι.length
theorem Ext.refl {b : Nat} {C : RC} (h : b ≤ C.ι.length) : Ext b C C := ⟨rfl, rfl, fun _ h => .inl h, fun _ h => h, fun _ _ _ h => .inl h, fun _ h => .inl h, rfl, h, h⟩
theorem Ext.trans {b : Nat} {C C1 C2 : RC} (x : Ext b C C1) (y : Ext b C1 C2) : Ext b C C2 where
  w := y.w.trans x.w
  K := y.K.trans x.K
  bad := fun a m => by
    rcases y.bad a m with q | q | q
    · exact x.bad a q
    · rcases x.new a q with z | z
      · exact .inr (.inl z)
      · exact .inr (.inr z)
    · by_cases ha : a ∈ C.ι
      · exact .inr (.inl ha)
      · cases e : C.H a with
        | none => exact .inr (.inr rfl)
        | some o => exact absurd q (x.kp a o ha e).nix
  bad' := fun a m => y.bad' a (x.bad' a m)
  kp := fun a o na h => by
    have n1 : a ∉ C1.ι := fun m => by
      rcases x.new a m with q | q
      · exact na q
      · rw [h] at q; cases q
    rcases x.kp a o na h with k | ⟨nb, ⟨kvs, e⟩, ob, k⟩
    · rcases y.kp a o n1 k with j | ⟨nb, e, j⟩
      · exact .inl j
      · exact .inr ⟨fun m => nb (x.bad' a m), e, j⟩
    · exact .inr ⟨nb, ⟨kvs, e⟩, ob, (y.kp a _ n1 k).exact (.inl fun _ z => by cases z)⟩
  new := fun a m => by
    rcases y.new a m with q | q
    · exact x.new a q
    · by_cases ha : a ∈ C.ι
      · exact .inl ha
      · cases e : C.H a with
        | none => exact .inr rfl
        | some o => exact absurd q (x.kp a o ha e).nix
  pre := y.pre.trans x.pre
  le := x.le
  le' := y.le'
theorem Ext.weak {b b' : Nat} {C C' : RC} (x : Ext b C C') (h : b' ≤ b) : Ext b' C C' where
  w := x.w
  K := x.K
  bad := x.bad
  bad' := x.bad'
  kp := x.kp
  new := x.new
  pre := by
    have e := congrArg (List.take b') x.pre
    rw [List.take_take, List.take_take, Nat.min_eq_left h] at e
    exact e
  le := Nat.le_trans h x.le
  le' := Nat.le_trans h x.le'
/-- an address of the store carries no tuple and is not locked -/
theorem RepO.kind {C : RC} {a : Addr} {o : MO} (r : RepO C a o) : ∃ u, C.H a = some u ∧ (∀ xs, u ≠ .tup xs) ∧ (∀ ob x, u ≠ .frz ob x) ∧ (∀ y, u ≠ .own y) ∧ ∀ fs, u ≠ .xd fs := by
  cases o with
  | lst xs => obtain ⟨vs, h, _⟩ := r; exact ⟨_, h, by simp, by simp, by simp, by simp⟩
  | dct ks ds => obtain ⟨vs, h, _⟩ := r; exact ⟨_, h, by simp, by simp, by simp, by simp⟩
  | dcT ks ds => obtain ⟨_, _, _, _, _, ob, es, ep, ps, us, kvs, vs, h, _⟩ := r; exact ⟨_, h, by simp, by simp, by simp, by simp⟩
  | obj c fs ds => obtain ⟨dx, vs, h, _⟩ := r; exact ⟨_, h, by simp, by simp, by simp, by simp⟩
theorem RepS.kind {C : RC} {S : Sto} (r : RepS C S) {a : Addr} (h : a ∈ C.ι) : ∃ u, C.H a = some u ∧ (∀ xs, u ≠ .tup xs) ∧ (∀ ob x, u ≠ .frz ob x) ∧ (∀ y, u ≠ .own y) ∧ ∀ fs, u ≠ .xd fs := by
  obtain ⟨n, hn⟩ := List.mem_iff_getElem?.mp h
  have hl : n < S.length := by rw [← r.len]; exact (List.getElem?_eq_some_iff.mp hn).1
  exact (r.ob n S[n] a (List.getElem?_eq_getElem hl) hn).kind
mutual
def refsB (b : Nat) : MV → Bool
  | .ref n => decide (n < b)
  | .tup xs => refsBs b xs
  | .lst xs => refsBs b xs
  | .dct _ vs => refsBs b vs
  | .dcT ks vs => refsBs b ks && refsBs b vs
  | .obj _ _ vs => refsBs b vs
  | .kls vs => refsBs b vs
  | _ => true
def refsBs (b : Nat) : List MV → Bool
  | [] => true
  | x :: xs => refsB b x && refsBs b xs
end
theorem Ext.seqT {b : Nat} {C C' : RC} {S : Sto} (x : Ext b C C') (r : RepS C S) {a : Addr} {vs : List V} (h : SqT C.K C.H a vs) : SqT C'.K C'.H a vs := by
  rw [x.K]
  have na : ∀ {u}, C.H a = some u → ((∃ xs, u = .tup xs) ∨ ∃ ob y, u = .frz ob y) → a ∉ C.ι := fun {u} e k m => by
    obtain ⟨u', e', k1, k2, _⟩ := r.kind m
    rw [e] at e'; cases e'
    rcases k with ⟨xs, k⟩ | ⟨ob, y, k⟩
    · exact k1 _ k
    · exact k2 _ _ k
  rcases h with (k | ⟨ob, k⟩) | k
  · exact .inl (.inl ((x.kp _ _ (na k (.inl ⟨_, rfl⟩)) k).exact (.inl fun _ z => by cases z)))
  · exact .inl (.inr ⟨ob, (x.kp _ _ (na k (.inr ⟨_, _, rfl⟩)) k).exact (.inl fun _ z => by cases z)⟩)
  · exact .inr k
theorem Ext.out {b : Nat} {C C' : RC} (x : Ext b C C') {a : Addr} {u : HO} (n : Froz C a) (h : C.H a = some u) : Froz C' a := by
  refine ⟨fun m => ?_, fun m => ?_⟩
  rotate_left
  · rcases x.bad a m with q | q | q
    · exact n.2 q
    · exact n.1 q
    · rw [h] at q; cases q
  rcases x.new a m with q | q
  · exact n.1 q
  · rw [h] at q; cases q
theorem Ext.ref {b : Nat} {C C' : RC} (x : Ext b C C') {n : Nat} {a : Addr} (hn : n < b) (h : C.ι[n]? = some a) : C'.ι[n]? = some a := by
  have e := congrArg (fun l => l[n]?) x.pre
  simp only [List.getElem?_take_of_lt hn] at e
  rw [e]; exact h
/-- what data needs to stay -/
structure Tr (b : Nat) (C C' : RC) : Prop where
  w : C'.w = C.w
  K : C'.K = C.K
  seqT : ∀ a vs, SqT C.K C.H a vs → SqT C'.K C'.H a vs
  froz : ∀ a u, Froz C a → C.H a = some u → Froz C' a ∧ Kp C C' a u
  frz : ∀ a o u, C.H a = some (.frz o u) → C'.H a = some (.frz o u)
  ref : ∀ n a, n < b → C.ι[n]? = some a → C'.ι[n]? = some a
theorem Ext.tr {b : Nat} {C C' : RC} {S : Sto} (x : Ext b C C') (r : RepS C S) : Tr b C C' where
  w := x.w
  K := x.K
  seqT := fun a vs h => x.seqT r h
  froz := fun a u n h => ⟨x.out n h, x.kp _ _ n.1 h⟩
  frz := fun a o u q => (x.kp _ _ (fun m => by
    obtain ⟨u', e', _, k2, _⟩ := r.kind m
    rw [q] at e'; cases e'
    exact k2 _ _ rfl) q).exact (.inl fun _ z => by cases z)
  ref := fun n a hn h => x.ref hn h
mutual
theorem RepV.tr {b : Nat} {C C' : RC} (x : Tr b C C') : ∀ (d : MV) (v : V), refsB b d = true → RepV C d v → RepV C' d v
  | .non, v, _, h => by rw [RepV] at h ⊢; exact h
  | .bl _, v, _, h => by rw [RepV] at h ⊢; exact h
  | .int _, v, _, h => by rw [RepV] at h ⊢; exact h
  | .str _, v, _, h => by rw [RepV] at h ⊢; exact h
  | .tup xs, v, hb, h => by
    rw [RepV] at h ⊢
    obtain ⟨a, vs, e, q, t⟩ := h
    exact ⟨a, vs, e, x.seqT _ _ q, RepVs.tr x xs vs (by simpa [refsB] using hb) t⟩
  | .lst xs, v, hb, h => by
    rw [RepV] at h ⊢
    obtain ⟨a, vs, e, n, q, t⟩ := h
    exact ⟨a, vs, e, (x.froz _ _ n q).1, (x.froz _ _ n q).2.exact (.inl fun _ z => by cases z), RepVs.tr x xs vs (by simpa [refsB] using hb) t⟩
  | .kls xs, v, hb, h => by
    rw [RepV] at h ⊢
    obtain ⟨a, vs, e, q, t⟩ := h
    refine ⟨a, vs, e, ?_, RepVs.tr x xs vs (by simpa [refsB] using hb) t⟩
    rcases q with ⟨o, q⟩ | q
    · exact .inl ⟨o, x.frz _ _ _ q⟩
    · exact .inr (by rw [x.K]; exact q)
  | .dct ks ds, v, hb, h => by
    rw [RepV] at h ⊢
    obtain ⟨a, vs, e, n, q, l, nd, t⟩ := h
    have t' := RepVs.tr x ds vs (by simpa [refsB] using hb) t
    rcases q with q | ⟨o, q⟩
    · rcases (x.froz _ _ n q).2 with k | ⟨_, _, ob, k⟩
      · exact ⟨a, vs, e, (x.froz _ _ n q).1, .inl k, l, nd, t'⟩
      · exact ⟨a, vs, e, (x.froz _ _ n q).1, .inr ⟨ob, k⟩, l, nd, t'⟩
    · exact ⟨a, vs, e, (x.froz _ _ n q).1, .inr ⟨o, (x.froz _ _ n q).2.exact (.inl fun _ z => by cases z)⟩, l, nd, t'⟩
  | .dcT ks ds, v, hb, h => by
    rw [RepV] at h ⊢
    obtain ⟨a, e, n, sm, ko, nd, l, z, ob, es, ep, ps, us, kvs, vs, q, ex, hd, he, hk, tk, rv, t⟩ := h
    have hb' : refsBs b ks = true ∧ refsBs b ds = true := by simpa [refsB] using hb
    refine ⟨a, e, (x.froz _ _ n q).1, sm, ko, nd, l, z, ob, es, ep, ps, us, kvs, vs, (x.froz _ _ n q).2.exact (.inl fun _ z => by cases z), ex, hd, ?_, hk, RepVs.tr x ks kvs hb'.1 tk, rv, RepVs.tr x ds vs hb'.2 t⟩
    rw [x.w]; exact he
  | .obj c fs ds, v, hb, h => by
    rw [RepV] at h ⊢
    obtain ⟨a, dx, vs, e, n, q, l, t⟩ := h
    refine ⟨a, dx, vs, e, (x.froz _ _ n q).1, ?_, l, RepVs.tr x ds vs (by simpa [refsB] using hb) t⟩
    rw [x.K]; exact (x.froz _ _ n q).2.exact (.inl fun _ z => by cases z)
  | .ref n, v, hb, h => by
    rw [RepV] at h ⊢
    obtain ⟨a, e, q⟩ := h
    exact ⟨a, e, x.ref _ _ (by simpa [refsB] using hb) q⟩
theorem RepVs.tr {b : Nat} {C C' : RC} (x : Tr b C C') : ∀ (ds : List MV) (vs : List V), refsBs b ds = true → RepVs C ds vs → RepVs C' ds vs
  | [], vs, _, h => by rw [h.nil_inv]; exact .nil
  | d :: ds, vs, hb, h => by
    obtain ⟨v, vr, rfl, h1, h2⟩ := h.cons_inv
    have hb' : refsB b d = true ∧ refsBs b ds = true := by simpa [refsBs] using hb
    exact .cons (RepV.tr x d v hb'.1 h1) (RepVs.tr x ds vr hb'.2 h2)
end
theorem RepV.ext {b : Nat} {C C' : RC} {S : Sto} (x : Ext b C C') (r : RepS C S) (d : MV) (v : V) (hb : refsB b d = true) (h : RepV C d v) : RepV C' d v := RepV.tr (x.tr r) d v hb h
theorem RepVs.ext {b : Nat} {C C' : RC} {S : Sto} (x : Ext b C C') (r : RepS C S) (d : List MV) (v : List V) (hb : refsBs b d = true) (h : RepVs C d v) : RepVs C' d v := RepVs.tr (x.tr r) d v hb h
mutual
theorem RepV.refs {C : RC} : ∀ (d : MV) (v : V), RepV C d v → refsB C.ι.length d = true
  | .non, v, h => rfl
  | .bl _, v, h => rfl
  | .int _, v, h => rfl
  | .str _, v, h => rfl
  | .tup xs, v, h => by
    rw [RepV] at h; obtain ⟨a, vs, e, q, t⟩ := h
    rw [refsB]; exact RepVs.refs xs vs t
  | .lst xs, v, h => by
    rw [RepV] at h; obtain ⟨a, vs, e, n, q, t⟩ := h
    rw [refsB]; exact RepVs.refs xs vs t
  | .kls xs, v, h => by
    rw [RepV] at h; obtain ⟨a, vs, e, q, t⟩ := h
    rw [refsB]; exact RepVs.refs xs vs t
  | .dct ks ds, v, h => by
    rw [RepV] at h; obtain ⟨a, vs, e, n, q, l, nd, t⟩ := h
    rw [refsB]; exact RepVs.refs ds vs t
  | .dcT ks ds, v, h => by
    rw [RepV] at h
    obtain ⟨a, e, n, sm, ko, nd, l, z, ob, es, ep, ps, us, kvs, vs, q, ex, hd, he, hk, tk, rv, t⟩ := h
    rw [refsB, RepVs.refs ks kvs tk, RepVs.refs ds vs t]; rfl
  | .obj c fs ds, v, h => by
    rw [RepV] at h
    obtain ⟨a, dx, vs, e, n, q, l, t⟩ := h
    rw [refsB]; exact RepVs.refs ds vs t
  | .ref n, v, h => by
    rw [RepV] at h
    obtain ⟨a, e, q⟩ := h
    rw [refsB]; exact decide_eq_true (List.getElem?_eq_some_iff.mp q).1
theorem RepVs.refs {C : RC} : ∀ (ds : List MV) (vs : List V), RepVs C ds vs → refsBs C.ι.length ds = true
  | [], vs, _ => rfl
  | d :: ds, vs, h => by
    obtain ⟨v, vr, rfl, h1, h2⟩ := h.cons_inv
    rw [refsBs, RepV.refs d v h1, RepVs.refs ds vr h2]; rfl
end
/-- nothing of the store goes -/
abbrev Grow (C C' : RC) : Prop := Ext C.ι.length C C'
theorem Grow.refl {C : RC} : Grow C C := Ext.refl (Nat.le_refl _)
theorem Ext.grow {b : Nat} {C C' : RC} (x : Grow C C') (h : b ≤ C.ι.length) : Ext b C C' := x.weak h
theorem Grow.trans {C C1 C2 : RC} (x : Grow C C1) (y : Grow C1 C2) : Grow C C2 := Ext.trans x (y.weak x.le')
theorem RepV.grow {C C' : RC} {S : Sto} (x : Grow C C') (r : RepS C S) {d : MV} {v : V} (h : RepV C d v) : RepV C' d v := RepV.ext x r d v (RepV.refs d v h) h
theorem RepVs.grow {C C' : RC} {S : Sto} (x : Grow C C') (r : RepS C S) {ds : List MV} {vs : List V} (h : RepVs C ds vs) : RepVs C' ds vs := RepVs.ext x r ds vs (RepVs.refs ds vs h) h
/-- the slots -/
def EnvR (C : RC) (ρ : Ev) (σ : L2.St) : Prop := ∀ (i : Nat) (d : MV), ρ[i]? = some (some d) → ∃ v, σ[i]? = some (some v) ∧ RepV C d v
theorem EnvR.grow {C C' : RC} {S : Sto} {ρ : Ev} {σ : L2.St} (h : EnvR C ρ σ) (x : Grow C C') (r : RepS C S) : EnvR C' ρ σ := fun i d e => by
  obtain ⟨v, e1, q⟩ := h i d e
  exact ⟨v, e1, q.grow x r⟩
theorem EnvR.set {C : RC} {ρ : Ev} {σ : L2.St} (h : EnvR C ρ σ) {i : Nat} {d : MV} {v : V} (hi : ρ.length = σ.length) (q : RepV C d v) : EnvR C (ρ.set i (some d)) (σ.set i (some v)) := fun j e q' => by
  by_cases hj : j = i
  · subst hj
    by_cases hl : j < ρ.length
    · rw [List.getElem?_set_self hl] at q'
      cases q'
      exact ⟨v, by rw [List.getElem?_set_self (by omega)], q⟩
    · rw [List.getElem?_eq_none (by simpa using hl)] at q'; cases q'
  · rw [List.getElem?_set_ne (Ne.symm hj)] at q' ⊢
    exact h j e q'
end Mi
set_option Elab.async false
set_option linter.all false
set_option maxRecDepth 100000
set_option maxHeartbeats 2000000
namespace Mi
open PySem PySem.Spec PyProof.Rows L2
theorem RepO.grow {C C' : RC} {S : Sto} {a : Addr} {o : MO} (x : Grow C C') (r : RepS C S) (e : C'.H a = C.H a) (h : RepO C a o) : RepO C' a o := by
  cases o with
  | lst xs => obtain ⟨vs, q, t⟩ := h; exact ⟨vs, e.trans q, t.grow x r⟩
  | dct ks ds => obtain ⟨vs, q, l, nd, t⟩ := h; exact ⟨vs, e.trans q, l, nd, t.grow x r⟩
  | dcT ks ds =>
    obtain ⟨sm, ko, nd, l, z, ob, es, ep, ps, us, kvs, vs, q, ex, hd, he, hk, tk, rv, t⟩ := h
    exact ⟨sm, ko, nd, l, z, ob, es, ep, ps, us, kvs, vs, e.trans q, ex, hd, by rw [x.w]; exact he, hk, tk.grow x r, rv, t.grow x r⟩
  | obj c fs ds => obtain ⟨dx, vs, q, l, t⟩ := h; exact ⟨dx, vs, by rw [x.K]; exact e.trans q, l, t.grow x r⟩
/-- a new object, not of the store -/
def RC.put (C : RC) (p : Addr) (o : HO) : RC := { C with H := upd C.H p o }
theorem Grow.put {C : RC} {p : Addr} {o : HO} (h : C.H p = none) : Grow C (C.put p o) := by
  refine ⟨rfl, rfl, fun _ h => .inl h, fun _ h => h, fun a u _ e => ?_, fun a m => .inl m, rfl, Nat.le_refl _, Nat.le_refl _⟩
  refine .inl (show upd C.H p o a = some u from ?_)
  rw [upd_ne (ne_of_none e h)]; exact e
theorem RepS.put {C : RC} {S : Sto} {p : Addr} {o : HO} (r : RepS C S) (h : C.H p = none) : RepS (C.put p o) S := by
  refine ⟨r.len, r.nd, fun a m => ⟨(r.bad a m).1, ?_⟩, fun n mo a e1 e2 => ?_⟩
  · show upd C.H p o a ≠ none
    by_cases q : a = p
    · subst q; exact absurd h (r.bad a m).2
    · rw [upd_ne q]; exact (r.bad a m).2
  · have ro := r.ob n mo a e1 e2
    refine ro.grow (Grow.put h) r ?_
    obtain ⟨u, hu, _⟩ := ro.kind
    show upd C.H p o a = C.H a
    rw [upd_ne (ne_of_none hu h)]
theorem Froz.put {C : RC} {S : Sto} {p : Addr} {o : HO} (r : RepS C S) (h : C.H p = none) : Froz (C.put p o) p := by
  refine ⟨fun m => ?_, fun m => (r.bad p m).2 h⟩
  obtain ⟨u, hu, _⟩ := r.kind (show p ∈ C.ι from m)
  rw [h] at hu; cases hu
theorem put_same {C : RC} {p : Addr} {o : HO} : (C.put p o).H p = some o := upd_same
/-- a new cell of the store -/
def RC.cell (C : RC) (p : Addr) (o : HO) : RC := { C with H := upd C.H p o, ι := C.ι ++ [p] }
theorem Grow.cell {C : RC} {p : Addr} {o : HO} (h : C.H p = none) : Grow C (C.cell p o) := by
  refine ⟨rfl, rfl, fun _ h => .inl h, fun _ h => h, fun a u _ e => ?_, fun a m => ?_, by simp [RC.cell], Nat.le_refl _, by simp [RC.cell]⟩
  · refine .inl (show upd C.H p o a = some u from ?_)
    rw [upd_ne (ne_of_none e h)]; exact e
  · rcases List.mem_append.mp (show a ∈ C.ι ++ [p] from m) with m | m
    · exact .inl m
    · have e : a = p := by simpa using m
      subst e; exact .inr h
theorem RepS.notin {C : RC} {S : Sto} {p : Addr} (r : RepS C S) (h : C.H p = none) : p ∉ C.ι := fun m => by
  obtain ⟨u, hu, _⟩ := r.kind m
  rw [h] at hu; cases hu
theorem RepS.cell {C : RC} {S : Sto} {p : Addr} {o : HO} {mo : MO} (r : RepS C S) (h : C.H p = none) (q : RepO (C.cell p o) p mo) : RepS (C.cell p o) (S ++ [mo]) := by
  refine ⟨by simp [RC.cell, r.len], ?_, fun a m => ⟨fun m2 => ?_, ?_⟩, fun n mo' a e1 e2 => ?_⟩
  · show (C.ι ++ [p]).Nodup
    rw [List.nodup_append]
    refine ⟨r.nd, by simp, fun a ha b hb => ?_⟩
    have e : b = p := by simpa using hb
    subst e
    intro e; subst e
    exact r.notin h ha
  · rcases List.mem_append.mp (show a ∈ C.ι ++ [p] from m2) with m2 | m2
    · exact (r.bad a m).1 m2
    · have e : a = p := by simpa using m2
      subst e; exact (r.bad a m).2 h
  · show upd C.H p o a ≠ none
    by_cases z : a = p
    · subst z; exact absurd h (r.bad a m).2
    · rw [upd_ne z]; exact (r.bad a m).2
  · have e2 : (C.ι ++ [p])[n]? = some a := e2
    by_cases hn : n < S.length
    · rw [List.getElem?_append_left hn] at e1
      rw [List.getElem?_append_left (by rw [r.len]; exact hn)] at e2
      have ro := r.ob n mo' a e1 e2
      refine ro.grow (Grow.cell h) r ?_
      obtain ⟨u, hu, _⟩ := ro.kind
      show upd C.H p o a = C.H a
      rw [upd_ne (ne_of_none hu h)]
    · rw [List.getElem?_append_right (by omega)] at e1
      rw [List.getElem?_append_right (by rw [r.len]; omega), r.len] at e2
      cases hz : n - S.length with
      | zero =>
        rw [hz] at e1 e2
        simp at e1 e2
        subst e1; subst e2
        exact q
      | succ k => rw [hz] at e1; simp at e1
theorem cell_same {C : RC} {p : Addr} {o : HO} : (C.cell p o).H p = some o := upd_same
theorem cell_ref {C : RC} {S : Sto} {p : Addr} {o : HO} (r : RepS C S) : RepV (C.cell p o) (.ref S.length) (.ref p) := by
  rw [RepV]
  exact ⟨p, rfl, by simp [RC.cell, ← r.len]⟩
/-- a cell of the store is written -/
theorem Grow.write {C : RC} {a : Addr} {o : HO} (h : a ∈ C.ι) : Grow C (C.put a o) := by
  refine ⟨rfl, rfl, fun _ h => .inl h, fun _ h => h, fun b u n e => ?_, fun b m => .inl m, rfl, Nat.le_refl _, Nat.le_refl _⟩
  refine .inl (show upd C.H a o b = some u from ?_)
  rw [upd_ne (fun z => n (by rw [z]; exact h))]; exact e
theorem RepS.write {C : RC} {S : Sto} {n : Nat} {a : Addr} {o : HO} {mo : MO} (r : RepS C S) (h : C.ι[n]? = some a) (q : RepO (C.put a o) a mo) : RepS (C.put a o) (S.set n mo) := by
  have ha : a ∈ C.ι := List.mem_of_getElem? h
  refine ⟨by simp [RC.put, r.len], r.nd, fun b m => ⟨(r.bad b m).1, ?_⟩, fun k mo' b e1 e2 => ?_⟩
  · show upd C.H a o b ≠ none
    by_cases z : b = a
    · subst z; exact absurd ha (r.bad b m).1
    · rw [upd_ne z]; exact (r.bad b m).2
  · by_cases hk : k = n
    · subst hk
      have e2 : C.ι[k]? = some b := e2
      rw [h] at e2; cases e2
      have hl : k < S.length := by rw [← r.len]; exact (List.getElem?_eq_some_iff.mp h).1
      rw [List.getElem?_set_self hl] at e1
      cases e1
      exact q
    · rw [List.getElem?_set_ne (Ne.symm hk)] at e1
      have ro := r.ob k mo' b e1 e2
      refine ro.grow (Grow.write ha) r ?_
      show upd C.H a o b = C.H b
      refine upd_ne fun z => hk ?_
      subst z
      exact (List.getElem_inj r.nd).mp ((List.getElem?_eq_some_iff.mp e2).2.trans (List.getElem?_eq_some_iff.mp h).2.symm) |> fun e => by exact e
inductive R (α : Type) where
  | ok (a : α) (S : Sto)
  | exc (c : Str) (d : MV) (S : Sto)
  | stk
def R.bind {α β : Type} (r : R α) (f : α → Sto → R β) : R β := match r with
  | .ok a S => f a S
  | .exc c d S => .exc c d S
  | .stk => .stk
@[simp] theorem R.bind_ok {α β : Type} (a : α) (S : Sto) (f : α → Sto → R β) : (R.ok a S).bind f = f a S := rfl
@[simp] theorem R.bind_exc {α β : Type} (c : Str) (d : MV) (S : Sto) (f : α → Sto → R β) : (R.exc c d S : R α).bind f = .exc c d S := rfl
@[simp] theorem R.bind_stk {α β : Type} (f : α → Sto → R β) : (R.stk : R α).bind f = .stk := rfl
/-- an own exception: its class, and its one field's value (or none) -/
def ExcR (C : RC) (c : Str) (d : MV) (cls : Value) (dx : Option Addr) : Prop :=
  cls = .ref (He.ga C.K c) ∧ ((d = .non ∧ dx = none) ∨ ∃ a f d' v, d = .obj c [f] [d'] ∧ dx = some a ∧ C.H a = some (.xd [(f, v)]) ∧ RepV C d' v)
theorem ExcR.ext {b : Nat} {C C' : RC} {S : Sto} {c : Str} {d : MV} {cls : Value} {dx : Option Addr} (h : ExcR C c d cls dx) (x : Ext b C C') (r : RepS C S) (hb : refsB b d = true) : ExcR C' c d cls dx := by
  refine ⟨by rw [x.K]; exact h.1, ?_⟩
  rcases h.2 with h | ⟨a, f, d', v, ed, e, q, t⟩
  · exact .inl h
  · refine .inr ⟨a, f, d', v, ed, e, (x.kp _ _ (fun m => ?_) q).exact (.inl fun _ z => by cases z), RepV.ext x r d' v (by subst ed; simpa [refsB, refsBs] using hb) t⟩
    obtain ⟨u, hu, _, _, _, k⟩ := r.kind m
    rw [q] at hu; cases hu
    exact k _ rfl
/-- what is wanted of a result -/
def Wants {α : Type} (W : WX) (σ : L2.St) (C : RC) (r : R α) (Q : α → Sto → RC → Prop) : Prop := match r with
  | .ok a S => ∀ C', Grow C C' → RepS C' S → Q a S C'
  | .exc c d S => ∀ C' cls dx, Grow C C' → RepS C' S → ExcR C' c d cls dx → W cls dx σ C'.H
  | .stk => False
theorem Wants.bind {α β : Type} {W : WX} {σ : L2.St} {C : RC} {r : R α} {f : α → Sto → R β} {Q : β → Sto → RC → Prop} (h : Wants W σ C (r.bind f) Q) :
    Wants W σ C r (fun a S1 C1 => Wants W σ C1 (f a S1) Q ∧ Grow C C1) := by
  cases r with
  | ok a S =>
    intro C1 g r1
    refine ⟨?_, g⟩
    have h : Wants W σ C (f a S) Q := h
    revert h
    cases f a S with
    | ok b S2 => exact fun h C2 g2 r2 => h C2 (g.trans g2) r2
    | exc c d S2 => exact fun h C2 cls dx g2 r2 e => h C2 cls dx (g.trans g2) r2 e
    | stk => exact fun h => h
  | exc c d S => exact h
  | stk => exact h
theorem Wants.mono {α : Type} {W : WX} {σ : L2.St} {C : RC} {r : R α} {Q Q' : α → Sto → RC → Prop} (h : Wants W σ C r Q) (k : ∀ a S C', Grow C C' → RepS C' S → r = .ok a S → Q a S C' → Q' a S C') : Wants W σ C r Q' := by
  cases r with
  | ok a S => exact fun C' g r => k a S C' g r rfl (h C' g r)
  | exc c d S => exact h
  | stk => exact h
/-- the state of a walk: data for the slots, the store -/
structure Sv (X : Cx) (ρ : Ev) (σ : L2.St) (S : Sto) (C : RC) : Prop where
  w : C.w = X.w
  K : C.K = X.K
  rs : RepS C S
  ev : EnvR C ρ σ
  ln : ρ.length = σ.length
theorem Sv.grow {X : Cx} {ρ : Ev} {σ : L2.St} {S S' : Sto} {C C' : RC} (s : Sv X ρ σ S C) (g : Grow C C') (r : RepS C' S') : Sv X ρ σ S' C' :=
  ⟨g.w.trans s.w, g.K.trans s.K, r, s.ev.grow g s.rs, s.ln⟩
/-- readings: of an expression's value, a test, an argument list -/
def tE (X : Cx) (W : WX) (m : Ev → Sto → R MV) : TE := fun σ H Q => ∃ C ρ S, C.H = H ∧ Sv X ρ σ S C ∧ Wants W σ C (m ρ S) (fun d _ C' => ∀ v, RepV C' d v → Q v C'.H)
def tT (X : Cx) (W : WX) (m : Ev → Sto → R Bool) : TT := fun σ H Q => ∃ C ρ S, C.H = H ∧ Sv X ρ σ S C ∧ Wants W σ C (m ρ S) (fun b _ C' => Q b C'.H)
def tA (X : Cx) (W : WX) (m : Ev → Sto → R (List MV)) : TA := fun σ H Q => ∃ C ρ S, C.H = H ∧ Sv X ρ σ S C ∧ Wants W σ C (m ρ S) (fun ds _ C' => ∀ vs, RepVs C' ds vs → Q vs C'.H)
theorem _root_.L2.PE.imp {X : Cx} {e : Expr} {t t' : TE} (h : PE X e t) (k : ∀ σ H Q, t' σ H Q → t σ H Q) : PE X e t' := ⟨fun pins s σ H Q I q => h.run pins s σ H Q I (k σ H Q q)⟩
theorem _root_.L2.PT.imp {X : Cx} {e : Expr} {t t' : TT} (h : PT X e t) (k : ∀ σ H Q, t' σ H Q → t σ H Q) : PT X e t' := ⟨fun pins s σ H Q I q => h.run pins s σ H Q I (k σ H Q q)⟩
theorem _root_.L2.PW.imp {X : Cx} {e : Expr} {t t' : TT} (h : PW X e t) (k : ∀ σ H Q, t' σ H Q → t σ H Q) : PW X e t' := ⟨fun wh pins s σ H Q I q => h.run wh pins s σ H Q I (k σ H Q q)⟩
theorem _root_.L2.PA.imp {X : Cx} {es : List Expr} {t t' : TA} (h : PA X es t) (k : ∀ σ H Q, t' σ H Q → t σ H Q) : PA X es t' := ⟨fun pos pins s σ H Q I q => h.run pos pins s σ H Q I (k σ H Q q)⟩
theorem _root_.L2.PS.imp {X : Cx} {st : Stmt} {t t' : TS} (h : PS X st t) (k : ∀ D σ H, t' D σ H → t D σ H) : PS X st t' := ⟨fun pins s σ H D I q => h.run pins s σ H D I (k D σ H q)⟩
theorem _root_.L2.PSs.imp {X : Cx} {st : List Stmt} {t t' : TS} (h : PSs X st t) (k : ∀ D σ H, t' D σ H → t D σ H) : PSs X st t' := ⟨fun pins s σ H D I q => h.run pins s σ H D I (k D σ H q)⟩
/-- the step of a bind: behind the first part -/
theorem tE.bind {X : Cx} {W : WX} {m : Ev → Sto → R MV} {β : Type} {f : MV → Sto → R β} {σ : L2.St} {C : RC} {ρ : Ev} {S : Sto} {Q : β → Sto → RC → Prop} {Q1 : VK} (s : Sv X ρ σ S C) (h : Wants W σ C ((m ρ S).bind f) Q)
    (k : ∀ d S1 C1 v, Sv X ρ σ S1 C1 → Grow C C1 → RepV C1 d v → Wants W σ C1 (f d S1) Q → Q1 v C1.H) : tE X W m σ C.H Q1 :=
  ⟨C, ρ, S, rfl, s, h.bind.mono fun d S1 C1 g r _ q v hv => k d S1 C1 v (s.grow g r) g hv q.1⟩
theorem tT.bind {X : Cx} {W : WX} {m : Ev → Sto → R Bool} {β : Type} {f : Bool → Sto → R β} {σ : L2.St} {C : RC} {ρ : Ev} {S : Sto} {Q : β → Sto → RC → Prop} {Q1 : Bool → Hp → Prop} (s : Sv X ρ σ S C) (h : Wants W σ C ((m ρ S).bind f) Q)
    (k : ∀ b S1 C1, Sv X ρ σ S1 C1 → Grow C C1 → Wants W σ C1 (f b S1) Q → Q1 b C1.H) : tT X W m σ C.H Q1 :=
  ⟨C, ρ, S, rfl, s, h.bind.mono fun d S1 C1 g r _ q => k d S1 C1 (s.grow g r) g q.1⟩
theorem tA.bind {X : Cx} {W : WX} {m : Ev → Sto → R (List MV)} {β : Type} {f : List MV → Sto → R β} {σ : L2.St} {C : RC} {ρ : Ev} {S : Sto} {Q : β → Sto → RC → Prop} {Q1 : List V → Hp → Prop} (s : Sv X ρ σ S C) (h : Wants W σ C ((m ρ S).bind f) Q)
    (k : ∀ ds S1 C1 vs, Sv X ρ σ S1 C1 → Grow C C1 → RepVs C1 ds vs → Wants W σ C1 (f ds S1) Q → Q1 vs C1.H) : tA X W m σ C.H Q1 :=
  ⟨C, ρ, S, rfl, s, h.bind.mono fun d S1 C1 g r _ q vs hv => k d S1 C1 vs (s.grow g r) g hv q.1⟩
/-- a value told at once -/
theorem Wants.here {α : Type} {W : WX} {σ : L2.St} {C C' : RC} {a : α} {S' : Sto} {Q : α → Sto → RC → Prop} (h : Wants W σ C (.ok a S') Q) (g : Grow C C') (r : RepS C' S') : Q a S' C' := h C' g r
theorem Wants.now {α : Type} {W : WX} {σ : L2.St} {C : RC} {a : α} {S : Sto} {Q : α → Sto → RC → Prop} (h : Wants W σ C (.ok a S) Q) (r : RepS C S) : Q a S C := h C Grow.refl r
end Mi
set_option Elab.async false
set_option linter.all false
set_option maxRecDepth 100000
set_option maxHeartbeats 2000000
namespace Mi
open PySem PySem.Spec PyProof.Rows L2
def lstOf (S : Sto) : MV → Option (List MV)
  | .lst xs => some xs
  | .ref n => match S[n]? with
    | some (.lst xs) => some xs
    | _ => none
  | _ => none
def seqOf (S : Sto) : MV → Option (List MV)
  | .tup xs => some xs
  | .kls xs => some xs
  | d => lstOf S d
theorem lstOf_rep {C : RC} {S : Sto} {d : MV} {v : V} {xs : List MV} (r : RepS C S) (h : RepV C d v) (e : lstOf S d = some xs) : ∃ a vs, v = .ref a ∧ C.H a = some (.lst vs) ∧ RepVs C xs vs := by
  cases d with
  | lst ys =>
    rw [lstOf] at e; cases e
    rw [RepV] at h
    obtain ⟨a, vs, e, _, q, t⟩ := h
    exact ⟨a, vs, e, q, t⟩
  | ref n =>
    rw [RepV] at h
    obtain ⟨a, e1, e2⟩ := h
    rw [lstOf] at e
    cases q : S[n]? with
    | none => simp [q] at e
    | some o =>
      rw [q] at e
      cases o with
      | lst ys =>
        cases e
        obtain ⟨vs, h1, h2⟩ := r.ob n _ a q e2
        exact ⟨a, vs, e1, h1, h2⟩
      | _ => cases e
  | _ => cases e
theorem seqOf_rep {C : RC} {S : Sto} {d : MV} {v : V} {xs : List MV} (r : RepS C S) (h : RepV C d v) (e : seqOf S d = some xs) : ∃ a vs, v = .ref a ∧ (SqL C.K C.H a vs ∨ SqT C.K C.H a vs) ∧ RepVs C xs vs := by
  cases d with
  | tup ys =>
    rw [seqOf] at e; cases e
    rw [RepV] at h
    obtain ⟨a, vs, e, q, t⟩ := h
    exact ⟨a, vs, e, .inr q, t⟩
  | kls ys =>
    rw [seqOf] at e; cases e
    rw [RepV] at h
    obtain ⟨a, vs, e, q, t⟩ := h
    refine ⟨a, vs, e, .inl ?_, t⟩
    rcases q with ⟨o, q⟩ | q
    · exact .inl (.inr ⟨o, q⟩)
    · exact q.sq _
  | lst ys => obtain ⟨a, vs, e, q, t⟩ := lstOf_rep r h e; exact ⟨a, vs, e, .inl (.of q), t⟩
  | ref n => obtain ⟨a, vs, e, q, t⟩ := lstOf_rep r h e; exact ⟨a, vs, e, .inl (.of q), t⟩
  | _ => cases e
/-- a value op's reading -/
def rOf (X : Cx) (f : MV → MV → Sto → R MV) : R2 := fun x y H Q => ∃ C S d1 d2, C.H = H ∧ C.w = X.w ∧ C.K = X.K ∧ RepS C S ∧ RepV C d1 x ∧ RepV C d2 y ∧
  ∃ a S', f d1 d2 S = .ok a S' ∧ ∀ C', Grow C C' → RepS C' S' → ∀ v, RepV C' a v → Q v C'.H
theorem vInt {C : RC} {i : Int} {v : V} (h : RepV C (.int i) v) : v = .int i := by rw [RepV] at h; exact h
theorem vBl {C : RC} {i : Bool} {v : V} (h : RepV C (.bl i) v) : v = .bl i := by rw [RepV] at h; exact h
theorem vStr {C : RC} {i : Str} {v : V} (h : RepV C (.str i) v) : v = .str i := by rw [RepV] at h; exact h
theorem vNon {C : RC} {v : V} (h : RepV C .non v) : v = .non := by rw [RepV] at h; exact h
theorem repI {C : RC} (i : Int) : RepV C (.int i) (.int i) := by rw [RepV]
theorem repB {C : RC} (i : Bool) : RepV C (.bl i) (.bl i) := by rw [RepV]
theorem repS {C : RC} (i : Str) : RepV C (.str i) (.str i) := by rw [RepV]
theorem repN {C : RC} : RepV C .non .non := by rw [RepV]
theorem repTup {C : RC} {p : Addr} {ds : List MV} {vs : List V} (h : C.H p = some (.tup vs)) (t : RepVs C ds vs) : RepV C (.tup ds) (.ref p) := by
  rw [RepV]; exact ⟨p, vs, rfl, .of h, t⟩
theorem repLst {C : RC} {p : Addr} {ds : List MV} {vs : List V} (n : Froz C p) (h : C.H p = some (.lst vs)) (t : RepVs C ds vs) : RepV C (.lst ds) (.ref p) := by
  rw [RepV]; exact ⟨p, vs, rfl, n, h, t⟩
/-- a new tuple, a new frozen list -/
theorem newTup {C : RC} {S : Sto} {Q : VK} {ds : List MV} {vs : List V} (r : RepS C S) (t : RepVs C ds vs) (q : ∀ C', Grow C C' → RepS C' S → ∀ v, RepV C' (.tup ds) v → Q v C'.H) : ∀ p, C.H p = none → Q (.ref p) (upd C.H p (.tup vs)) := fun p hp =>
  q (C.put p (.tup vs)) (Grow.put hp) (r.put hp) (.ref p) (repTup put_same (t.grow (Grow.put hp) r))
theorem newLst {C : RC} {S : Sto} {Q : VK} {ds : List MV} {vs : List V} (r : RepS C S) (t : RepVs C ds vs) (q : ∀ C', Grow C C' → RepS C' S → ∀ v, RepV C' (.lst ds) v → Q v C'.H) : ∀ p, C.H p = none → Q (.ref p) (upd C.H p (.lst vs)) := fun p hp =>
  q (C.put p (.lst vs)) (Grow.put hp) (r.put hp) (.ref p) (repLst (.put r hp) put_same (t.grow (Grow.put hp) r))
/-- a new list cell -/
theorem newCell {C : RC} {S : Sto} {Q : VK} {ds : List MV} {vs : List V} (r : RepS C S) (t : RepVs C ds vs) (q : ∀ C', Grow C C' → RepS C' (S ++ [.lst ds]) → ∀ v, RepV C' (.ref S.length) v → Q v C'.H) : ∀ p, C.H p = none → Q (.ref p) (upd C.H p (.lst vs)) := fun p hp =>
  q (C.cell p (.lst vs)) (Grow.cell hp) (r.cell hp ⟨vs, cell_same, t.grow (Grow.cell hp) r⟩) (.ref p) (cell_ref r)
def addL (a b : MV) (S : Sto) : R MV := match lstOf S a, lstOf S b with
  | some xs, some ys => if xs.length + ys.length ≤ sizeLine then .ok (.lst (xs ++ ys)) S else .stk
  | _, _ => .stk
def addM : MV → MV → Sto → R MV
  | .int i, .int j, S => .ok (.int (i + j)) S
  | .str x, .str y, S => if x.length + y.length ≤ sizeLine then .ok (.str (x ++ y)) S else .stk
  | .tup xs, .tup ys, S => if xs.length + ys.length ≤ sizeLine then .ok (.tup (xs ++ ys)) S else .stk
  | a, b, S => addL a b S
theorem addL_of {a b : MV} {S S' : Sto} {d : MV} (h : addL a b S = .ok d S') : ∃ xs ys, lstOf S a = some xs ∧ lstOf S b = some ys ∧ xs.length + ys.length ≤ sizeLine ∧ d = .lst (xs ++ ys) ∧ S' = S := by
  unfold addL at h
  cases ha : lstOf S a with
  | none => rw [ha] at h; cases h
  | some xs =>
    cases hb : lstOf S b with
    | none => rw [ha, hb] at h; cases h
    | some ys =>
      rw [ha, hb] at h
      dsimp only at h
      by_cases hl : xs.length + ys.length ≤ sizeLine
      · rw [if_pos hl] at h; cases h; exact ⟨xs, ys, rfl, rfl, hl, rfl, rfl⟩
      · rw [if_neg hl] at h; cases h
theorem addM_cases {a b : MV} {S S' : Sto} {d : MV} (h : addM a b S = .ok d S') : (∃ i j, a = .int i ∧ b = .int j) ∨ (∃ x y, a = .str x ∧ b = .str y) ∨ (∃ x y, a = .tup x ∧ b = .tup y) ∨ addL a b S = .ok d S' := by
  unfold addM at h
  split at h
  · exact .inl ⟨_, _, rfl, rfl⟩
  · exact .inr (.inl ⟨_, _, rfl, rfl⟩)
  · exact .inr (.inr (.inl ⟨_, _, rfl, rfl⟩))
  · exact .inr (.inr (.inr h))
section
variable {X : Cx}
theorem opM_add : OpR X (binaryOp .Add) (rOf X addM) := by
  intro pins s σ H x y v u Q I rx ry rof
  obtain ⟨C, S, d1, d2, rfl, hw, hK, r, h1, h2, a, S', e, q⟩ := rof
  rcases addM_cases e with ⟨i, j, rfl, rfl⟩ | ⟨i, j, rfl, rfl⟩ | ⟨xs, ys, rfl, rfl⟩ | e
  · cases vInt h1; cases vInt h2
    cases e
    exact op_add pins s σ C.H _ _ v u Q I rx ry ⟨i, j, rfl, rfl, q C Grow.refl r _ (repI _)⟩
  · cases vStr h1; cases vStr h2
    simp only [addM] at e
    split at e
    · cases e
      exact op_add_str pins s σ C.H _ _ v u Q I rx ry ⟨i, j, rfl, rfl, by assumption, q C Grow.refl r _ (repS _)⟩
    · cases e
  · rw [RepV] at h1 h2
    obtain ⟨p1, vs1, rfl, q1, t1⟩ := h1
    obtain ⟨p2, vs2, rfl, q2, t2⟩ := h2
    simp only [addM] at e
    split at e
    · rename_i hl
      cases e
      rw [hK] at q1 q2
      have l1 := t1.length
      have l2 := t2.length
      refine op_catA pins s σ C.H _ _ v u Q I rx ry ⟨p1, p2, vs1, vs2, rfl, rfl, q1, q2, by omega, fun z => ?_, fun z1 z2 => ?_, fun z1 z2 => ?_⟩
      · subst z
        have : xs = [] := List.eq_nil_of_length_eq_zero (by simpa using l1)
        subst this
        exact q C Grow.refl r _ (by rw [RepV]; exact ⟨p2, vs2, rfl, by rw [hK]; exact q2, t2⟩)
      · subst z2
        have : ys = [] := List.eq_nil_of_length_eq_zero (by simpa using l2)
        subst this
        exact q C Grow.refl r _ (by rw [RepV]; exact ⟨p1, vs1, rfl, by rw [hK]; exact q1, by simpa using t1⟩)
      · exact newTup r (t1.append t2) q
    · cases e
  · obtain ⟨xs, ys, ha, hb, hl, rfl, rfl⟩ := addL_of e
    obtain ⟨p1, vs1, rfl, q1, t1⟩ := lstOf_rep r h1 ha
    obtain ⟨p2, vs2, rfl, q2, t2⟩ := lstOf_rep r h2 hb
    have l1 := t1.length
    have l2 := t2.length
    exact op_cat pins s σ C.H _ _ v u Q I rx ry ⟨p1, p2, vs1, vs2, rfl, rfl, q1, q2, by omega, newLst r (t1.append t2) q⟩
def subM : MV → MV → Sto → R MV
  | .int i, .int j, S => .ok (.int (i - j)) S
  | _, _, _ => .stk
theorem opM_sub : OpR X (binaryOp .Sub) (rOf X subM) := by
  intro pins s σ H x y v u Q I rx ry rof
  obtain ⟨C, S, d1, d2, rfl, hw, hK, r, h1, h2, a, S', e, q⟩ := rof
  unfold subM at e
  split at e
  · cases vInt h1; cases vInt h2; cases e
    exact op_sub pins s σ C.H _ _ v u Q I rx ry ⟨_, _, rfl, rfl, q C Grow.refl r _ (repI _)⟩
  · cases e
def modM : MV → MV → Sto → R MV
  | .int i, .int j, S => if 0 < j then .ok (.int (i % j)) S else .stk
  | _, _, _ => .stk
theorem opM_mod : OpR X (binaryOp .Mod) (rOf X modM) := by
  intro pins s σ H x y v u Q I rx ry rof
  obtain ⟨C, S, d1, d2, rfl, hw, hK, r, h1, h2, a, S', e, q⟩ := rof
  unfold modM at e
  split at e
  · split at e
    · cases vInt h1; cases vInt h2; cases e
      exact op_mod pins s σ C.H _ _ v u Q I rx ry ⟨_, _, rfl, rfl, by assumption, q C Grow.refl r _ (repI _)⟩
    · cases e
  · cases e
def fdivM : MV → MV → Sto → R MV
  | .int i, .int j, S => if 0 < j ∧ j < 1073741824 then .ok (.int (i / j)) S else .stk
  | _, _, _ => .stk
theorem opM_fdiv : OpR X (binaryOp .FloorDiv) (rOf X fdivM) := by
  intro pins s σ H x y v u Q I rx ry rof
  obtain ⟨C, S, d1, d2, rfl, hw, hK, r, h1, h2, a, S', e, q⟩ := rof
  unfold fdivM at e
  split at e
  · split at e
    · cases vInt h1; cases vInt h2; cases e
      exact op_fdiv pins s σ C.H _ _ v u Q I rx ry ⟨_, _, rfl, rfl, by assumption, q C Grow.refl r _ (repI _)⟩
    · cases e
  · cases e
def powM : MV → MV → Sto → R MV
  | .int i, .int j, S => if 0 ≤ j ∧ j ≤ 1000 ∧ i.natAbs < 1000 then .ok (.int (i ^ j.toNat)) S else .stk
  | _, _, _ => .stk
theorem opM_pow : OpR X (binaryOp .Pow) (rOf X powM) := by
  intro pins s σ H x y v u Q I rx ry rof
  obtain ⟨C, S, d1, d2, rfl, hw, hK, r, h1, h2, a, S', e, q⟩ := rof
  unfold powM at e
  split at e
  · split at e
    · cases vInt h1; cases vInt h2; cases e
      refine op_pow pins s σ C.H _ _ v u Q I rx ry ⟨_, _, rfl, rfl, ⟨by omega, by omega, ?_⟩, q C Grow.refl r _ (repI _)⟩
      exact Nat.lt_trans (by omega : _ < 1000) (by decide)
    · cases e
  · cases e
/-- t * 1 is t -/
theorem tuple_mul1 (l : Addr) (items : Array Value) (n : Nat) (dd : Option Addr) (sl : Array (Option Value)) (u : Tok) :
    Meets (Builtin.«tuple.__mul__» ⟨[.ref l, .int 1 u], []⟩) (fun _ R s => s.heap.get? l = some { cls := .type "tuple", dict := dd, data := .seq items n, slots := sl } ∧
      R (.ok (.ret (Value.ref l))) s) :=
  .of_wp fun prog w A R st hyp => by
    obtain ⟨hp, gs, dr, tk, os⟩ := st
    obtain ⟨hl, h⟩ := hyp
    have f1 := AutoSeq1.idx_int
    wp_walk using AutoSeq1.wpAny_loadPart' hl
    repeat (first
      | (refine wpAny_ite_true (by simp) ?_; wp_walk using AutoSeq1.wpAny_loadPart' hl)
      | (refine wpAny_ite_false (by simp) ?_; wp_walk using AutoSeq1.wpAny_loadPart' hl))
    exact ⟨_, rfl, h⟩
end
end Mi
set_option Elab.async false
set_option linter.all false
set_option maxRecDepth 100000
set_option maxHeartbeats 2000000
namespace Mi
open PySem PySem.Spec PyProof.Rows L2
def repM (xs : List MV) (k : Int) : List MV := (List.replicate k.toNat xs).flatten
def mulM : MV → MV → Sto → R MV
  | .int i, .int j, S => if -(2 ^ 64) < j ∧ j < 2 ^ 64 then .ok (.int (i * j)) S else .stk
  | .tup xs, .int k, S => if xs.isEmpty = false ∧ 1 ≤ k ∧ k ≤ 1000 ∧ xs.length ≤ 1000 then .ok (.tup (repM xs k)) S else .stk
  | d, .int k, S => match lstOf S d with
    | some xs => if 0 ≤ k ∧ k ≤ 1000 ∧ xs.length ≤ 1000 then .ok (.lst (repM xs k)) S else .stk
    | none => .stk
  | _, _, _ => .stk
section
variable {X : Cx}
theorem op_rep1 {pins : List (Addr × Obj)} {s : Shared} {σ : L2.St} {H : Hp} {v u : Value} {Q : VK} {l : Addr} {xs : List V} (I : Inv X pins σ H s) (rx : RelV (.ref l) v) (ry : RelV (.int 1) u) (hT : SqT X.K H l xs) (q : Q (.ref l) H) :
    wpAny (model X.prog X.w) X.A (binaryOp .Mult v u) (EP X pins σ Q) X.xe s := by
  cases rx
  obtain ⟨t, rfl⟩ := ry
  obtain ⟨its, r, ⟨ot, ho, hc, n, hd⟩, hs⟩ := I.tuple hT
  obtain ⟨cls, dd, data, sl⟩ := ot
  simp only at hc hd
  subst hc hd
  exact wpAny_binaryOp_repeat_ref (T := "tuple") (U := "int") (by decide) ⟨_, ho, rfl⟩ (fun s' => typeIs_int s' 1 t) noFill_tuple_mul F.fills_int_mul F.slot_int_rmul repeat_tuple F.slot_int_index.lookup
    (call_meets F.slot_int_rmul (typeIs_int s 1 t) F.entry_int_rmul (F.args_int_rmul_2 _ _) (int_rmul_tuple 1 t l its.toArray n dd sl)
      ⟨ho, rfl, ⟨_, ho, rfl⟩, call_meets F.slot_tuple_mul ⟨_, ho, rfl⟩ F.entry_tuple_mul (F.args_tuple_mul_2 _ _) (tuple_mul1 l its.toArray n dd sl t) ⟨ho, ⟨.ref l, H, I, rfl, q⟩⟩⟩)
theorem repM_one (xs : List MV) : repM xs 1 = xs := by simp [repM]
theorem opM_mul : OpR X (binaryOp .Mult) (rOf X mulM) := by
  intro pins s σ H x y v u Q I rx ry rof
  obtain ⟨C, S, d1, d2, rfl, hw, hK, r, h1, h2, a, S', e, q⟩ := rof
  unfold mulM at e
  split at e
  · split at e
    · cases vInt h1; cases vInt h2; cases e
      exact op_mul pins s σ C.H _ _ v u Q I rx ry ⟨_, _, rfl, rfl, .inr (by assumption), q C Grow.refl r _ (repI _)⟩
    · cases e
  · rename_i xs k
    split at e
    · rename_i hc
      cases e
      cases vInt h2
      obtain ⟨hne, hk1, hk2, hl⟩ := hc
      have h0 := h1
      rw [RepV] at h1
      obtain ⟨p1, vs1, rfl, q1, t1⟩ := h1
      rw [hK] at q1
      have l1 := t1.length
      by_cases hk : k = 1
      · subst hk
        rw [repM_one] at q
        exact op_rep1 I rx ry q1 (q C Grow.refl r _ h0)
      · refine op_repT pins s σ C.H _ _ v u Q I rx ry ⟨p1, k, vs1, rfl, rfl, q1, ?_, by omega, hk2, by omega, newTup r (t1.flatRep k.toNat) q⟩
        intro z; subst z
        have : xs = [] := List.eq_nil_of_length_eq_zero (by simpa using l1)
        subst this; simp at hne
    · cases e
  · rename_i k _ _
    cases ha : lstOf S d1 with
    | none => rw [ha] at e; cases e
    | some xs =>
      rw [ha] at e
      dsimp only at e
      split at e
      · rename_i hc
        obtain ⟨hk1, hk2, hl⟩ := hc
        cases e
        cases vInt h2
        obtain ⟨p1, vs1, rfl, q1, t1⟩ := lstOf_rep r h1 ha
        have l1 := t1.length
        refine op_rep pins s σ C.H _ _ v u Q I rx ry ⟨p1, k, vs1, rfl, rfl, q1, by omega, by omega, ?_, newLst r (t1.flatRep k.toNat) q⟩
        rw [sizeLine_eq]
        have := Nat.mul_le_mul (show vs1.length ≤ 1000 by omega) (show k.toNat ≤ 1000 by omega)
        omega
      · cases e
  · cases e
end
def pdF : Nat → Sto → MV → PyData
  | 0, _, _ => .dict []
  | _ + 1, _, .non => .none
  | _ + 1, _, .bl b => .bool b
  | _ + 1, _, .int i => .int i
  | _ + 1, _, .str x => .str x
  | n + 1, S, .tup xs => .tuple (xs.map (pdF n S))
  | n + 1, S, .lst xs => .list (xs.map (pdF n S))
  | n + 1, S, .ref k => match S[k]? with
    | some (.lst xs) => .list (xs.map (pdF n S))
    | _ => .dict []
  | _ + 1, _, _ => .dict []
theorem pdF_dp {C : RC} {S : Sto} (r : RepS C S) : ∀ (n : Nat) (d : MV) (v : V), RepV C d v → (pdF n S d).canLay0 = true → Dp C.K C.H v (pdF n S d) := by
  intro n
  induction n with
  | zero => intro d v _ h; simp [pdF, PyData.canLay0] at h
  | succ n ih =>
    have all : ∀ (xs : List MV) (vs : List V), RepVs C xs vs → PyData.canLayAll0 (xs.map (pdF n S)) = true → DpAll C.K C.H vs (xs.map (pdF n S)) := by
      intro xs
      induction xs with
      | nil => intro vs h _; rw [h.nil_inv]; exact .nil
      | cons x xs ihx =>
        intro vs h c
        obtain ⟨v, vr, rfl, h1, h2⟩ := h.cons_inv
        rw [List.map_cons] at c ⊢
        have c' : (pdF n S x).canLay0 = true ∧ PyData.canLayAll0 (xs.map (pdF n S)) = true := by simpa [PyData.canLayAll0] using c
        exact .cons (ih x v h1 c'.1) (ihx vr h2 c'.2)
    intro d v h c
    cases d with
    | non => rw [vNon h]; exact .non
    | bl b => rw [vBl h]; exact .bl b
    | int i => rw [vInt h]; exact .int i
    | str x => rw [vStr h]; exact .str x
    | tup xs =>
      rw [RepV] at h
      obtain ⟨a, vs, rfl, q, t⟩ := h
      exact .tup q (all xs vs t (by simpa [pdF, PyData.canLay0] using c))
    | lst xs =>
      rw [RepV] at h
      obtain ⟨a, vs, rfl, _, q, t⟩ := h
      exact .lst (.of q) (all xs vs t (by simpa [pdF, PyData.canLay0] using c))
    | ref k =>
      rw [RepV] at h
      obtain ⟨a, rfl, q⟩ := h
      rw [pdF] at c ⊢
      cases e : S[k]? with
      | none => rw [e] at c; simp [PyData.canLay0] at c
      | some o =>
        rw [e] at c
        cases o with
        | lst xs =>
          obtain ⟨vs, h1, h2⟩ := r.ob k _ a e q
          exact .lst (.of h1) (all xs vs h2 (by simpa [PyData.canLay0] using c))
        | _ => simp [PyData.canLay0] at c
    | _ => simp [pdF, PyData.canLay0] at c
/-- the scalars that == tells apart at once -/
def skind : MV → Nat
  | .non => 0 | .bl _ => 1 | .int _ => 2 | .str _ => 4
  | _ => 100
@[simp] theorem sk_non : skind .non = 0 := rfl
@[simp] theorem sk_bl {b : Bool} : skind (.bl b) = 1 := rfl
@[simp] theorem sk_int {i : Int} : skind (.int i) = 2 := rfl
@[simp] theorem sk_str {x : Str} : skind (.str x) = 4 := rfl
@[simp] theorem sk_tup {x : List MV} : skind (.tup x) = 100 := rfl
@[simp] theorem sk_lst {x : List MV} : skind (.lst x) = 100 := rfl
@[simp] theorem sk_kls {x : List MV} : skind (.kls x) = 100 := rfl
@[simp] theorem sk_ref {n : Nat} : skind (.ref n) = 100 := rfl
@[simp] theorem sk_obj {c : Str} {f : List Str} {x : List MV} : skind (.obj c f x) = 100 := rfl
@[simp] theorem sk_dct {k : List Key} {x : List MV} : skind (.dct k x) = 100 := rfl
@[simp] theorem sk_dcT {k x : List MV} : skind (.dcT k x) = 100 := rfl
/-- all pairs of scalars but a bool beside an int -/
def scalM (a b : MV) : Bool := let n := skind a + skind b; Nat.blt n 10 && !(n == 3)
def seqM : MV → MV → Bool
  | .non, .non => true
  | .int i, .int j => decide (i = j)
  | .bl i, .bl j => decide (i = j)
  | .str i, .str j => decide (i = j)
  | _, _ => false
def eqB (S : Sto) (a b : MV) : Option Bool :=
  if scalM a b then some (seqM a b)
  else if SeqAt.shaped (pdF 8 S a) && SeqAt.shaped (pdF 8 S b) then some (PyData.eqv (pdF 8 S a) (pdF 8 S b)) else none
def eqM (a b : MV) (S : Sto) : R MV := match eqB S a b with
  | some k => .ok (.bl k) S
  | none => .stk
def neM (a b : MV) (S : Sto) : R MV := match eqB S a b with
  | some k => .ok (.bl (!k)) S
  | none => .stk
theorem scal_rep {C : RC} {a b : MV} {x y : V} (h : scalM a b = true) (ha : RepV C a x) (hb : RepV C b y) : scal x y = true ∧ seqM a b = decide (x = y) := by
  cases a <;> cases b <;> first
    | (simp [scalM, skind, Nat.blt] at h; done)
    | (first
        | rw [vNon ha] | rw [vBl ha] | rw [vInt ha] | rw [vStr ha]
       first
        | rw [vNon hb] | rw [vBl hb] | rw [vInt hb] | rw [vStr hb]
       refine ⟨rfl, ?_⟩
       simp [seqM])
section
variable {X : Cx}
theorem opM_eq (hu : X.A.units + 64 < cLine) : OpR X (compareOp .Eq) (rOf X eqM) := by
  intro pins s σ H x y v u Q I rx ry rof
  obtain ⟨C, S, d1, d2, rfl, hw, hK, r, h1, h2, a, S', e, q⟩ := rof
  unfold eqM at e
  cases eb : eqB S d1 d2 with
  | none => rw [eb] at e; cases e
  | some k =>
    rw [eb] at e; cases e
    unfold eqB at eb
    by_cases hs : scalM d1 d2 = true
    · rw [if_pos hs] at eb; cases eb
      obtain ⟨g1, g2⟩ := scal_rep hs h1 h2
      rw [g2] at q
      exact op_eq pins s σ C.H _ _ v u Q I rx ry ⟨g1, q C Grow.refl r _ (repB _)⟩
    · rw [if_neg hs] at eb
      split at eb
      · rename_i hh
        obtain ⟨z1, z2⟩ := Bool.and_eq_true_iff.mp hh
        cases eb
        refine op_eqD hu pins s σ C.H _ _ v u Q I rx ry ⟨_, _, by rw [← hK]; exact pdF_dp r 8 d1 x h1 (SeqAt.canLay_of_shaped z1), by rw [← hK]; exact pdF_dp r 8 d2 y h2 (SeqAt.canLay_of_shaped z2), z1, z2, q C Grow.refl r _ (repB _)⟩
      · cases eb
theorem opM_ne (hu : X.A.units + 64 < cLine) : OpR X (compareOp .NotEq) (rOf X neM) := by
  intro pins s σ H x y v u Q I rx ry rof
  obtain ⟨C, S, d1, d2, rfl, hw, hK, r, h1, h2, a, S', e, q⟩ := rof
  unfold neM at e
  cases eb : eqB S d1 d2 with
  | none => rw [eb] at e; cases e
  | some k =>
    rw [eb] at e; cases e
    unfold eqB at eb
    by_cases hs : scalM d1 d2 = true
    · rw [if_pos hs] at eb; cases eb
      obtain ⟨g1, g2⟩ := scal_rep hs h1 h2
      rw [g2] at q
      exact op_ne pins s σ C.H _ _ v u Q I rx ry ⟨g1, q C Grow.refl r _ (repB _)⟩
    · rw [if_neg hs] at eb
      split at eb
      · rename_i hh
        obtain ⟨z1, z2⟩ := Bool.and_eq_true_iff.mp hh
        cases eb
        refine op_neD hu pins s σ C.H _ _ v u Q I rx ry ⟨_, _, by rw [← hK]; exact pdF_dp r 8 d1 x h1 (SeqAt.canLay_of_shaped z1), by rw [← hK]; exact pdF_dp r 8 d2 y h2 (SeqAt.canLay_of_shaped z2), z1, z2, q C Grow.refl r _ (repB _)⟩
      · cases eb
/-- is None, is True .. -/
def isB : MV → MV → Option Bool
  | .bl a, .bl b => some (decide (a = b))
  | .non, .non => some true
  | .bl _, .non | .int _, .non | .str _, .non | .tup _, .non | .lst _, .non | .dct _ _, .non | .dcT _ _, .non | .obj _ _ _, .non | .ref _, .non => some false
  | .non, .bl _ => some false
  | _, _ => none
def isM (a b : MV) (S : Sto) : R MV := match isB a b with
  | some k => .ok (.bl k) S
  | none => .stk
def isnM (a b : MV) (S : Sto) : R MV := match isB a b with
  | some k => .ok (.bl (!k)) S
  | none => .stk
theorem isB_rep {C : RC} {a b : MV} {x y : V} {k : Bool} (h : isB a b = some k) (ha : RepV C a x) (hb : RepV C b y) : (y = .non ∧ k = decide (x = .non)) ∨ (∃ i j, x = .bl i ∧ y = .bl j ∧ k = decide (i = j)) ∨ ∃ j, x = .non ∧ y = .bl j ∧ k = false := by
  cases a <;> cases b <;> first
    | (simp [isB] at h; done)
    | (rw [vNon ha, vBl hb]; simp [isB] at h; exact .inr (.inr ⟨_, rfl, rfl, h⟩))
    | (rw [vBl ha, vBl hb]; simp [isB] at h; exact .inr (.inl ⟨_, _, rfl, rfl, h.symm⟩))
    | (refine .inl ⟨vNon hb, ?_⟩
       have h : some _ = some k := h
       cases h
       first
        | (rw [vNon ha]; simp; done)
        | (rw [vBl ha]; simp; done)
        | (rw [vInt ha]; simp; done)
        | (rw [vStr ha]; simp; done)
        | (rw [RepV] at ha
           obtain ⟨a, ha⟩ := ha
           first
            | (obtain ⟨vs, rfl, _⟩ := ha; simp; done)
            | (obtain ⟨rfl, _⟩ := ha; simp; done)
            | (obtain ⟨_, _, rfl, _⟩ := ha; simp; done)))
theorem opM_is : OpR X (compareOp .Is) (rOf X isM) := by
  intro pins s σ H x y v u Q I rx ry rof
  obtain ⟨C, S, d1, d2, rfl, hw, hK, r, h1, h2, a, S', e, q⟩ := rof
  unfold isM at e
  cases eb : isB d1 d2 with
  | none => rw [eb] at e; cases e
  | some k =>
    rw [eb] at e; cases e
    rcases isB_rep eb h1 h2 with ⟨rfl, rfl⟩ | ⟨i, j, rfl, rfl, rfl⟩ | ⟨j, rfl, rfl, rfl⟩
    · exact op_isN pins s σ C.H _ _ v u Q I rx ry ⟨rfl, q C Grow.refl r _ (repB _)⟩
    · exact op_isBl pins s σ C.H _ _ v u Q I rx ry ⟨i, j, rfl, rfl, q C Grow.refl r _ (repB _)⟩
    · cases rx; cases ry
      exact wpAny_is_other rfl (by intro z; cases z) ⟨.bl false, C.H, I, rfl, q C Grow.refl r _ (repB _)⟩
theorem opM_isn : OpR X (compareOp .IsNot) (rOf X isnM) := by
  intro pins s σ H x y v u Q I rx ry rof
  obtain ⟨C, S, d1, d2, rfl, hw, hK, r, h1, h2, a, S', e, q⟩ := rof
  unfold isnM at e
  cases eb : isB d1 d2 with
  | none => rw [eb] at e; cases e
  | some k =>
    rw [eb] at e; cases e
    rcases isB_rep eb h1 h2 with ⟨rfl, rfl⟩ | ⟨i, j, rfl, rfl, rfl⟩ | ⟨j, rfl, rfl, rfl⟩
    · exact op_notN pins s σ C.H _ _ v u Q I rx ry ⟨rfl, q C Grow.refl r _ (repB _)⟩
    · exact op_notBl pins s σ C.H _ _ v u Q I rx ry ⟨i, j, rfl, rfl, q C Grow.refl r _ (repB _)⟩
    · cases rx; cases ry
      exact wpAny_isNot_other rfl (by intro z; cases z) ⟨.bl true, C.H, I, rfl, q C Grow.refl r _ (repB _)⟩
/-- orders of ints -/
def cmpI (f : Int → Int → Bool) : MV → MV → Sto → R MV
  | .int i, .int j, S => .ok (.bl (f i j)) S
  | _, _, _ => .stk
theorem opM_int {op : CmpOp} {f : Int → Int → Bool} (ho : OpR X (compareOp op) (rI0 fun i j => .bl (f i j))) : OpR X (compareOp op) (rOf X (cmpI f)) := by
  intro pins s σ H x y v u Q I rx ry rof
  obtain ⟨C, S, d1, d2, rfl, hw, hK, r, h1, h2, a, S', e, q⟩ := rof
  unfold cmpI at e
  split at e
  · cases vInt h1; cases vInt h2; cases e
    exact ho pins s σ C.H _ _ v u Q I rx ry ⟨_, _, rfl, rfl, q C Grow.refl r _ (repB _)⟩
  · cases e
abbrev ltM := cmpI fun i j => decide (i < j)
abbrev leM := cmpI fun i j => decide (i ≤ j)
abbrev gtM := cmpI fun i j => decide (j < i)
abbrev geM := cmpI fun i j => decide (j ≤ i)
end
end Mi
set_option Elab.async false
set_option linter.all false
set_option maxRecDepth 100000
set_option maxHeartbeats 2000000
namespace Mi
open PySem PySem.Spec PyProof.Rows L2
def keyV : MV → Option Key
  | .int i => some (.inl i)
  | .str x => some (.inr x)
  | _ => none
theorem keyV_rep {C : RC} {d : MV} {v : V} {k : Key} (h : RepV C d v) (e : keyV d = some k) : v = kV k := by
  cases d with
  | int i => cases e; exact vInt h
  | str x => cases e; exact vStr h
  | _ => cases e
def dctOf (S : Sto) : MV → Option (List Key × List MV)
  | .dct ks vs => some (ks, vs)
  | .ref n => match S[n]? with
    | some (.dct ks vs) => some (ks, vs)
    | _ => none
  | _ => none
theorem dctOf_rep {C : RC} {S : Sto} {d : MV} {v : V} {ks : List Key} {ds : List MV} (r : RepS C S) (h : RepV C d v) (e : dctOf S d = some (ks, ds)) :
    ∃ a vs, v = .ref a ∧ Rd C.H a (.dK (ks.zip vs)) ∧ ks.length = vs.length ∧ ks.Nodup ∧ RepVs C ds vs := by
  cases d with
  | dct ks' ds' =>
    cases e
    rw [RepV] at h
    obtain ⟨a, vs, e, _, q, l, nd, t⟩ := h
    exact ⟨a, vs, e, q, l, nd, t⟩
  | ref n =>
    rw [RepV] at h
    obtain ⟨a, e1, e2⟩ := h
    rw [dctOf] at e
    cases q : S[n]? with
    | none => simp [q] at e
    | some o =>
      rw [q] at e
      cases o with
      | dct ks' ds' =>
        cases e
        obtain ⟨vs, h1, l, nd, h2⟩ := r.ob n _ a q e2
        exact ⟨a, vs, e1, .inl h1, l, nd, h2⟩
      | _ => cases e
  | _ => cases e
/-- what a dict holds -/
def dlook {κ : Type} [DecidableEq κ] : List κ → List MV → κ → Option MV
  | k' :: ks, v :: vs, k => if k' = k then some v else dlook ks vs k
  | _, _, _ => none
theorem dlook_rep {C : RC} {k : Key} : ∀ {ks : List Key} {ds : List MV} {vs : List V}, RepVs C ds vs →
    (∀ d, dlook ks ds k = some d → ∃ v, valV (ks.zip vs) k = some v ∧ RepV C d v) ∧ (dlook ks ds k = none → valV (ks.zip vs) k = none)
  | [], ds, vs, _ => ⟨fun d e => by simp [dlook] at e, fun _ => by simp [valV]⟩
  | k' :: ks, [], vs, t => by rw [t.nil_inv]; exact ⟨fun d e => by simp [dlook] at e, fun _ => by simp [valV]⟩
  | k' :: ks, d' :: ds, vs, t => by
    obtain ⟨v, vr, rfl, h1, h2⟩ := t.cons_inv
    rw [List.zip_cons_cons]
    by_cases e : k' = k
    · rw [valV_pos (p := (k', v)) e]
      simp only [dlook, if_pos e]
      exact ⟨fun d q => by cases q; exact ⟨v, rfl, h1⟩, fun q => by cases q⟩
    · rw [valV_neg (p := (k', v)) e]
      simp only [dlook, if_neg e]
      exact dlook_rep h2
def dsetV {κ : Type} [DecidableEq κ] : List κ → List MV → κ → MV → List MV
  | k' :: ks, v :: vs, k, d => (if k' = k then d else v) :: dsetV ks vs k d
  | _, vs, _, _ => vs
def dput {κ : Type} [DecidableEq κ] (ks : List κ) (vs : List MV) (k : κ) (d : MV) : List κ × List MV :=
  if k ∈ ks then (ks, dsetV ks vs k d) else (ks ++ [k], vs ++ [d])
def vsetV {κ : Type} [DecidableEq κ] : List κ → List V → κ → V → List V
  | k' :: ks, v :: vs, k, d => (if k' = k then d else v) :: vsetV ks vs k d
  | _, vs, _, _ => vs
theorem vsetV_len {κ : Type} [DecidableEq κ] (k : κ) (d : V) : ∀ (ks : List κ) (vs : List V), (vsetV ks vs k d).length = vs.length
  | [], vs => rfl
  | _ :: _, [] => rfl
  | k' :: ks, v :: vs => by simp [vsetV, vsetV_len k d ks vs]
theorem dsetV_rep {κ : Type} [DecidableEq κ] {C : RC} {k : κ} {d : MV} {v : V} (q : RepV C d v) : ∀ {ks : List κ} {ds : List MV} {vs : List V}, RepVs C ds vs → RepVs C (dsetV ks ds k d) (vsetV ks vs k v)
  | [], ds, vs, t => t
  | k' :: ks, [], vs, t => by rw [t.nil_inv]; exact .nil
  | k' :: ks, d' :: ds, vs, t => by
    obtain ⟨u, vr, rfl, h1, h2⟩ := t.cons_inv
    simp only [dsetV, vsetV]
    by_cases e : k' = k
    · rw [if_pos e, if_pos e]; exact .cons q (dsetV_rep q h2)
    · rw [if_neg e, if_neg e]; exact .cons h1 (dsetV_rep q h2)
theorem zip_map_set {κ : Type} [DecidableEq κ] (k : κ) (y : V) : ∀ (ks : List κ) (vs : List V), (ks.zip vs).map (fun kv => if kv.1 = k then (kv.1, y) else kv) = ks.zip (vsetV ks vs k y)
  | [], vs => by simp
  | k' :: ks, [] => by simp [vsetV]
  | k' :: ks, v :: vs => by
    rw [List.zip_cons_cons, List.map_cons, zip_map_set k y ks vs, vsetV, List.zip_cons_cons]
    by_cases e : k' = k
    · simp [e]
    · simp [e]
theorem any_zip {κ : Type} [DecidableEq κ] (k : κ) : ∀ (ks : List κ) (vs : List V), ks.length = vs.length → ((ks.zip vs).any fun kv => decide (kv.1 = k)) = decide (k ∈ ks)
  | [], vs, _ => by simp
  | k' :: ks, [], l => by simp at l
  | k' :: ks, v :: vs, l => by
    rw [List.zip_cons_cons, List.any_cons, any_zip k ks vs (by simpa using l)]
    by_cases e : k' = k
    · simp [e]
    · have e' : ¬ k = k' := fun z => e z.symm
      simp [e, e']
/-- the dict behind a store -/
theorem dput_rep {C : RC} {ks ks' : List Key} {ds ds' : List MV} {k : Key} {d : MV} {v : V} {vs : List V} (t : RepVs C ds vs) (l : ks.length = vs.length) (nd : ks.Nodup) (q : RepV C d v) (e : dput ks ds k d = (ks', ds')) :
    ∃ vs', putK (ks.zip vs) k v = ks'.zip vs' ∧ ks'.length = vs'.length ∧ ks'.Nodup ∧ RepVs C ds' vs' := by
  unfold dput at e
  unfold putK
  rw [any_zip k ks vs l]
  by_cases hm : k ∈ ks
  · rw [if_pos hm] at e; cases e
    rw [if_pos (by simp [hm])]
    exact ⟨vsetV ks vs k v, zip_map_set k v ks vs, by rw [vsetV_len]; exact l, nd, dsetV_rep q t⟩
  · rw [if_neg hm] at e; cases e
    rw [if_neg (by simp [hm])]
    refine ⟨vs ++ [v], ?_, by simp [l], ?_, t.append (.cons q .nil)⟩
    · rw [List.zip_append l]; simp
    · rw [List.nodup_append]
      refine ⟨nd, by simp, fun x hx y hy => ?_⟩
      have : y = k := by simpa using hy
      subst this
      intro z; subst z; exact hm hx
theorem dput_len {C : RC} {ks ks' : List Key} {ds ds' : List MV} {k : Key} {d : MV} (e : dput ks ds k d = (ks', ds')) : ks'.length ≤ ks.length + 1 := by
  unfold dput at e
  split at e
  · cases e; omega
  · cases e; simp
def idxD (d i : MV) (S : Sto) : R MV := match dctOf S d, keyV i with
  | some (ks, ds), some k => match dlook ks ds k with
    | some x => .ok x S
    | none => .stk
  | _, _ => .stk
def idxM (d i : MV) (S : Sto) : R MV := match seqOf S d with
  | some xs => match i with
    | .int k => match atI xs k with
      | some x => .ok x S
      | none => .stk
    | _ => .stk
  | none => idxD d i S
theorem atI_rep {C : RC} {ds : List MV} {vs : List V} {k : Int} {d : MV} (t : RepVs C ds vs) (e : atI ds k = some d) : ∃ v, atI vs k = some v ∧ RepV C d v := by
  unfold atI at e ⊢
  rw [← t.length]
  cases q : ixN ds.length k with
  | none => simp [q] at e
  | some j =>
    rw [q] at e
    obtain ⟨v, h1, h2⟩ := t.get (i := j) e
    exact ⟨v, h1, h2⟩
theorem idxM_cases {d i : MV} {S S' : Sto} {x : MV} (h : idxM d i S = .ok x S') : S' = S ∧ ((∃ xs k, seqOf S d = some xs ∧ i = .int k ∧ atI xs k = some x) ∨ ∃ ks ds k, dctOf S d = some (ks, ds) ∧ keyV i = some k ∧ dlook ks ds k = some x) := by
  unfold idxM at h
  cases hs : seqOf S d with
  | some xs =>
    rw [hs] at h
    cases i with
    | int k =>
      dsimp only at h
      cases q : atI xs k with
      | none => rw [q] at h; cases h
      | some y => rw [q] at h; cases h; exact ⟨rfl, .inl ⟨xs, k, rfl, rfl, q⟩⟩
    | _ => cases h
  | none =>
    rw [hs] at h
    dsimp only at h
    unfold idxD at h
    cases e1 : dctOf S d with
    | none => rw [e1] at h; cases h
    | some p =>
      obtain ⟨ks, ds⟩ := p
      cases e2 : keyV i with
      | none => rw [e1, e2] at h; cases h
      | some k =>
        rw [e1, e2] at h
        dsimp only at h
        cases q : dlook ks ds k with
        | none => rw [q] at h; cases h
        | some y => rw [q] at h; cases h; exact ⟨rfl, .inr ⟨ks, ds, k, rfl, rfl, q⟩⟩
section
variable {X : Cx}
theorem ixM (hu : X.A.units + 1 < cLine) : IxR X (rOf X idxM) := by
  intro value slice pins s σ H x y v u Q I rx ry rof hs
  obtain ⟨C, S, d1, d2, rfl, hw, hK, r, h1, h2, a, S', e, q⟩ := rof
  obtain ⟨rfl, ⟨xs, k, e1, rfl, e3⟩ | ⟨ks, ds, k, e1, e2, e3⟩⟩ := idxM_cases e
  · cases vInt h2
    obtain ⟨p, vs, rfl, sq, t⟩ := seqOf_rep r h1 e1
    obtain ⟨z, hz, rz⟩ := atI_rep t e3
    rw [hK] at sq
    rcases sq with sq | sq
    · exact ix_list value slice pins s σ C.H _ _ v u Q I rx ry ⟨p, vs, k, z, rfl, rfl, sq, hz, q C Grow.refl r z rz⟩ hs
    · exact ix_tup value slice pins s σ C.H _ _ v u Q I rx ry ⟨p, vs, k, z, rfl, rfl, sq, hz, q C Grow.refl r z rz⟩ hs
  · have ek := keyV_rep h2 e2
    subst ek
    obtain ⟨p, vs, rfl, rd, l, nd, t⟩ := dctOf_rep r h1 e1
    obtain ⟨z, hz, rz⟩ := (dlook_rep (ks := ks) t).1 a e3
    cases rx
    have g : DGet C.H p (kV k) (some z) := .inl ⟨_, k, rd, rfl, hz.symm⟩
    exact tail_any (dict_typeIs I g) PySem.F.slot_dict_getitem.lookup (d_getItem hu I g ry fun w' s' I' rw' => ⟨z, C.H, I', rw', q C Grow.refl r z rz⟩) hs
end
def cutM (xs : List MV) (lo hi : Option Int) : List MV := (xs.drop (HT.sIx xs.length 0 lo)).take (HT.sIx xs.length xs.length hi - HT.sIx xs.length 0 lo)
def slcM (d : MV) (lo hi : Option Int) (S : Sto) : R MV := match d with
  | .tup xs => .ok (.tup (cutM xs lo hi)) S
  | .str z => if z.length ≤ sizeLine then .ok (.str (cutS z lo hi)) S else .stk
  | d => match lstOf S d with
    | some xs => .ok (.lst (cutM xs lo hi)) S
    | none => .stk
def rSlM (X : Cx) : V → Option Int → Option Int → Hp → VK → Prop := fun x lo hi H Q => ∃ C S d, C.H = H ∧ C.w = X.w ∧ C.K = X.K ∧ RepS C S ∧ RepV C d x ∧ ∃ a S', slcM d lo hi S = .ok a S' ∧ ∀ C', Grow C C' → RepS C' S' → ∀ v, RepV C' a v → Q v C'.H
theorem cut_rep {C : RC} {ds : List MV} {vs : List V} (t : RepVs C ds vs) (lo hi : Option Int) : RepVs C (cutM ds lo hi) (cutV vs lo hi) := by
  unfold cutM cutV
  rw [← t.length]
  exact (t.drop _).take _
theorem cutM_all {xs : List MV} {lo hi : Option Int} (h : HT.sIx xs.length 0 lo = 0 ∧ HT.sIx xs.length xs.length hi = xs.length) : cutM xs lo hi = xs := by
  unfold cutM
  rw [h.1, h.2]; simp
theorem slM {X : Cx} : SlR X (rSlM X) := by
  intro pins s σ H x v vl vu lo hi sl Q I rx hs pl pu rof
  obtain ⟨C, S, d, rfl, hw, hK, r, h1, a, S', e, q⟩ := rof
  unfold slcM at e
  split at e
  · cases e
    have h0 := h1
    rw [RepV] at h1
    obtain ⟨p, vs, rfl, sq, t⟩ := h1
    rw [hK] at sq
    refine sl_tupA pins s σ C.H _ v vl vu lo hi sl Q I rx hs pl pu ⟨p, vs, rfl, sq, fun z => ?_, fun z => newTup r (cut_rep t lo hi) q⟩
    rw [← t.length] at z
    rw [cutM_all z] at q
    exact q C Grow.refl r _ h0
  · split at e
    · cases e
      cases vStr h1
      exact sl_str pins s σ C.H _ v vl vu lo hi sl Q I rx hs pl pu ⟨_, rfl, by assumption, q C Grow.refl r _ (repS _)⟩
    · cases e
  · cases el : lstOf S d with
    | none => rw [el] at e; cases e
    | some xs =>
      rw [el] at e; cases e
      obtain ⟨p, vs, rfl, sq, t⟩ := lstOf_rep r h1 el
      exact sl_list pins s σ C.H _ v vl vu lo hi sl Q I rx hs pl pu ⟨p, vs, rfl, .of sq, newLst r (cut_rep t lo hi) q⟩
def inB (S : Sto) (x c : MV) : Option Bool := match dctOf S c with
  | some (ks, ds) => match keyV x with
    | some k => some (dlook ks ds k).isSome
    | none => none
  | none => match pdF 8 S c with
    | .list ds => if SeqAt.shaped (pdF 8 S x) && SeqAt.shaped (.list ds) then some (ds.any fun z => PyData.eqv z (pdF 8 S x)) else none
    | .tuple ds => if SeqAt.shaped (pdF 8 S x) && SeqAt.shaped (.tuple ds) then some (ds.any fun z => PyData.eqv z (pdF 8 S x)) else none
    | _ => none
def inM (a b : MV) (S : Sto) : R MV := match inB S a b with
  | some k => .ok (.bl k) S
  | none => .stk
def ninM (a b : MV) (S : Sto) : R MV := match inB S a b with
  | some k => .ok (.bl (!k)) S
  | none => .stk
theorem room_in_shT {A : Around} {d : PyData} {ds : List PyData} (h : SeqAt.shaped d = true) (hu : A.units + 65 < cLine) : A.units + 1 + min (PyData.depthAll ds) d.depth < cLine := by
  have h1 := SeqAt.depth_of_shaped h
  have h2 : min (PyData.depthAll ds) d.depth ≤ d.depth := Nat.min_le_right _ _
  omega
section
variable {X : Cx}
theorem inB_rep {pins : List (Addr × Obj)} {s : Shared} {σ : L2.St} {C : RC} {S : Sto} {x y : V} {v u : Value} {d1 d2 : MV} {k : Bool} {Q1 Q2 : Value → Shared → Prop} (hu : X.A.units + 65 < cLine) (I : Inv X pins σ C.H s) (rx : RelV x v) (ry : RelV y u)
    (hK : C.K = X.K) (r : RepS C S) (h1 : RepV C d1 x) (h2 : RepV C d2 y) (e : inB S d1 d2 = some k) (q1 : ∀ s', Inv X pins σ C.H s' → Q1 (.bool k) s') (q2 : ∀ s', Inv X pins σ C.H s' → Q2 (.bool (!k)) s') :
    wpAny (model X.prog X.w) X.A (compareOp .In v u) Q1 X.xe s ∧ wpAny (model X.prog X.w) X.A (compareOp .NotIn v u) Q2 X.xe s := by
  unfold inB at e
  cases ed : dctOf S d2 with
  | some p =>
    obtain ⟨ks, ds⟩ := p
    rw [ed] at e
    dsimp only at e
    cases ek : keyV d1 with
    | none => rw [ek] at e; cases e
    | some key =>
      rw [ek] at e
      dsimp only at e
      have e' : (dlook ks ds key).isSome = k := Option.some.inj e
      have hv := keyV_rep h1 ek
      subst hv
      obtain ⟨p, vs, rfl, rd, l, nd, t⟩ := dctOf_rep r h2 ed
      cases ry
      have hk : (valV (ks.zip vs) key).isSome = k := by
        rw [← e']
        cases q : dlook ks ds key with
        | none => rw [(dlook_rep (ks := ks) t).2 q]; rfl
        | some d => obtain ⟨z, hz, _⟩ := (dlook_rep (ks := ks) t).1 d q; rw [hz]; rfl
      have g : DGet C.H p (kV key) (valV (ks.zip vs) key) := .inl ⟨_, key, rd, rfl, rfl⟩
      refine ⟨d_in (by omega) I g rx fun s' I' => ?_, d_notIn (by omega) I g rx fun s' I' => ?_⟩
      · rw [hk]; exact q1 s' I'
      · rw [hk]; exact q2 s' I'
  | none =>
    rw [ed] at e
    dsimp only at e
    cases ep : pdF 8 S d2 with
    | list ds =>
      rw [ep] at e
      dsimp only at e
      split at e
      · rename_i hh
        obtain ⟨z1, z2⟩ := Bool.and_eq_true_iff.mp hh
        have e' : (ds.any fun z => PyData.eqv z (pdF 8 S d1)) = k := Option.some.inj e
        have D1 := pdF_dp r 8 d1 x h1 (SeqAt.canLay_of_shaped z1)
        have D2 := pdF_dp r 8 d2 y h2 (by rw [ep]; exact SeqAt.canLay_of_shaped z2)
        rw [hK] at D1 D2
        rw [ep] at D2
        obtain ⟨as, r1⟩ := Dp.reads I _ x v D1 rx
        obtain ⟨bs, r2⟩ := Dp.reads I _ y u D2 ry
        have lay := SeqAt.canLay_of_shaped z2
        refine ⟨SeqAt.in_list_reads r2 r1 (by simpa [PyData.canLay0] using lay) (SeqAt.canLay_of_shaped z1) (room_in_shT z1 hu) (by rw [e']; exact q1 s I),
          SeqAt.notIn_list_reads r2 r1 (by simpa [PyData.canLay0] using lay) (SeqAt.canLay_of_shaped z1) (room_in_shT z1 hu) (by rw [e']; exact q2 s I)⟩
      · cases e
    | tuple ds =>
      rw [ep] at e
      dsimp only at e
      split at e
      · rename_i hh
        obtain ⟨z1, z2⟩ := Bool.and_eq_true_iff.mp hh
        have e' : (ds.any fun z => PyData.eqv z (pdF 8 S d1)) = k := Option.some.inj e
        have D1 := pdF_dp r 8 d1 x h1 (SeqAt.canLay_of_shaped z1)
        have D2 := pdF_dp r 8 d2 y h2 (by rw [ep]; exact SeqAt.canLay_of_shaped z2)
        rw [hK] at D1 D2
        rw [ep] at D2
        obtain ⟨as, r1⟩ := Dp.reads I _ x v D1 rx
        obtain ⟨bs, r2⟩ := Dp.reads I _ y u D2 ry
        have lay := SeqAt.canLay_of_shaped z2
        refine ⟨SeqAt.in_tuple_reads r2 r1 (by simpa [PyData.canLay0] using lay) (SeqAt.canLay_of_shaped z1) (room_in_shT z1 hu) (by rw [e']; exact q1 s I),
          SeqAt.notIn_tuple_reads r2 r1 (by simpa [PyData.canLay0] using lay) (SeqAt.canLay_of_shaped z1) (room_in_shT z1 hu) (by rw [e']; exact q2 s I)⟩
      · cases e
    | _ => rw [ep] at e; cases e
theorem opM_in (hu : X.A.units + 65 < cLine) : OpR X (compareOp .In) (rOf X inM) := by
  intro pins s σ H x y v u Q I rx ry rof
  obtain ⟨C, S, d1, d2, rfl, hw, hK, r, h1, h2, a, S', e, q⟩ := rof
  unfold inM at e
  cases eb : inB S d1 d2 with
  | none => rw [eb] at e; cases e
  | some k =>
    rw [eb] at e; cases e
    exact (inB_rep hu I rx ry hK r h1 h2 eb (fun s' I' => ⟨.bl _, C.H, I', rfl, q C Grow.refl r _ (repB _)⟩) (Q2 := fun _ _ => True) (fun s' I' => True.intro)).1
theorem opM_nin (hu : X.A.units + 65 < cLine) : OpR X (compareOp .NotIn) (rOf X ninM) := by
  intro pins s σ H x y v u Q I rx ry rof
  obtain ⟨C, S, d1, d2, rfl, hw, hK, r, h1, h2, a, S', e, q⟩ := rof
  unfold ninM at e
  cases eb : inB S d1 d2 with
  | none => rw [eb] at e; cases e
  | some k =>
    rw [eb] at e; cases e
    exact (inB_rep hu I rx ry hK r h1 h2 eb (Q1 := fun _ _ => True) (fun s' I' => True.intro) (fun s' I' => ⟨.bl _, C.H, I', rfl, q C Grow.refl r _ (repB _)⟩)).2
end
end Mi
set_option Elab.async false
set_option linter.all false
set_option maxRecDepth 100000
set_option maxHeartbeats 2000000
namespace Mi
open PySem PySem.Spec PyProof.Rows L2
/-- a call's reading -/
def rCf (X : Cx) (f : List MV → Sto → R MV) : List V → Hp → VK → Prop := fun vs H Q => ∃ C S ds, C.H = H ∧ C.w = X.w ∧ C.K = X.K ∧ RepS C S ∧ RepVs C ds vs ∧
  ∃ a S', f ds S = .ok a S' ∧ ∀ C', Grow C C' → RepS C' S' → ∀ v, RepV C' a v → Q v C'.H
theorem one_of {C : RC} {d : MV} {vs : List V} (t : RepVs C [d] vs) : ∃ v, vs = [v] ∧ RepV C d v := by
  obtain ⟨v, vr, rfl, h1, h2⟩ := t.cons_inv
  rw [h2.nil_inv]
  exact ⟨v, rfl, h1⟩
theorem two_of {C : RC} {d e : MV} {vs : List V} (t : RepVs C [d, e] vs) : ∃ v u, vs = [v, u] ∧ RepV C d v ∧ RepV C e u := by
  obtain ⟨v, vr, rfl, h1, h2⟩ := t.cons_inv
  obtain ⟨u, rfl, h3⟩ := one_of h2
  exact ⟨v, u, rfl, h1, h3⟩
def lenD (d : MV) (S : Sto) : R MV := match dctOf S d with
  | some (ks, _) => .ok (.int ks.length) S
  | none => match d with
    | .str x => if x.length ≤ sizeLine then .ok (.int x.length) S else .stk
    | _ => .stk
def lenM : List MV → Sto → R MV
  | [d], S => match seqOf S d with
    | some xs => .ok (.int xs.length) S
    | none => lenD d S
  | _, _ => .stk
section
variable {X : Cx}
theorem crM_len : CallR X (.builtin "len") (rCf X lenM) := by
  intro pins s σ H vs us Q I rv h
  obtain ⟨C, S, ds, rfl, hw, hK, r, t, a, S', e, q⟩ := h
  unfold lenM at e
  split at e
  · rename_i d
    obtain ⟨v, rfl, h1⟩ := one_of t
    cases hs : seqOf S d with
    | some xs =>
      rw [hs] at e; cases e
      obtain ⟨p, ws, rfl, sq, tt⟩ := seqOf_rep r h1 hs
      rw [hK] at sq
      have l := tt.length
      refine call_len pins s σ C.H _ us Q I rv ⟨.ref p, ws.length, rfl, ?_, ?_⟩
      · rcases sq with sq | sq
        · exact .inl ⟨ws, sq, rfl⟩
        · exact .inr ⟨ws, sq, rfl⟩
      · rw [← l]; exact q C Grow.refl r _ (repI _)
    | none =>
      rw [hs] at e
      dsimp only at e
      unfold lenD at e
      cases hd : dctOf S d with
      | some p =>
        obtain ⟨ks, es⟩ := p
        rw [hd] at e; cases e
        obtain ⟨p, ws, rfl, rd, l, nd, tt⟩ := dctOf_rep r h1 hd
        obtain ⟨u, rfl, ru⟩ := vals1 rv
        cases ru
        refine d_len I rd fun tk s' I' => ⟨.int ks.length, C.H, I', ⟨tk, ?_⟩, q C Grow.refl r _ (repI _)⟩
        simp [List.length_zip, l]
      | none =>
        rw [hd] at e
        dsimp only at e
        split at e
        · split at e
          · cases e
            cases vStr h1
            exact call_len pins s σ C.H _ us Q I rv ⟨_, _, rfl, ⟨by assumption, rfl⟩, q C Grow.refl r _ (repI _)⟩
          · cases e
        · cases e
  · cases e
def intM : List MV → Sto → R MV
  | [.int i], S => .ok (.int i) S
  | [.bl b], S => .ok (.int (if b then 1 else 0)) S
  | _, _ => .stk
theorem crM_int : CallR X (.type "int") (rCf X intM) := by
  intro pins s σ H vs us Q I rv h
  obtain ⟨C, S, ds, rfl, hw, hK, r, t, a, S', e, q⟩ := h
  unfold intM at e
  split at e
  · cases e
    obtain ⟨v, rfl, h1⟩ := one_of t
    cases vInt h1
    exact call_int1 pins s σ C.H _ us Q I rv (.inl ⟨_, rfl, q C Grow.refl r _ (repI _)⟩)
  · cases e
    obtain ⟨v, rfl, h1⟩ := one_of t
    cases vBl h1
    exact call_int1 pins s σ C.H _ us Q I rv (.inr ⟨_, rfl, q C Grow.refl r _ (repI _)⟩)
  · cases e
def tupM : List MV → Sto → R MV
  | [d], S => match seqOf S d with
    | some xs => .ok (.tup xs) S
    | none => .stk
  | _, _ => .stk
theorem crM_tuple : CallR X (.type "tuple") (rCf X tupM) := by
  intro pins s σ H vs us Q I rv h
  obtain ⟨C, S, ds, rfl, hw, hK, r, t, a, S', e, q⟩ := h
  unfold tupM at e
  split at e
  · rename_i d
    obtain ⟨v, rfl, h1⟩ := one_of t
    cases hs : seqOf S d with
    | some xs =>
      rw [hs] at e; cases e
      obtain ⟨p, ws, rfl, sq, tt⟩ := seqOf_rep r h1 hs
      refine call_tuple_of pins s σ C.H _ us Q I rv ⟨p, ws, rfl, ?_⟩
      rcases sq with sq | sq
      · exact .inl ⟨by rw [← hK]; exact sq, newTup r tt q⟩
      · exact .inr ⟨by rw [← hK]; exact sq, q C Grow.refl r _ (by rw [RepV]; exact ⟨p, ws, rfl, sq, tt⟩)⟩
    | none => rw [hs] at e; cases e
  · cases e
/-- list(x), not to be written | a cell -/
def lstM (fr : Bool) : List MV → Sto → R MV
  | [d], S => match seqOf S d with
    | some xs => if fr then .ok (.lst xs) S else .ok (.ref S.length) (S ++ [.lst xs])
    | none => .stk
  | _, _ => .stk
theorem crM_list (fr : Bool) : CallR X (.type "list") (rCf X (lstM fr)) := by
  intro pins s σ H vs us Q I rv h
  obtain ⟨C, S, ds, rfl, hw, hK, r, t, a, S', e, q⟩ := h
  unfold lstM at e
  split at e
  · rename_i d
    obtain ⟨v, rfl, h1⟩ := one_of t
    cases hs : seqOf S d with
    | some xs =>
      rw [hs] at e
      dsimp only at e
      obtain ⟨p, ws, rfl, sq, tt⟩ := seqOf_rep r h1 hs
      rw [hK] at sq
      refine call_list_of pins s σ C.H _ us Q I rv ⟨p, ws, rfl, sq, ?_⟩
      cases fr with
      | true => cases e; exact newLst r tt q
      | false => cases e; exact newCell r tt q
    | none => rw [hs] at e; cases e
  · cases e
def allBl : List MV → Option (List Bool)
  | [] => some []
  | .bl b :: r => (allBl r).map (b :: ·)
  | _ => none
theorem allBl_rep {C : RC} : ∀ {ds : List MV} {vs : List V} {bs : List Bool}, RepVs C ds vs → allBl ds = some bs → vs = bs.map V.bl
  | [], vs, bs, t, e => by rw [t.nil_inv]; cases e; rfl
  | d :: ds, vs, bs, t, e => by
    obtain ⟨v, vr, rfl, h1, h2⟩ := t.cons_inv
    cases d with
    | bl b =>
      rw [allBl] at e
      obtain ⟨bs', e1, rfl⟩ := Option.map_eq_some_iff.mp e
      rw [vBl h1, allBl_rep h2 e1]; rfl
    | _ => cases e
def allIn : List MV → Option (List Int)
  | [] => some []
  | .int b :: r => (allIn r).map (b :: ·)
  | _ => none
theorem allIn_rep {C : RC} : ∀ {ds : List MV} {vs : List V} {bs : List Int}, RepVs C ds vs → allIn ds = some bs → vs = bs.map V.int
  | [], vs, bs, t, e => by rw [t.nil_inv]; cases e; rfl
  | d :: ds, vs, bs, t, e => by
    obtain ⟨v, vr, rfl, h1, h2⟩ := t.cons_inv
    cases d with
    | int b =>
      rw [allIn] at e
      obtain ⟨bs', e1, rfl⟩ := Option.map_eq_some_iff.mp e
      rw [vInt h1, allIn_rep h2 e1]; rfl
    | _ => cases e
def overBl (f : List Bool → Bool) : List MV → Sto → R MV
  | [d], S => match lstOf S d with
    | some xs => match allBl xs with
      | some bs => .ok (.bl (f bs)) S
      | none => .stk
    | none => .stk
  | _, _ => .stk
abbrev anyM := overBl fun bs => bs.any id
abbrev allM := overBl fun bs => bs.all id
theorem overBl_of {f : List Bool → Bool} {C : RC} {S S' : Sto} {ds : List MV} {vs : List V} {a : MV} (r : RepS C S) (t : RepVs C ds vs) (e : overBl f ds S = .ok a S') :
    ∃ p bs, vs = [.ref p] ∧ SqL C.K C.H p (bs.map V.bl) ∧ a = .bl (f bs) ∧ S' = S := by
  unfold overBl at e
  split at e
  · rename_i d
    obtain ⟨v, rfl, h1⟩ := one_of t
    cases hs : lstOf S d with
    | none => rw [hs] at e; cases e
    | some xs =>
      rw [hs] at e
      dsimp only at e
      cases hb : allBl xs with
      | none => rw [hb] at e; cases e
      | some bs =>
        rw [hb] at e; cases e
        obtain ⟨p, ws, rfl, sq, tt⟩ := lstOf_rep r h1 hs
        rw [allBl_rep tt hb] at sq
        exact ⟨p, bs, rfl, .of sq, rfl, rfl⟩
  · cases e
theorem crM_any (hc : X.calm = true) : CallR X (.builtin "any") (rCf X anyM) := by
  intro pins s σ H vs us Q I rv h
  obtain ⟨C, S, ds, rfl, hw, hK, r, t, a, S', e, q⟩ := h
  obtain ⟨p, bs, rfl, sq, rfl, rfl⟩ := overBl_of r t e
  rw [hK] at sq
  exact cr_any hc pins s σ C.H _ us Q I rv ⟨p, bs, rfl, sq, q C Grow.refl r _ (repB _)⟩
theorem crM_all (hc : X.calm = true) : CallR X (.builtin "all") (rCf X allM) := by
  intro pins s σ H vs us Q I rv h
  obtain ⟨C, S, ds, rfl, hw, hK, r, t, a, S', e, q⟩ := h
  obtain ⟨p, bs, rfl, sq, rfl, rfl⟩ := overBl_of r t e
  rw [hK] at sq
  exact cr_all hc pins s σ C.H _ us Q I rv ⟨p, bs, rfl, sq, q C Grow.refl r _ (repB _)⟩
def sumM : List MV → Sto → R MV
  | [d], S => match lstOf S d with
    | some xs => match allIn xs with
      | some bs => .ok (.int bs.sum) S
      | none => .stk
    | none => .stk
  | _, _ => .stk
theorem crM_sum (hc : X.calm = true) : CallR X (.builtin "sum") (rCf X sumM) := by
  intro pins s σ H vs us Q I rv h
  obtain ⟨C, S, ds, rfl, hw, hK, r, t, a, S', e, q⟩ := h
  unfold sumM at e
  split at e
  · rename_i d
    obtain ⟨v, rfl, h1⟩ := one_of t
    cases hs : lstOf S d with
    | none => rw [hs] at e; cases e
    | some xs =>
      rw [hs] at e
      dsimp only at e
      cases hb : allIn xs with
      | none => rw [hb] at e; cases e
      | some bs =>
        rw [hb] at e; cases e
        obtain ⟨p, ws, rfl, sq, tt⟩ := lstOf_rep r h1 hs
        rw [allIn_rep tt hb] at sq
        exact cr_sum hc pins s σ C.H _ us Q I rv ⟨p, bs, rfl, .of sq, q C Grow.refl r _ (repI _)⟩
  · cases e
def strM : List MV → Sto → R MV
  | [.int i], S => if i.natAbs < 1000000000 then .ok (.str (toString i)) S else .stk
  | [.str x], S => .ok (.str x) S
  | _, _ => .stk
def tyN (S : Sto) : MV → Option String
  | .non => some "NoneType"
  | .bl _ => some "bool"
  | .int _ => some "int"
  | .str _ => some "str"
  | .tup _ => some "tuple"
  | .lst _ => some "list"
  | .dct _ _ => some "dict"
  | .ref n => match S[n]? with
    | some (.dct _ _) => some "dict"
    | some (MO.lst _) => some "list"
    | _ => none
  | _ => none
def isiB (S : Sto) (d : MV) (t : String) : Option Bool := match tyN S d with
  | some n => kitB n t
  | none => none
theorem tyN_rep {C : RC} {S : Sto} {d : MV} {v : V} {n : String} (r : RepS C S) (h : RepV C d v) (e : tyN S d = some n) : TyX C.K C.H v (.type n) := by
  cases d with
  | non => cases e; rw [vNon h]; exact .base .non
  | bl b => cases e; rw [vBl h]; exact .base (.bl b)
  | int i => cases e; rw [vInt h]; exact .base (.int i)
  | str x => cases e; rw [vStr h]; exact .base (.str x)
  | tup xs =>
    cases e
    rw [RepV] at h
    obtain ⟨a, vs, rfl, q, t⟩ := h
    rcases q with (q | ⟨o, q⟩) | ⟨o, its, n, q1, q2, _⟩
    · exact .base (.tup q)
    · exact .fTuple q
    · exact .kTuple q1 q2
  | lst xs =>
    cases e
    rw [RepV] at h
    obtain ⟨a, vs, rfl, _, q, t⟩ := h
    exact .base (.lst q)
  | dct ks ds =>
    cases e
    rw [RepV] at h
    obtain ⟨a, vs, rfl, _, q, _⟩ := h
    rcases q with q | ⟨o, q⟩
    · exact .base (.dK q)
    · exact .fDict q
  | ref k =>
    rw [RepV] at h
    obtain ⟨a, rfl, q⟩ := h
    rw [tyN] at e
    cases es : S[k]? with
    | none => rw [es] at e; cases e
    | some o =>
      rw [es] at e
      cases o with
      | lst xs => cases e; obtain ⟨vs, h1, _⟩ := r.ob k _ a es q; exact .base (.lst h1)
      | dct ks ds => cases e; obtain ⟨vs, h1, _⟩ := r.ob k _ a es q; exact .base (.dK h1)
      | _ => cases e
  | _ => cases e
def isiM (t : String) : List MV → Sto → R MV
  | [d], S => match isiB S d t with
    | some b => .ok (.bl b) S
    | none => .stk
  | _, _ => .stk
end
end Mi
set_option Elab.async false
set_option linter.all false
set_option maxRecDepth 100000
set_option maxHeartbeats 2000000
namespace Mi
open PySem PySem.Spec PyProof.Rows L2
abbrev ME := Ev → Sto → R MV
abbrev MT := Ev → Sto → R Bool
abbrev MA := Ev → Sto → R (List MV)
abbrev SE (X : Cx) (W : WX) (e : Expr) (m : ME) : Prop := PE X e (tE X W m)
abbrev ST (X : Cx) (W : WX) (e : Expr) (m : MT) : Prop := PT X e (tT X W m)
abbrev SW (X : Cx) (W : WX) (e : Expr) (m : MT) : Prop := PW X e (tT X W m)
abbrev SA (X : Cx) (W : WX) (es : List Expr) (m : MA) : Prop := PA X es (tA X W m)
def mVar (i : Nat) : ME := fun ρ S => match ρ[i]? with
  | some (some d) => .ok d S
  | _ => .stk
def mC (d : MV) : ME := fun _ S => .ok d S
def mOp (f : MV → MV → Sto → R MV) (a b : ME) : ME := fun ρ S => (a ρ S).bind fun x S1 => (b ρ S1).bind fun y S2 => f x y S2
def toB (d : MV) (S : Sto) : R Bool := match d with
  | .bl b => .ok b S
  | _ => .stk
def mTest (a : ME) : MT := fun ρ S => (a ρ S).bind toB
def mChain (f g : MV → MV → Sto → R MV) (a b c : ME) : ME := fun ρ S => (a ρ S).bind fun x S1 => (b ρ S1).bind fun y S2 => (f x y S2).bind fun z S3 => (toB z S3).bind fun k S4 =>
  if k then (c ρ S4).bind fun u S5 => g y u S5 else .ok (.bl false) S4
def mNot (a : MT) : MT := fun ρ S => (a ρ S).bind fun b S1 => .ok (!b) S1
def mAnd (a b : MT) : MT := fun ρ S => (a ρ S).bind fun x S1 => if x then b ρ S1 else .ok false S1
def mOr (a b : MT) : MT := fun ρ S => (a ρ S).bind fun x S1 => if x then .ok true S1 else b ρ S1
def mAndV (a b : ME) : ME := fun ρ S => (mTest a ρ S).bind fun x S1 => if x then b ρ S1 else .ok (.bl false) S1
def mOrV (a b : ME) : ME := fun ρ S => (mTest a ρ S).bind fun x S1 => if x then .ok (.bl true) S1 else b ρ S1
def mNotV (a : ME) : ME := fun ρ S => (mTest a ρ S).bind fun x S1 => .ok (.bl (!x)) S1
def mIf (c : MT) (a b : ME) : ME := fun ρ S => (c ρ S).bind fun x S1 => if x then a ρ S1 else b ρ S1
def mNil : MA := fun _ S => .ok [] S
def mCons (a : ME) (r : MA) : MA := fun ρ S => (a ρ S).bind fun x S1 => (r ρ S1).bind fun xs S2 => .ok (x :: xs) S2
def mTup (a : MA) : ME := fun ρ S => (a ρ S).bind fun xs S1 => .ok (.tup xs) S1
def mLst (a : MA) : ME := fun ρ S => (a ρ S).bind fun xs S1 => .ok (.lst xs) S1
def mCell (a : MA) : ME := fun ρ S => (a ρ S).bind fun xs S1 => .ok (.ref S1.length) (S1 ++ [.lst xs])
def mCallF (f : List MV → Sto → R MV) (a : MA) : ME := fun ρ S => (a ρ S).bind f
section
variable {X : Cx} {W : WX} {a b c e : Expr} {es : List Expr} {ma mb mc : ME} {mt mu : MT} {mas : MA} {pos : Pos}
theorem se_var {i : Nat} {x : Str} (hN : X.N[i]? = some x) (hv : Vis X.env.scope x) (hd : (x == ("__debug__" : Str)) = false := by decide) (hcd : (x == ("__classdict__" : Str)) = false := by decide) : SE X W (.Name x pos) (mVar i) :=
  (pe_var hN hv hd hcd).imp fun σ H Q ⟨C, ρ, S, e, s, q⟩ => by
    subst e
    unfold mVar at q
    split at q
    · rename_i d hd
      obtain ⟨v, e1, r⟩ := s.ev i d hd
      exact ⟨v, e1, q.now s.rs v r⟩
    · exact q.elim
theorem se_c {v : V} {d : MV} (h : PE X e (tC v)) (r : ∀ C : RC, C.K = X.K → RepV C d v) : SE X W e (mC d) :=
  h.imp fun σ H Q ⟨C, ρ, S, e, s, q⟩ => by
    subst e
    exact q.now s.rs v (r C s.K)
theorem se_int {i : Int} {j} : SE X W (.Constant (.int i) j pos) (mC (.int i)) := se_c pe_int fun _ _ => repI i
theorem se_bl {i : Bool} {j} : SE X W (.Constant (.bool i) j pos) (mC (.bl i)) := se_c pe_bl fun _ _ => repB i
theorem se_str {i : Str} {j} : SE X W (.Constant (.str i) j pos) (mC (.str i)) := se_c pe_str fun _ _ => repS i
theorem se_non {j} : SE X W (.Constant .none j pos) (mC .non) := se_c pe_non fun _ _ => repN
/-- a module's constant -/
theorem se_glob {x : Str} {v : V} {u : Value} {d : MV} (hg : Gl X x) (hm : X.mg x = some u) (r : RelV v u) (q : ∀ C : RC, C.K = X.K → RepV C d v) (hd : (x == ("__debug__" : Str)) = false := by decide) : SE X W (.Name x pos) (mC d) :=
  se_c (pe_glob hg hm r hd) q
/-- a two-place reading over two subreadings -/
theorem op_imp {f : MV → MV → Sto → R MV} {σ : L2.St} {H : Hp} {Q : VK} (hf : ∀ d1 d2 S c d S', f d1 d2 S ≠ .exc c d S') (h : tE X W (mOp f ma mb) σ H Q) : tOp (rOf X f) (tE X W ma) (tE X W mb) σ H Q := by
  obtain ⟨C, ρ, S, e, s, q⟩ := h
  subst e
  refine tE.bind s q fun d1 S1 C1 v1 s1 g1 r1 q1 => ?_
  refine tE.bind s1 q1 fun d2 S2 C2 v2 s2 g2 r2 q2 => ?_
  refine ⟨C2, S2, d1, d2, rfl, s2.w, s2.K, s2.rs, r1.grow g2 s1.rs, r2, ?_⟩
  cases e : f d1 d2 S2 with
  | ok a S' =>
    rw [e] at q2
    exact ⟨a, S', rfl, q2⟩
  | exc c d S' => exact absurd e (hf _ _ _ _ _ _)
  | stk => rw [e] at q2; exact q2.elim
/-- no exception -/
def Pure2 (f : MV → MV → Sto → R MV) : Prop := ∀ d1 d2 S c d S', f d1 d2 S ≠ .exc c d S'
theorem se_op {op : Operator} {f : MV → MV → Sto → R MV} (ho : OpR X (binaryOp op) (rOf X f)) (hf : Pure2 f) (ha : SE X W a ma) (hb : SE X W b mb) : SE X W (.BinOp a op b pos) (mOp f ma mb) :=
  (pe_op ho ha hb).imp fun σ H Q h => op_imp hf h
theorem se_cmp {op : CmpOp} {f : MV → MV → Sto → R MV} (ho : OpR X (compareOp op) (rOf X f)) (hf : Pure2 f) (hm : behindInMarks op b = false) (ha : SE X W a ma) (hb : SE X W b mb) : SE X W (.Compare a [op] [b] pos) (mOp f ma mb) :=
  (pe_cmpR ho ha hb hm).imp fun σ H Q h => op_imp hf h
/-- a test by its value -/
theorem tTest_imp {t : TE} {m : ME} (k : ∀ σ H Q, tE X W m σ H Q → t σ H Q) : ∀ σ H Q, tT X W (mTest m) σ H Q → tTest t σ H Q := fun σ H Q h => by
  obtain ⟨C, ρ, S, e, s, q⟩ := h
  subst e
  refine k σ C.H _ (tE.bind s q fun d1 S1 C1 v1 s1 g1 r1 q1 => ?_)
  unfold toB at q1
  split at q1
  · exact ⟨_, vBl r1, q1.now s1.rs⟩
  · exact q1.elim
theorem st_cmp {op : CmpOp} {f : MV → MV → Sto → R MV} (ho : OpR X (compareOp op) (rOf X f)) (hf : Pure2 f) (hm : behindInMarks op b = false) (ha : SE X W a ma) (hb : SE X W b mb) : ST X W (.Compare a [op] [b] pos) (mTest (mOp f ma mb)) :=
  (pt_cmpR ho ha hb hm).imp (tTest_imp fun σ H Q h => op_imp hf h)
theorem st_val (h : SE X W e ma) (he : ∀ whole, isTrue e X.env whole = (do let v ← whole; standAt e.pos; holding [v] (truthy v)) := by intro _; rfl) : ST X W e (mTest ma) :=
  (pt_val h he).imp (tTest_imp fun σ H Q h => h)
theorem chain_imp {f g : MV → MV → Sto → R MV} {σ : L2.St} {H : Hp} {Q : VK} (hf : Pure2 f) (hg : Pure2 g) (h : tE X W (mChain f g ma mb mc) σ H Q) : tChain (rOf X f) (rOf X g) (tE X W ma) (tE X W mb) (tE X W mc) σ H Q := by
  obtain ⟨C, ρ, S, e, s, q⟩ := h
  subst e
  refine tE.bind s q fun d1 S1 C1 v1 s1 g1 r1 q1 => ?_
  refine tE.bind s1 q1 fun d2 S2 C2 v2 s2 g2 r2 q2 => ?_
  refine ⟨C2, S2, d1, d2, rfl, s2.w, s2.K, s2.rs, r1.grow g2 s1.rs, r2, ?_⟩
  cases e : f d1 d2 S2 with
  | exc c d S' => exact absurd e (hf _ _ _ _ _ _)
  | stk => rw [e] at q2; exact q2.elim
  | ok z S' =>
    rw [e] at q2
    refine ⟨z, S', rfl, fun C3 g3 rs3 v rv => ?_⟩
    have q3 : Wants W σ C2 ((toB z S').bind fun k S4 => if k then (mc ρ S4).bind fun u S5 => g d2 u S5 else .ok (.bl false) S4) _ := q2
    unfold toB at q3
    split at q3
    · rename_i k
      refine ⟨k, vBl rv, ?_⟩
      have s3 := s2.grow g3 rs3
      rw [R.bind_ok] at q3
      cases k with
      | true =>
        have q4 : Wants W σ C3 ((mc ρ S').bind fun u S5 => g d2 u S5) (fun d _ C' => ∀ v, RepV C' d v → Q v C'.H) := by
          revert q3
          rw [if_pos rfl]
          cases ((mc ρ S').bind fun u S5 => g d2 u S5) with
          | ok b S2 => exact fun h C2 g2 r2 => h C2 (g3.trans g2) r2
          | exc c d S2 => exact fun h C2 cls dx g2 r2 e => h C2 cls dx (g3.trans g2) r2 e
          | stk => exact fun h => h
        rw [if_pos rfl]
        refine tE.bind s3 q4 fun d3 S4 C4 v3 s4 g4 r3 q5 => ?_
        refine ⟨C4, S4, d2, d3, rfl, s4.w, s4.K, s4.rs, (r2.grow g3 s2.rs).grow g4 s3.rs, r3, ?_⟩
        cases e : g d2 d3 S4 with
        | ok a S' =>
          rw [e] at q5
          exact ⟨a, S', rfl, q5⟩
        | exc c d S' => exact absurd e (hg _ _ _ _ _ _)
        | stk => rw [e] at q5; exact q5.elim
      | false =>
        rw [if_neg (by decide)] at q3 ⊢
        exact q3.here g3 rs3 _ (repB _)
    · exact q3.elim
theorem se_chain {op op' : CmpOp} {f g : MV → MV → Sto → R MV} (ho : OpR X (compareOp op) (rOf X f)) (hf : Pure2 f) (ho' : OpR X (compareOp op') (rOf X g)) (hg : Pure2 g) (ha : SE X W a ma) (hb : SE X W b mb) (hc : SE X W c mc)
    (hm : lastMarks [op, op'] [b, c] = false := by with_unfolding_all rfl) : SE X W (.Compare a [op, op'] [b, c] pos) (mChain f g ma mb mc) := (pe_chain ho ho' ha hb hc hm).imp fun σ H Q h => chain_imp hf hg h
theorem st_chain {op op' : CmpOp} {f g : MV → MV → Sto → R MV} (ho : OpR X (compareOp op) (rOf X f)) (hf : Pure2 f) (ho' : OpR X (compareOp op') (rOf X g)) (hg : Pure2 g) (ha : SE X W a ma) (hb : SE X W b mb) (hc : SE X W c mc)
    (hm : lastMarks [op, op'] [b, c] = false := by with_unfolding_all rfl) : ST X W (.Compare a [op, op'] [b, c] pos) (mTest (mChain f g ma mb mc)) := (pt_chain ho ho' ha hb hc hm).imp (tTest_imp fun σ H Q h => chain_imp hf hg h)
theorem st_not (ha : ST X W a mt) : ST X W (.UnaryOp .Not a pos) (mNot mt) :=
  (pt_not ha).imp fun σ H Q ⟨C, ρ, S, e, s, q⟩ => by
    subst e
    exact tT.bind s q fun d S1 C1 s1 g1 q1 => q1.now s1.rs
variable {rest : List Expr}
theorem sw_and1 (ha : ST X W a mt) : SW X W (.BoolOp .And [a] pos) mt := pw_and1 ha
theorem sw_or1 (ha : ST X W a mt) : SW X W (.BoolOp .Or [a] pos) mt := pw_or1 ha
theorem sw_and (ha : ST X W a mt) (hb : SW X W (.BoolOp .And (b :: rest) pos) mu) : SW X W (.BoolOp .And (a :: b :: rest) pos) (mAnd mt mu) :=
  (pw_and ha hb).imp fun σ H Q ⟨C, ρ, S, e, s, q⟩ => by
    subst e
    refine tT.bind s q fun d S1 C1 s1 g1 q1 => ?_
    cases d with
    | true => rw [if_pos rfl] at q1 ⊢; exact ⟨C1, ρ, S1, rfl, s1, q1⟩
    | false => rw [if_neg (by decide)] at q1 ⊢; exact q1.now s1.rs
theorem sw_or (ha : ST X W a mt) (hb : SW X W (.BoolOp .Or (b :: rest) pos) mu) : SW X W (.BoolOp .Or (a :: b :: rest) pos) (mOr mt mu) :=
  (pw_or ha hb).imp fun σ H Q ⟨C, ρ, S, e, s, q⟩ => by
    subst e
    refine tT.bind s q fun d S1 C1 s1 g1 q1 => ?_
    cases d with
    | false => rw [if_neg (by decide)] at q1 ⊢; exact ⟨C1, ρ, S1, rfl, s1, q1⟩
    | true => rw [if_pos rfl] at q1 ⊢; exact q1.now s1.rs
theorem st_w (h : SW X W e mt) : ST X W e mt := h.pt
theorem se_one {op} (h : SE X W a ma) : SE X W (.BoolOp op [a] pos) ma := pe_one h
theorem tB_step {C : RC} {ρ : Ev} {S : Sto} {σ : L2.St} {β : Type} {f : Bool → Sto → R β} {Q : β → Sto → RC → Prop} {Q1 : VK} (s : Sv X ρ σ S C) (h : Wants W σ C ((mTest ma ρ S).bind f) Q)
    (k : ∀ b S1 C1, Sv X ρ σ S1 C1 → Grow C C1 → Wants W σ C1 (f b S1) Q → Q1 (.bl b) C1.H) : tE X W ma σ C.H Q1 := by
  have h' : Wants W σ C ((ma ρ S).bind fun d S1 => (toB d S1).bind f) Q := by
    unfold mTest at h
    cases e : ma ρ S with
    | ok a S' => rw [e] at h; exact h
    | exc c d S' => rw [e] at h; exact h
    | stk => rw [e] at h; exact h
  refine tE.bind s h' fun d S1 C1 v s1 g r q => ?_
  unfold toB at q
  split at q
  · rw [vBl r]
    exact k _ S1 C1 s1 g q
  · exact q.elim
theorem se_and (ha : SE X W a ma) (hb : SE X W (.BoolOp .And (b :: rest) pos) mb) : SE X W (.BoolOp .And (a :: b :: rest) pos) (mAndV ma mb) :=
  (pe_and ha hb).imp fun σ H Q ⟨C, ρ, S, e, s, q⟩ => by
    subst e
    refine tB_step s q fun d S1 C1 s1 g1 q1 => ⟨d, rfl, ?_⟩
    cases d with
    | true => rw [if_pos rfl] at q1 ⊢; exact ⟨C1, ρ, S1, rfl, s1, q1⟩
    | false => rw [if_neg (by decide)] at q1 ⊢; exact q1.now s1.rs _ (repB _)
theorem se_or (ha : SE X W a ma) (hb : SE X W (.BoolOp .Or (b :: rest) pos) mb) : SE X W (.BoolOp .Or (a :: b :: rest) pos) (mOrV ma mb) :=
  (pe_or ha hb).imp fun σ H Q ⟨C, ρ, S, e, s, q⟩ => by
    subst e
    refine tB_step s q fun d S1 C1 s1 g1 q1 => ⟨d, rfl, ?_⟩
    cases d with
    | false => rw [if_neg (by decide)] at q1 ⊢; exact ⟨C1, ρ, S1, rfl, s1, q1⟩
    | true => rw [if_pos rfl] at q1 ⊢; exact q1.now s1.rs _ (repB _)
theorem se_not (ha : SE X W a ma) : SE X W (.UnaryOp .Not a pos) (mNotV ma) :=
  (pe_not ha).imp fun σ H Q ⟨C, ρ, S, e, s, q⟩ => by
    subst e
    exact tB_step s q fun d S1 C1 s1 g1 q1 => ⟨d, rfl, q1.now s1.rs _ (repB _)⟩
theorem sa_nil : SA X W [] mNil := pa_nil.imp fun σ H Q ⟨C, ρ, S, e, s, q⟩ => by
  subst e
  exact q.now s.rs [] .nil
theorem sa_cons (ha : SE X W e ma) (hr : SA X W es mas) (hs : starEach (e :: es) X.env = (false, eval e X.env) :: starEach es X.env := by rfl) : SA X W (e :: es) (mCons ma mas) :=
  (pa_cons ha hr hs).imp fun σ H Q ⟨C, ρ, S, e, s, q⟩ => by
    subst e
    refine tE.bind s q fun d1 S1 C1 v1 s1 g1 r1 q1 => ?_
    refine tA.bind s1 q1 fun d2 S2 C2 v2 s2 g2 r2 q2 => ?_
    exact q2.now s2.rs _ (.cons (r1.grow g2 s1.rs) r2)
/-- how many -/
def LenA (m : MA) (n : Nat) : Prop := ∀ ρ S ds S', m ρ S = .ok ds S' → ds.length = n
theorem lenNil : LenA mNil 0 := fun ρ S ds S' e => by cases e; rfl
theorem R.bind_ok' {α β : Type} {r : R α} {f : α → Sto → R β} {b : β} {S' : Sto} (h : r.bind f = .ok b S') : ∃ a S1, r = .ok a S1 ∧ f a S1 = .ok b S' := by
  cases r with
  | ok a S => exact ⟨a, S, rfl, h⟩
  | exc c d S => cases h
  | stk => cases h
theorem lenCons {n : Nat} (h : LenA mas n) : LenA (mCons ma mas) (n + 1) := fun ρ S ds S' e => by
  obtain ⟨x, S1, _, e⟩ := R.bind_ok' e
  obtain ⟨xs, S2, e2, e⟩ := R.bind_ok' e
  cases e
  rw [List.length_cons, h _ _ _ _ e2]
theorem se_tup {x1} {n : Nat} (h : SA X W es mas) (hl : LenA mas n) (hn : n ≤ 1000) : SE X W (.Tuple es x1 pos) (mTup mas) :=
  (pe_tup h).imp fun σ H Q ⟨C, ρ, S, e, s, q⟩ => by
    subst e
    refine ⟨C, ρ, S, rfl, s, ?_⟩
    refine Wants.mono (Wants.bind q) fun ds S1 C1 g r1 e1 q1 vs rv => ?_
    have hn' : vs.length ≤ sizeLine := by rw [← rv.length, hl _ _ _ _ e1, sizeLine_eq]; omega
    exact ⟨hn', newTup r1 rv fun C' g' r' v rv' => q1.1.here g' r' v rv'⟩
theorem se_lst {n : Nat} (h : SA X W es mas) (hl : LenA mas n) (hn : n ≤ 1000) : SE X W (.List es pos) (mLst mas) :=
  (pe_lst h).imp fun σ H Q ⟨C, ρ, S, e, s, q⟩ => by
    subst e
    refine ⟨C, ρ, S, rfl, s, ?_⟩
    refine Wants.mono (Wants.bind q) fun ds S1 C1 g r1 e1 q1 vs rv => ?_
    have hn' : vs.length ≤ sizeLine := by rw [← rv.length, hl _ _ _ _ e1, sizeLine_eq]; omega
    exact ⟨hn', newLst r1 rv fun C' g' r' v rv' => q1.1.here g' r' v rv'⟩
theorem se_cell {n : Nat} (h : SA X W es mas) (hl : LenA mas n) (hn : n ≤ 1000) : SE X W (.List es pos) (mCell mas) :=
  (pe_lst h).imp fun σ H Q ⟨C, ρ, S, e, s, q⟩ => by
    subst e
    refine ⟨C, ρ, S, rfl, s, ?_⟩
    refine Wants.mono (Wants.bind q) fun ds S1 C1 g r1 e1 q1 vs rv => ?_
    have hn' : vs.length ≤ sizeLine := by rw [← rv.length, hl _ _ _ _ e1, sizeLine_eq]; omega
    exact ⟨hn', newCell r1 rv fun C' g' r' v rv' => q1.1.here g' r' v rv'⟩
theorem se_ix (hu : X.A.units + 1 < cLine) (hs : PlainIx b) (ha : SE X W a ma) (hb : SE X W b mb) (hf : Pure2 idxM) : SE X W (.Subscript a b pos) (mOp idxM ma mb) :=
  (pe_ix (ixM hu) ha hb hs).imp fun σ H Q h => op_imp hf h
theorem cf_imp {f : List MV → Sto → R MV} {σ : L2.St} {H : Hp} {Q : VK} (hf : ∀ ds S c d S', f ds S ≠ .exc c d S') (h : tE X W (mCallF f mas) σ H Q) : tCB (rCf X f) (tA X W mas) σ H Q := by
  obtain ⟨C, ρ, S, e, s, q⟩ := h
  subst e
  refine tA.bind s q fun ds S1 C1 vs s1 g1 r1 q1 => ?_
  refine ⟨C1, S1, ds, rfl, s1.w, s1.K, s1.rs, r1, ?_⟩
  cases e : f ds S1 with
  | ok a S' =>
    rw [e] at q1
    exact ⟨a, S', rfl, q1⟩
  | exc c d S' => exact absurd e (hf _ _ _ _ _)
  | stk => rw [e] at q1; exact q1.elim
def Pure1 (f : List MV → Sto → R MV) : Prop := ∀ ds S c d S', f ds S ≠ .exc c d S'
theorem se_callB {x : Str} {id : String} {p : Pos} {f : List MV → Sto → R MV} (hc : CallR X (.builtin id) (rCf X f)) (hf : Pure1 f) (hg : Gl X x) (hm : X.mg x = none) (hv : bootBuiltins x = some (.builtin id)) (ha : SA X W (e :: es) mas) (hn : x ≠ "__name__" := by decide) (hdb : (x == ("__debug__" : Str)) = false := by decide)
    (he : starEach (e :: es) X.env = (false, eval e X.env) :: starEach es X.env := by rfl) (hpl : (backTo pos (starEach es X.env)).any (·.1) = false := by rfl) : SE X W (.Call (.Name x p) (e :: es) [] pos) (mCallF f mas) :=
  (pe_callB hc hg hm hv ha hn hdb he hpl).imp fun σ H Q h => cf_imp hf h
theorem se_callTy {x : Str} {id : String} {p : Pos} {f : List MV → Sto → R MV} (hc : CallR X (.type id) (rCf X f)) (hf : Pure1 f) (hg : Gl X x) (hm : X.mg x = none) (hv : bootBuiltins x = some (.type id)) (ha : SA X W (e :: es) mas) (hn : x ≠ "__name__" := by decide) (hdb : (x == ("__debug__" : Str)) = false := by decide)
    (he : starEach (e :: es) X.env = (false, eval e X.env) :: starEach es X.env := by rfl) (hpl : (backTo pos (starEach es X.env)).any (·.1) = false := by rfl) : SE X W (.Call (.Name x p) (e :: es) [] pos) (mCallF f mas) :=
  (pe_callTy hc hg hm hv ha hn hdb he hpl).imp fun σ H Q h => cf_imp hf h
end
theorem pu_add : Pure2 addM := by
  intro a b S c d S' h
  unfold addM at h
  split at h
  · cases h
  · split at h <;> cases h
  · split at h <;> cases h
  · unfold addL at h
    split at h
    · split at h <;> cases h
    · cases h
theorem pu_sub : Pure2 subM := by intro a b S c d S' h; unfold subM at h; split at h <;> cases h
theorem pu_mod : Pure2 modM := by intro a b S c d S' h; unfold modM at h; split at h; (split at h <;> cases h); cases h
theorem pu_fdiv : Pure2 fdivM := by intro a b S c d S' h; unfold fdivM at h; split at h; (split at h <;> cases h); cases h
theorem pu_pow : Pure2 powM := by intro a b S c d S' h; unfold powM at h; split at h; (split at h <;> cases h); cases h
theorem pu_mul : Pure2 mulM := by
  intro a b S c d S' h
  unfold mulM at h
  split at h
  all_goals first
    | (cases h; done)
    | (split at h <;> first | (cases h; done) | (split at h <;> cases h; done))
theorem pu_eq : Pure2 eqM := by intro a b S c d S' h; unfold eqM at h; split at h <;> cases h
theorem pu_ne : Pure2 neM := by intro a b S c d S' h; unfold neM at h; split at h <;> cases h
theorem pu_is : Pure2 isM := by intro a b S c d S' h; unfold isM at h; split at h <;> cases h
theorem pu_isn : Pure2 isnM := by intro a b S c d S' h; unfold isnM at h; split at h <;> cases h
theorem pu_in : Pure2 inM := by intro a b S c d S' h; unfold inM at h; split at h <;> cases h
theorem pu_nin : Pure2 ninM := by intro a b S c d S' h; unfold ninM at h; split at h <;> cases h
theorem pu_cmpI {f : Int → Int → Bool} : Pure2 (cmpI f) := by intro a b S c d S' h; unfold cmpI at h; split at h <;> cases h
theorem pu_ix : Pure2 idxM := by
  intro a b S c d S' h
  unfold idxM at h
  split at h
  · split at h
    · split at h <;> first | (cases h; done) | (split at h <;> cases h; done)
    · cases h
  · unfold idxD at h
    split at h
    · split at h <;> cases h
    · cases h
end Mi
set_option Elab.async false
set_option linter.all false
set_option maxRecDepth 100000
set_option maxHeartbeats 2000000
namespace Mi
open PySem PySem.Spec PyProof.Rows L2
inductive RS where
  | nx (ρ : Ev) (S : Sto)
  | rt (d : MV) (S : Sto)
  | exc (c : Str) (d : MV) (ρ : Ev) (S : Sto)
  | stk
abbrev MS := Ev → Sto → RS
def WantS (W : WX) (D : Ends) (C : RC) : RS → Prop
  | .nx ρ S => ∀ C' σ', Grow C C' → RepS C' S → EnvR C' ρ σ' → ρ.length = σ'.length → D.nx σ' C'.H
  | .rt d S => ∀ C' v, Grow C C' → RepS C' S → RepV C' d v → D.rt v C'.H
  | .exc c d ρ S => ∀ C' σ' cls dx, Grow C C' → RepS C' S → EnvR C' ρ σ' → ρ.length = σ'.length → ExcR C' c d cls dx → W cls dx σ' C'.H
  | .stk => False
def tS (X : Cx) (W : WX) (m : MS) : TS := fun D σ H => ∃ C ρ S, C.H = H ∧ Sv X ρ σ S C ∧ WantS W D C (m ρ S)
abbrev SS (X : Cx) (W : WX) (st : Stmt) (m : MS) : Prop := PS X st (tS X W m)
abbrev SSs (X : Cx) (W : WX) (st : List Stmt) (m : MS) : Prop := PSs X st (tS X W m)
theorem WantS.grow {W : WX} {D : Ends} {C C1 : RC} {r : RS} (h : WantS W D C r) (g : Grow C C1) : WantS W D C1 r := by
  cases r with
  | nx ρ S => exact fun C' σ' g' r' e l => h C' σ' (g.trans g') r' e l
  | rt d S => exact fun C' v g' r' e => h C' v (g.trans g') r' e
  | exc c d ρ S => exact fun C' σ' cls dx g' r' e l x => h C' σ' cls dx (g.trans g') r' e l x
  | stk => exact h
def R.thn {α : Type} (r : R α) (ρ : Ev) (k : α → Sto → RS) : RS := match r with
  | .ok a S => k a S
  | .exc c d S => .exc c d ρ S
  | .stk => .stk
@[simp] theorem R.thn_ok {α : Type} (a : α) (S : Sto) (ρ : Ev) (f : α → Sto → RS) : (R.ok a S).thn ρ f = f a S := rfl
@[simp] theorem R.thn_exc {α : Type} (c : Str) (d : MV) (S : Sto) (ρ : Ev) (f : α → Sto → RS) : (R.exc c d S : R α).thn ρ f = .exc c d ρ S := rfl
@[simp] theorem R.thn_stk {α : Type} (ρ : Ev) (f : α → Sto → RS) : (R.stk : R α).thn ρ f = .stk := rfl
theorem WantS.thn {α : Type} {X : Cx} {W : WX} {D : Ends} {C : RC} {ρ : Ev} {σ : L2.St} {S : Sto} {r : R α} {k : α → Sto → RS} (s : Sv X ρ σ S C) (h : WantS W D C (r.thn ρ k)) :
    Wants W σ C r (fun a S1 C1 => WantS W D C1 (k a S1) ∧ Grow C C1) := by
  cases r with
  | ok a S' => exact fun C1 g r1 => ⟨WantS.grow h g, g⟩
  | exc c d S' => exact fun C1 cls dx g r1 e => h C1 σ cls dx g r1 (s.ev.grow g s.rs) s.ln e
  | stk => exact h
section
variable {X : Cx} {W : WX} {D : Ends} {σ : L2.St} {C : RC} {ρ : Ev} {S : Sto}
theorem tE.thn {m : ME} {k : MV → Sto → RS} {Q1 : VK} (s : Sv X ρ σ S C) (h : WantS W D C ((m ρ S).thn ρ k))
    (z : ∀ d S1 C1 v, Sv X ρ σ S1 C1 → Grow C C1 → RepV C1 d v → WantS W D C1 (k d S1) → Q1 v C1.H) : tE X W m σ C.H Q1 :=
  ⟨C, ρ, S, rfl, s, (WantS.thn s h).mono fun d S1 C1 g r _ q v hv => z d S1 C1 v (s.grow g r) g hv q.1⟩
theorem tT.thn {m : MT} {k : Bool → Sto → RS} {Q1 : Bool → Hp → Prop} (s : Sv X ρ σ S C) (h : WantS W D C ((m ρ S).thn ρ k))
    (z : ∀ d S1 C1, Sv X ρ σ S1 C1 → Grow C C1 → WantS W D C1 (k d S1) → Q1 d C1.H) : tT X W m σ C.H Q1 :=
  ⟨C, ρ, S, rfl, s, (WantS.thn s h).mono fun d S1 C1 g r _ q => z d S1 C1 (s.grow g r) g q.1⟩
end
def mNext : MS := fun ρ S => .nx ρ S
def mSeq (a b : MS) : MS := fun ρ S => match a ρ S with
  | .nx ρ1 S1 => b ρ1 S1
  | r => r
def mIfS (c : MT) (a b : MS) : MS := fun ρ S => (c ρ S).thn ρ fun x S1 => if x then a ρ S1 else b ρ S1
def mRet (e : ME) : MS := fun ρ S => (e ρ S).thn ρ fun d S1 => .rt d S1
def mDrop (e : ME) : MS := fun ρ S => (e ρ S).thn ρ fun _ S1 => .nx ρ S1
/-- targets -/
structure Tg where
  f : MV → Ev → Option Ev
  ix : List Nat
structure Tgs where
  f : List MV → Ev → Option Ev
  ix : List Nat
  n : Nat
def oS (o : Option Ev) (S : Sto) : RS := match o with
  | some ρ => .nx ρ S
  | none => .stk
def mAsg (e : ME) (g : Tg) : MS := fun ρ S => (e ρ S).thn ρ fun d S1 => oS (g.f d ρ) S1
def tgName (i : Nat) : Tg := ⟨fun d ρ => some (ρ.set i (some d)), [i]⟩
def tgNil : Tgs := ⟨fun ds ρ => match ds with
  | [] => some ρ
  | _ => none, [], 0⟩
def tgCons (t : Tg) (u : Tgs) : Tgs := ⟨fun ds ρ => match ds with
  | d :: r => (t.f d ρ).bind (u.f r)
  | [] => none, t.ix ++ u.ix, u.n + 1⟩
def tgTup (u : Tgs) : Tg := ⟨fun d ρ => match d with
  | .tup xs => if xs.length = u.n then u.f xs ρ else none
  | _ => none, u.ix⟩
def tG (X : Cx) (t : Tg) : TG := fun v σ H Q => ∃ C ρ S d ρ', C.H = H ∧ Sv X ρ σ S C ∧ RepV C d v ∧ t.f d ρ = some ρ' ∧ ∀ σ', EnvR C ρ' σ' → ρ'.length = σ'.length → σ'.length = σ.length → (∀ vs, (∀ i ∈ t.ix, i ∈ vs) → wipe σ' vs = wipe σ vs) → Q σ' H
def tGs (X : Cx) (t : Tgs) : TGs := fun vs σ H Q => ∃ C ρ S ds ρ', C.H = H ∧ Sv X ρ σ S C ∧ RepVs C ds vs ∧ t.f ds ρ = some ρ' ∧ ∀ σ', EnvR C ρ' σ' → ρ'.length = σ'.length → σ'.length = σ.length → (∀ vs, (∀ i ∈ t.ix, i ∈ vs) → wipe σ' vs = wipe σ vs) → Q σ' H
theorem _root_.L2.PG.imp {X : Cx} {tg : Expr} {t t' : TG} (h : PG X tg t) (k : ∀ v σ H Q, t' v σ H Q → t v σ H Q) : PG X tg t' := ⟨fun pins s σ H v u Q I r q => h.run pins s σ H v u Q I r (k v σ H Q q)⟩
theorem _root_.L2.PGs.imp {X : Cx} {tg : List Expr} {t t' : TGs} (h : PGs X tg t) (k : ∀ v σ H Q, t' v σ H Q → t v σ H Q) : PGs X tg t' := ⟨fun pins s σ H v u Q I r q => h.run pins s σ H v u Q I r (k v σ H Q q)⟩
abbrev SG (X : Cx) (tg : Expr) (t : Tg) : Prop := PG X tg (tG X t)
abbrev SGs (X : Cx) (tg : List Expr) (t : Tgs) : Prop := PGs X tg (tGs X t)
theorem wipe_get (σ : L2.St) : ∀ (vs : List Nat) (j : Nat), (wipe σ vs)[j]? = if j ∈ vs then (σ[j]?).map (fun _ => none) else σ[j]?
  | [], j => by simp [wipe]
  | v :: vs, j => by
    unfold wipe
    by_cases hj : v = j
    · subst hj
      by_cases hl : v < (wipe σ vs).length
      · rw [List.getElem?_set_self hl]
        have : v < σ.length := by rw [wipe_length] at hl; exact hl
        simp [this]
      · rw [List.getElem?_eq_none (by simpa using hl)]
        have : ¬ v < σ.length := by rw [wipe_length] at hl; exact hl
        simp [this]
    · rw [List.getElem?_set_ne hj, wipe_get σ vs j]
      have : (j ∈ v :: vs) ↔ j ∈ vs := by simp [Ne.symm hj]
      simp only [this]
theorem wipe_set (σ : L2.St) (i : Nat) (x : Option V) (vs : List Nat) (h : i ∈ vs) : wipe (σ.set i x) vs = wipe σ vs := by
  apply List.ext_getElem?; intro j
  rw [wipe_get, wipe_get]
  by_cases hj : j ∈ vs
  · rw [if_pos hj, if_pos hj]
    by_cases e : i = j
    · subst e
      by_cases hl : i < σ.length
      · simp [hl]
      · simp [hl]
    · rw [List.getElem?_set_ne e]
  · rw [if_neg hj, if_neg hj, List.getElem?_set_ne (fun e => hj (by rw [← e]; exact h))]
theorem wipe_wipe (σ : L2.St) (vs : List Nat) : wipe (wipe σ vs) vs = wipe σ vs := by
  apply List.ext_getElem?; intro j
  rw [wipe_get, wipe_get]
  by_cases hj : j ∈ vs
  · rw [if_pos hj, if_pos hj]
    cases σ[j]? <;> rfl
  · rw [if_neg hj, if_neg hj]
section
variable {X : Cx} {W : WX} {a b c e : Expr} {es : List Expr} {me : ME} {mt : MT} {pos : Pos} {st : Stmt} {sts sts' : List Stmt} {m m1 m2 : MS}
theorem sg_name {i : Nat} {x : Str} (hN : X.N.Nodup) (hi : X.N[i]? = some x) (hx : Loc X.env.scope x) (hf : X.fn x = true ∨ X.env.scope.names.lookup x = some .local := by first | exact .inl rfl | exact .inr rfl | assumption) : SG X (.Name x pos) (tgName i) :=
  (pg_name hN hi hx hf).imp fun v σ H Q ⟨C, ρ, S, d, ρ', e, s, r, e1, q⟩ => by
    subst e
    have e1 : some (ρ.set i (some d)) = some ρ' := e1
    cases e1
    exact q _ (s.ev.set s.ln r) (by simp [s.ln]) (by simp) fun vs h => wipe_set σ i _ vs (h i (by simp [tgName]))
theorem sgs_nil : SGs X [] tgNil := pgs_nil.imp fun v σ H Q ⟨C, ρ, S, d, ρ', e, s, r, e1, q⟩ => by
  subst e
  cases d with
  | nil =>
    have e1 : some ρ = some ρ' := e1
    cases e1
    rw [r.nil_inv]
    exact ⟨rfl, q σ s.ev s.ln rfl fun _ _ => rfl⟩
  | cons x xs => cases e1
theorem sgs_cons {t : Tg} {u : Tgs} (h1 : SG X e t) (h2 : SGs X es u) (hs : (assignEach (e :: es) X.env).map (·.2) = assign e X.env :: (assignEach es X.env).map (·.2) := by rfl) : SGs X (e :: es) (tgCons t u) :=
  (pgs_cons h1 h2 hs).imp fun v σ H Q ⟨C, ρ, S, d, ρ', e, s, r, e1, q⟩ => by
    subst e
    cases d with
    | nil => cases e1
    | cons x xs =>
      obtain ⟨v1, vr, rfl, r1, r2⟩ := r.cons_inv
      have e1 : (t.f x ρ).bind (u.f xs) = some ρ' := e1
      cases e2 : t.f x ρ with
      | none => rw [e2] at e1; cases e1
      | some ρ1 =>
        rw [e2] at e1
        have e1 : u.f xs ρ1 = some ρ' := e1
        refine ⟨v1, vr, rfl, C, ρ, S, x, ρ1, rfl, s, r1, e2, fun σ1 ev1 l1 l1' w1 => ?_⟩
        refine ⟨C, ρ1, S, xs, ρ', rfl, ⟨s.w, s.K, s.rs, ev1, l1⟩, r2, e1, fun σ2 ev2 l2 l2' w2 => q σ2 ev2 l2 (l2'.trans l1') fun vs hv => ?_⟩
        rw [w2 vs fun i hi => hv i (List.mem_append_right _ hi), w1 vs fun i hi => hv i (List.mem_append_left _ hi)]
theorem sg_tup {k : Nat} {u : Tgs} (hc : X.calm = true) (h : SGs X es u) (hn : (assignEach es X.env).length = u.n := by rfl) (hst : (assignEach es X.env).findIdx? (·.1) = none := by rfl) : SG X (.Tuple es k pos) (tgTup u) :=
  (pg_tup hc h hn hst).imp fun v σ H Q ⟨C, ρ, S, d, ρ', e, s, r, e1, q⟩ => by
    subst e
    cases d with
    | tup xs =>
      have e1 : (if xs.length = u.n then u.f xs ρ else none) = some ρ' := e1
      split at e1
      · rename_i hl
        rw [RepV] at r
        obtain ⟨p, vs, rfl, sq, t⟩ := r
        rw [s.K] at sq
        exact ⟨p, vs, rfl, sq, by rw [← t.length, hl], C, ρ, S, xs, ρ', rfl, s, t, e1, q⟩
      · cases e1
    | _ => cases e1
theorem ss_asg {g : Tg} (he : SE X W e me) (hg : SG X a g) (hs : swapsWithSole [a] e pos.line X.env = pure false := by rfl) (hw : swappedStores [a] e X.env = pure none := by rfl)
    (h1 : (assignEach [a] X.env).map (·.2) = [assign a X.env] := by rfl) : SS X W (.Assign [a] e pos) (mAsg me g) :=
  (ps_asg he hg hs hw h1).imp fun D σ H ⟨C, ρ, S, e, s, q⟩ => by
    subst e
    refine tE.thn s q fun d S1 C1 v s1 g1 r1 q1 => ?_
    unfold oS at q1
    split at q1
    · rename_i ρ' e1
      exact ⟨C1, ρ, S1, d, ρ', rfl, s1, r1, e1, fun σ' ev l _ _ => q1 C1 σ' Grow.refl s1.rs ev l⟩
    · exact q1.elim
theorem ss_set {i : Nat} {x : Str} {pos' : Pos} (hN : X.N.Nodup) (hi : X.N[i]? = some x) (hx : Loc X.env.scope x) (he : SE X W e me) (hs : swapsWith e (some (.Name x pos')) pos.line X.env = pure false := by rfl) (hf : X.fn x = true ∨ X.env.scope.names.lookup x = some .local := by first | exact .inl rfl | exact .inr rfl | assumption) :
    SS X W (.Assign [.Name x pos'] e pos) (mAsg me (tgName i)) :=
  (ps_set hN hi hx he hs hf).imp fun D σ H ⟨C, ρ, S, e, s, q⟩ => by
    subst e
    refine tE.thn s q fun d S1 C1 v s1 g1 r1 q1 => ?_
    exact q1 C1 _ Grow.refl s1.rs (s1.ev.set s1.ln r1) (by simp [s1.ln])
theorem sss_nil : SSs X W [] mNext := pss_nil.imp fun D σ H ⟨C, ρ, S, e, s, q⟩ => by
  subst e
  exact q C σ Grow.refl s.rs s.ev s.ln
theorem sss_cons (h1 : SS X W st m1) (h2 : SSs X W sts m2) : SSs X W (st :: sts) (mSeq m1 m2) :=
  (pss_cons h1 h2).imp fun D σ H ⟨C, ρ, S, e, s, q⟩ => by
    subst e
    refine ⟨C, ρ, S, rfl, s, ?_⟩
    unfold mSeq at q
    cases e : m1 ρ S with
    | nx ρ1 S1 =>
      rw [e] at q
      exact fun C' σ' g r ev l => ⟨C', ρ1, S1, rfl, ⟨g.w.trans s.w, g.K.trans s.K, r, ev, l⟩, q.grow g⟩
    | rt d S1 => rw [e] at q; exact q
    | exc c d ρ1 S1 => rw [e] at q; exact q
    | stk => rw [e] at q; exact q
theorem sss_one (h1 : SS X W st m1) : SSs X W [st] m1 := pss_one h1
theorem ss_if (hc : ST X W c mt) (ha : SSs X W sts m1) (hb : SSs X W sts' m2) : SS X W (.If c sts sts' pos) (mIfS mt m1 m2) :=
  (ps_if hc ha hb).imp fun D σ H ⟨C, ρ, S, e, s, q⟩ => by
    subst e
    refine tT.thn s q fun d S1 C1 s1 g1 q1 => ?_
    cases d with
    | true => rw [if_pos rfl] at q1 ⊢; exact ⟨C1, ρ, S1, rfl, s1, q1⟩
    | false => rw [if_neg (by decide)] at q1 ⊢; exact ⟨C1, ρ, S1, rfl, s1, q1⟩
theorem ss_ret (he : SE X W e me) : SS X W (.Return (some e) pos) (mRet me) :=
  (ps_ret he).imp fun D σ H ⟨C, ρ, S, e, s, q⟩ => by
    subst e
    exact tE.thn s q fun d S1 C1 v s1 g1 r1 q1 => q1 C1 v Grow.refl s1.rs r1
theorem ss_expr (he : SE X W e me) (hs : swapsWith e none pos.line X.env = pure false := by rfl) : SS X W (.Expr e pos) (mDrop me) :=
  (ps_expr he hs).imp fun D σ H ⟨C, ρ, S, e, s, q⟩ => by
    subst e
    exact tE.thn s q fun d S1 C1 v s1 g1 r1 q1 => q1 C1 σ Grow.refl s1.rs s1.ev s1.ln
end
abbrev MF := List MV → Sto → R MV
def spM (w : World) (K : PySem.W.Frag) (n : Nat) (m : MF) : Sp := fun vs H Q E => vs.length = n ∧ ∃ C S ds, C.H = H ∧ C.w = w ∧ C.K = K ∧ RepS C S ∧ RepVs C ds vs ∧
  Wants (fun cls dx _ H' => E cls dx H') [] C (m ds S) (fun d _ C' => ∀ v, RepV C' d v → Q v C'.H)
theorem Wants.wish {α : Type} {W W' : WX} {σ σ' : L2.St} {C : RC} {r : R α} {Q : α → Sto → RC → Prop} (h : Wants W σ C r Q) (k : ∀ cls dx H, W cls dx σ H → W' cls dx σ' H) : Wants W' σ' C r Q := by
  cases r with
  | ok a S => exact h
  | exc c d S => exact fun C' cls dx g r e => k _ _ _ (h C' cls dx g r e)
  | stk => exact h
def toR : RS → R MV
  | .nx _ S => .ok .non S
  | .rt d S => .ok d S
  | .exc c d _ S => .exc c d S
  | .stk => .stk
def ev0 (N : Nat) (ds : List MV) : Ev := ds.map some ++ List.replicate (N - ds.length) none
def mFn (N : Nat) (body : MS) : MF := fun ds S => toR (body (ev0 N ds) S)
section
variable {X : Cx} {W : WX} {e : Expr} {es : List Expr} {mas : MA} {pos p : Pos} {k : Nat} {f : Addr} {fd : FuncData} {ps : List Str} {x : Str} {m : MF}
theorem se_call {n : Nat} (F : FnOk X.prog X.w X.K X.mg X.base (L2.CX X.prog X.w) k f fd ps (spM X.w X.K n m)) (hr : Room k X.A) (hg : Gl X x) (hm : X.mg x = some (.ref f)) (hk : PySem.W.keepIn X.K (.ref f) = true) (hb : Binds X.K fd ps []) (tk : Takes X W)
    (ha : SA X W (e :: es) mas) (hl : LenA mas n) (hdb : (x == ("__debug__" : Str)) = false := by decide) (he : starEach (e :: es) X.env = (false, eval e X.env) :: starEach es X.env := by rfl) (hpl : (backTo pos (starEach es X.env)).any (·.1) = false := by rfl) :
    SE X W (.Call (.Name x p) (e :: es) [] pos) (mCallF m mas) :=
  (pe_callS (E := WE W) F hr hg hm hk hb (passAt tk) ha hdb he hpl).imp fun σ H Q ⟨C, ρ, S, e, s, q⟩ => by
    subst e
    refine ⟨C, ρ, S, rfl, s, ?_⟩
    refine Wants.mono (Wants.bind q) fun ds S1 C1 g r1 e1 q1 vs rv => ?_
    refine ⟨by rw [← rv.length]; exact hl _ _ _ _ e1, C1, S1, ds, rfl, g.w.trans s.w, g.K.trans s.K, r1, rv, ?_⟩
    exact q1.1.wish fun cls dx H h => h
theorem se_call0 (F : FnOk X.prog X.w X.K X.mg X.base (L2.CX X.prog X.w) k f fd ps (spM X.w X.K 0 m)) (hr : Room k X.A) (hg : Gl X x) (hm : X.mg x = some (.ref f)) (hk : PySem.W.keepIn X.K (.ref f) = true) (hb : Binds X.K fd ps [])
    (hpure : ∀ S c d S', m [] S ≠ .exc c d S') (hdb : (x == ("__debug__" : Str)) = false := by decide) :
    SE X W (.Call (.Name x p) [] [] pos) (mCallF m mNil) :=
  (pe_call0 (E := fun _ _ _ => False) (dvs := []) (ds := []) F hr hg hm hk hb .nil (fun pins σ H s e s' I c => by
    obtain ⟨_, _, _, _, _, _, _, _, _, _, _, _, h⟩ := c
    exact h.elim) hdb).imp fun σ H Q ⟨C, ρ, S, e, s, q⟩ => by
    subst e
    refine ⟨rfl, C, S, [], rfl, s.w, s.K, s.rs, .nil, ?_⟩
    have q : Wants W σ C (m [] S) (fun d _ C' => ∀ v, RepV C' d v → Q v C'.H) := q
    cases e : m [] S with
    | ok d S' => rw [e] at q; exact q
    | exc c d S' => exact absurd e (hpure _ _ _ _)
    | stk => rw [e] at q; exact q
end
theorem env_start {C : RC} {ds : List MV} {vs : List V} {N : List Str} (t : RepVs C ds vs) : EnvR C (ev0 N.length ds) (L2.start N vs) := fun i d e => by
  unfold ev0 at e
  by_cases hi : i < ds.length
  · rw [List.getElem?_append_left (by simpa using hi), List.getElem?_map] at e
    cases e1 : ds[i]? with
    | none => rw [e1] at e; cases e
    | some d' =>
      rw [e1] at e
      have : d' = d := by simpa using e
      subst this
      obtain ⟨v, h1, h2⟩ := t.get e1
      refine ⟨v, ?_, h2⟩
      unfold L2.start
      have hv : i < vs.length := by rw [← t.length]; exact hi
      rw [List.getElem?_append_left (by simpa using hv), List.getElem?_map, h1]
      rfl
  · rw [List.getElem?_append_right (by simpa using hi), List.getElem?_replicate] at e
    split at e <;> cases e
/-- a def's body gives its promise -/
theorem body_ok {X : Cx} {body : List Stmt} {m : MS} {N : List Str} {vs : List V} {H : Hp} {Q : VK} {E : XK} {n : Nat} (hN : n ≤ N.length) (hb : SSs X (fun cls dx _ H' => E cls dx H') body m) (hsp : spM X.w X.K n (mFn N.length m) vs H Q E) :
    ∃ t, PSs X body t ∧ t { nx := fun _ H' => Q .non H', rt := Q } (L2.start N vs) H := by
  refine ⟨_, hb, ?_⟩
  obtain ⟨hl, C, S, ds, rfl, hw, hK, r, t, q⟩ := hsp
  have hld := t.length
  refine ⟨C, ev0 N.length ds, S, rfl, ⟨hw, hK, r, env_start t, ?_⟩, ?_⟩
  · unfold ev0 L2.start
    simp [hld]
  · unfold mFn at q
    cases e : m (ev0 N.length ds) S with
    | nx ρ S1 =>
      rw [e] at q
      exact fun C' σ' g r' ev l => q C' g r' .non repN
    | rt d S1 => rw [e] at q; exact fun C' v g r' rv => q C' g r' v rv
    | exc c d ρ S1 => rw [e] at q; exact fun C' σ' cls dx g r' ev l x => q C' cls dx g r' x
    | stk => rw [e] at q; exact q
end Mi
set_option Elab.async false
set_option linter.all false
set_option maxRecDepth 100000
set_option maxHeartbeats 2000000
namespace Mi
open PySem PySem.Spec PyProof.Rows L2
def SqK (K : PySem.W.Frag) : Bool → Hp → Addr → List V → Prop
  | true, H, a, xs => SqT K H a xs
  | false, H, a, xs => SqL K H a xs
def ItK : Bool → Heap → Addr → Addr → Nat → Prop
  | true, h, it, a, i => h.IsTupleIter it a i
  | false, h, it, a, i => h.IsListIter it a i
def CoK : Bool → Heap → Addr → Array Value → Prop
  | true, h, a, its => h.IsTuple a its
  | false, h, a, its => h.IsList a its
def obK : Bool → Addr → Obj
  | true, a => { cls := .type "tuple_iterator", data := .fields #[.ref a, .int 0 0] }
  | false, a => { cls := .type "list_iterator", data := .fields #[.ref a, .int 0 0] }
theorem drawsK {prog : Program} {w : World} {A : Around} (hh : A.handled = none) (it a : Addr) (hne : a ≠ it) : ∀ (t : Bool) (items : Array Value),
    Draws prog w A it [it, a] items.size (fun i v => items[i]? = some v) (fun i h => ItK t h it a i ∧ CoK t h a items)
  | true, items => Draws.tuple hh it a hne items
  | false, items => Draws.list hh it a hne items
theorem beginsK (a : Addr) (items : Array Value) : ∀ t : Bool, Begins (.ref a) (obK t a) fun h => CoK t h a items
  | true => begins_tuple a items
  | false => begins_list a items
theorem itK_new {h : Heap} {it a : Addr} : ∀ {t : Bool}, h.get? it = some (obK t a) → ItK t h it a 0
  | true, e => ⟨_, e, rfl, rfl⟩
  | false, e => ⟨_, e, rfl, rfl⟩
theorem itK_obj {h : Heap} {it a : Addr} {i : Nat} : ∀ {t : Bool}, ItK t h it a i → ∃ o, h.get? it = some o ∧ ∀ v, o.data ≠ .cell v
  | true, ⟨o, e, _, d⟩ => ⟨o, e, fun v z => by rw [d] at z; cases z⟩
  | false, ⟨o, e, _, d⟩ => ⟨o, e, fun v z => by rw [d] at z; cases z⟩
theorem itK_at {h h' : Heap} {it a : Addr} {i : Nat} : ∀ {t : Bool}, ItK t h it a i → (∀ o, h.get? it = some o → h'.get? it = some o) → ItK t h' it a i
  | true, st, k => Heap.IsTupleIter.at st k
  | false, st, k => Heap.IsListIter.at st k
section
variable {X : Cx} {pins : List (Addr × Obj)} {σ : L2.St} {H : Hp} {s : Shared} {a : Addr} {xs ys : List V}
theorem seqK (I : Inv X pins σ H s) : ∀ {t : Bool}, SqK X.K t H a xs → ∃ its : List Value, Vals xs its ∧ CoK t s.heap a its.toArray ∧ a < s.heap.objs.size
  | true, h => by
    obtain ⟨its, rv, p, _⟩ := I.tuple h
    obtain ⟨o, e, _⟩ := id p
    exact ⟨its, rv, p, Heap.lt_size e⟩
  | false, h => by
    obtain ⟨its, rv, p, _⟩ := I.list h
    exact ⟨its, rv, p.isList, p.lt⟩
theorem injK (I : Inv X pins σ H s) : ∀ {t : Bool}, SqK X.K t H a xs → SqK X.K t H a ys → xs = ys
  | true, h, h' => I.tuple_inj h h'
  | false, h, h' => I.list_inj h h'
end
/-- two sources, three sources, the items in a new tuple -/
def ItZ2 (K : PySem.W.Frag) (t1 t2 : Bool) (a b : Addr) : It :=
  ⟨fun i H => ∃ (xs ys : List V) (x y : V), SqK K t1 H a xs ∧ SqK K t2 H b ys ∧ xs[i]? = some x ∧ ys[i]? = some y,
    fun i H v H' => ∃ T x y, v = .ref T ∧ H T = none ∧ H' = upd H T (.tup [x, y]) ∧ (∀ xs, SqK K t1 H a xs → xs[i]? = some x) ∧ ∀ ys, SqK K t2 H b ys → ys[i]? = some y,
    fun i H => ∃ xs ys : List V, SqK K t1 H a xs ∧ SqK K t2 H b ys ∧ i ≤ xs.length ∧ i ≤ ys.length ∧ (i = xs.length ∨ i = ys.length)⟩
def ItZ3 (K : PySem.W.Frag) (t1 t2 t3 : Bool) (a b c : Addr) : It :=
  ⟨fun i H => ∃ (xs ys zs : List V) (x y z : V), SqK K t1 H a xs ∧ SqK K t2 H b ys ∧ SqK K t3 H c zs ∧ xs[i]? = some x ∧ ys[i]? = some y ∧ zs[i]? = some z,
    fun i H v H' => ∃ T x y z, v = .ref T ∧ H T = none ∧ H' = upd H T (.tup [x, y, z]) ∧ (∀ xs, SqK K t1 H a xs → xs[i]? = some x) ∧ (∀ ys, SqK K t2 H b ys → ys[i]? = some y) ∧ ∀ zs, SqK K t3 H c zs → zs[i]? = some z,
    fun i H => ∃ xs ys zs : List V, SqK K t1 H a xs ∧ SqK K t2 H b ys ∧ SqK K t3 H c zs ∧ i ≤ xs.length ∧ i ≤ ys.length ∧ i ≤ zs.length ∧ (i = xs.length ∨ i = ys.length ∨ i = zs.length)⟩
def ItE (K : PySem.W.Frag) (t1 : Bool) (a : Addr) : It :=
  ⟨fun i H => ∃ (xs : List V) (x : V), SqK K t1 H a xs ∧ xs[i]? = some x,
    fun i H v H' => ∃ T x, v = .ref T ∧ H T = none ∧ H' = upd H T (.tup [.int (i : Nat), x]) ∧ (∀ xs, SqK K t1 H a xs → xs[i]? = some x),
    fun i H => ∃ xs : List V, SqK K t1 H a xs ∧ i = xs.length⟩
theorem lenT {xs : List V} {its : List Value} {i : Nat} {x : V} (rv : Vals xs its) (h : xs[i]? = some x) : i < its.toArray.size := by
  have := (List.getElem?_eq_some_iff.mp h).1
  have := rv.length
  simp; omega
theorem itemT {xs : List V} {its : List Value} {i : Nat} {x : V} {u : Value} (rv : Vals xs its) (h : xs[i]? = some x) (hu : its.toArray[i]? = some u) : RelV x u := by
  obtain ⟨u', hu', ru⟩ := rv.get h
  have : u' = u := by
    have e : its[i]? = some u := by simpa using hu
    rw [hu'] at e; cases e; rfl
  rw [← this]; exact ru
structure NewWalk (P : Program) (w : World) (K : PySem.W.Frag) (tg : Expr) (J : It) (fp : List Addr) (I : Addr) (tn : Nat → Heap → Prop) : Prop where
  inI : I ∈ fp
  cells : ∀ i h, tn i h → ∀ b ∈ fp, ∃ o, h.get? b = some o ∧ ∀ v, o.data ≠ .cell v
  stay : ∀ i h h', tn i h → (∀ b ∈ fp, ∀ o, h.get? b = some o → h'.get? b = some o) → tn i h'
  own : ∀ (A : Around) (i : Nat) (s : Shared) (Q : Value → Shared → Prop) (E : Value → Shared → Prop), tn i s.heap → Q (.ref I) s → wpAny (model P w) A (pyIter (.ref I)) Q E s
  more : ∀ (X : Cx) (i : Nat) (pins : List (Addr × Obj)) (s : Shared) (σ : L2.St) (H : Hp), X.prog = P → X.w = w → X.K = K → X.A.in1.handled = none → Inv X pins σ H s →
    (∀ b ∈ fp, FpOk X pins H b ∧ b < s.heap.objs.size) → tn i s.heap → J.go i H →
    ∃ (gf wr : List Addr) (n : Nat) (Y : Nat → Heap → Value → Heap → Prop) (St : Nat → Heap → Prop), GoesN P w X.A tg I gf wr n Y St ∧ i < n ∧ St i s.heap ∧
      ∀ v h' tk, Y i s.heap v h' → St (i + 1) h' → (∀ b o, b ∉ wr → s.heap.get? b = some o → h'.get? b = some o) →
        ∃ x H', Inv X pins σ H' { s with heap := h', toks := tk } ∧ RelV x v ∧ J.yld i H x H' ∧ tn (i + 1) h' ∧ ∀ b ∈ fp, H' b = none
  last : ∀ (X : Cx) (i : Nat) (pins : List (Addr × Obj)) (s : Shared) (σ : L2.St) (H : Hp), X.prog = P → X.w = w → X.K = K → X.A.in1.handled = none → Inv X pins σ H s → tn i s.heap → J.stop i H →
    ∃ (gf wr : List Addr) (n : Nat) (Y : Nat → Heap → Value → Heap → Prop) (St : Nat → Heap → Prop), GoesN P w X.A tg I gf wr n Y St ∧ St n s.heap ∧ ∀ b ∈ wr, b ∈ fp
theorem NewWalk.turn {P : Program} {w : World} {K : PySem.W.Frag} {tg : Expr} {J : It} {fp : List Addr} {I : Addr} {tn : Nat → Heap → Prop} (N : NewWalk P w K tg J fp I tn) : Turn P w K tg J fp I tn := by
  refine ⟨N.inI, N.cells, N.stay, ?_, ?_, N.own⟩
  · intro X eP ew eK calm i pins s σ H E inv fresh now go
    have hh : X.A.in1.handled = none := inv.ok.hd calm
    obtain ⟨gf, wr, n, Y, St, G, lt, st, k⟩ := N.more X i pins s σ H eP ew eK hh inv (fun b hb => ⟨fresh b hb, by
      obtain ⟨o, ho, _⟩ := N.cells i s.heap now b hb
      exact Heap.lt_size ho⟩) now go
    exact G.goes i s _ E lt st fun v h' tk y st' kept _ => k v h' tk y st' kept
  · intro X eP ew eK calm i pins s σ H E inv fresh now over
    have hh : X.A.in1.handled = none := inv.ok.hd calm
    obtain ⟨gf, wr, n, Y, St, G, st, sub⟩ := N.last X i pins s σ H eP ew eK hh inv now over
    exact G.stops s _ E st fun h' tk kept _ => inv.turnedL (fun b o nb => kept b o fun m => nb (sub b m)) fresh
/-- one new tuple -/
theorem one_new {X : Cx} {pins : List (Addr × Obj)} {s : Shared} {σ : L2.St} {H : Hp} {fp wr : List Addr} {T : Addr} {h' : Heap} {tk : Tok} {xs : List V} {us : List Value} (inv : Inv X pins σ H s) (fresh : ∀ b ∈ fp, FpOk X pins H b ∧ b < s.heap.objs.size)
    (sub : ∀ b ∈ wr, b ∈ fp) (kept : ∀ b o, b ∉ wr → s.heap.get? b = some o → h'.get? b = some o) (hT : s.heap.objs.size ≤ T) (tup : h'.IsTuple T us.toArray) (rv : Vals xs us) (sz : xs.length ≤ sizeLine) :
    Inv X pins σ (upd H T (.tup xs)) { s with heap := h', toks := tk } ∧ H T = none ∧ ∀ b ∈ fp, upd H T (.tup xs) b = none :=
  ⟨inv.turnedNew (fun b o nb => kept b o fun m => nb (sub b m)) (fun b hb => (fresh b hb).1) hT ⟨sz, us, rv, tup⟩, inv.hok.fresh hT, fun b hb => by
    rw [upd_ne fun e => Nat.lt_irrefl b (Nat.lt_of_lt_of_le (fresh b hb).2 (by rw [e]; exact hT))]
    exact (fresh b hb).1.1⟩
section
variable {P : Program} {w : World} {K : PySem.W.Frag} {elts : List Expr} {kk : Nat} {tpos : Pos} {t1 t2 t3 : Bool} {a b c z e it TI TO i1 i2 i3 : Addr}
theorem walk_z2 (D : ZipSep2 z TI TO i1 i2 [i1, a] [i2, b]) (na : a ≠ i1) (nb : b ≠ i2) : NewWalk P w K (.Tuple elts kk tpos) (ItZ2 K t1 t2 a b) [z, TI, TO, i1, i2] z
    (fun i h => IsZip h z TI TO .none ∧ IsTupOf2 h TI (.ref i1) (.ref i2) ∧ (∃ x y, IsTupOf2 h TO x y) ∧ ItK t1 h i1 a i ∧ ItK t2 h i2 b i) where
  inI := List.mem_cons_self
  cells := by
    rintro i h ⟨oz, oI, ⟨x, y, oO⟩, o1, o2⟩ d hd
    simp only [List.mem_cons, List.not_mem_nil, or_false] at hd
    rcases hd with rfl | rfl | rfl | rfl | rfl
    · exact ⟨_, oz, nofun⟩
    · exact ⟨_, oI, nofun⟩
    · exact ⟨_, oO, nofun⟩
    · exact itK_obj o1
    · exact itK_obj o2
  stay := by
    rintro i h h' ⟨oz, oI, ⟨x, y, oO⟩, o1, o2⟩ k
    simp only [List.mem_cons, List.not_mem_nil, or_false, forall_eq_or_imp, forall_eq] at k
    exact ⟨k.1 _ oz, k.2.1 _ oI, ⟨x, y, k.2.2.1 _ oO⟩, itK_at o1 k.2.2.2.1, itK_at o2 k.2.2.2.2⟩
  own := fun A i s Q E st => wpAny_pyIter_zip st.1
  more := by
    rintro X i pins s σ H rfl rfl rfl hh inv fresh ⟨oz, oI, oO, o1, o2⟩ ⟨xs, ys, x, y, qx, qy, ex, ey⟩
    obtain ⟨us, ru, pu, _⟩ := seqK inv qx
    obtain ⟨vs, rv, pv, _⟩ := seqK inv qy
    refine ⟨_, _, _, _, _, GoesN.zip2 D (drawsK hh i1 a na t1 us.toArray) (drawsK hh i2 b nb t2 vs.toArray), Nat.lt_min.mpr ⟨lenT ru ex, lenT rv ey⟩, ⟨oz, oI, oO, ⟨o1, pu⟩, ⟨o2, pv⟩⟩, ?_⟩
    rintro v h' tk ⟨T, u, u', rfl, hT, eu, eu', tup⟩ ⟨oz', oI', oO', ⟨o1', _⟩, ⟨o2', _⟩⟩ kept
    obtain ⟨J1, J2, J3⟩ := one_new (tk := tk) (us := [u, u']) inv fresh (by simp) kept hT tup (.cons (itemT ru ex eu) (.cons (itemT rv ey eu') .nil)) (show 2 ≤ sizeLine by decide)
    exact ⟨.ref T, _, J1, rfl, ⟨T, x, y, rfl, J2, rfl, fun l q => injK inv q qx ▸ ex, fun l q => injK inv q qy ▸ ey⟩, ⟨oz', oI', oO', o1', o2'⟩, J3⟩
  last := by
    rintro X i pins s σ H rfl rfl rfl hh inv ⟨oz, oI, oO, o1, o2⟩ ⟨xs, ys, qx, qy, k1, k2, hend⟩
    obtain ⟨us, ru, pu, _⟩ := seqK inv qx
    obtain ⟨vs, rv, pv, _⟩ := seqK inv qy
    have em : min us.toArray.size vs.toArray.size = i := by
      have := ru.length
      have := rv.length
      simp only [List.size_toArray]
      omega
    refine ⟨_, _, _, _, _, GoesN.zip2 D (drawsK hh i1 a na t1 us.toArray) (drawsK hh i2 b nb t2 vs.toArray), ?_, by simp⟩
    rw [em]
    exact ⟨oz, oI, oO, ⟨o1, pu⟩, ⟨o2, pv⟩⟩
theorem walk_z3 (D : ZipSep3 z TI TO i1 i2 i3 [i1, a] [i2, b] [i3, c]) (na : a ≠ i1) (nb : b ≠ i2) (nc : c ≠ i3) : NewWalk P w K (.Tuple elts kk tpos) (ItZ3 K t1 t2 t3 a b c) [z, TI, TO, i1, i2, i3] z
    (fun i h => IsZip h z TI TO .none ∧ IsTupOf3 h TI (.ref i1) (.ref i2) (.ref i3) ∧ (∃ x y v, IsTupOf3 h TO x y v) ∧ ItK t1 h i1 a i ∧ ItK t2 h i2 b i ∧ ItK t3 h i3 c i) where
  inI := List.mem_cons_self
  cells := by
    rintro i h ⟨oz, oI, ⟨x, y, v, oO⟩, o1, o2, o3⟩ d hd
    simp only [List.mem_cons, List.not_mem_nil, or_false] at hd
    rcases hd with rfl | rfl | rfl | rfl | rfl | rfl
    · exact ⟨_, oz, nofun⟩
    · exact ⟨_, oI, nofun⟩
    · exact ⟨_, oO, nofun⟩
    · exact itK_obj o1
    · exact itK_obj o2
    · exact itK_obj o3
  stay := by
    rintro i h h' ⟨oz, oI, ⟨x, y, v, oO⟩, o1, o2, o3⟩ k
    simp only [List.mem_cons, List.not_mem_nil, or_false, forall_eq_or_imp, forall_eq] at k
    exact ⟨k.1 _ oz, k.2.1 _ oI, ⟨x, y, v, k.2.2.1 _ oO⟩, itK_at o1 k.2.2.2.1, itK_at o2 k.2.2.2.2.1, itK_at o3 k.2.2.2.2.2⟩
  own := fun A i s Q E st => wpAny_pyIter_zip st.1
  more := by
    rintro X i pins s σ H rfl rfl rfl hh inv fresh ⟨oz, oI, oO, o1, o2, o3⟩ ⟨xs, ys, zs, x, y, v, qx, qy, qv, ex, ey, ev⟩
    obtain ⟨us, ru, pu, _⟩ := seqK inv qx
    obtain ⟨vs, rv, pv, _⟩ := seqK inv qy
    obtain ⟨ws, rw', pw, _⟩ := seqK inv qv
    refine ⟨_, _, _, _, _, GoesN.zip3 D (drawsK hh i1 a na t1 us.toArray) (drawsK hh i2 b nb t2 vs.toArray) (drawsK hh i3 c nc t3 ws.toArray), Nat.lt_min.mpr ⟨Nat.lt_min.mpr ⟨lenT ru ex, lenT rv ey⟩, lenT rw' ev⟩, ⟨oz, oI, oO, ⟨o1, pu⟩, ⟨o2, pv⟩, ⟨o3, pw⟩⟩, ?_⟩
    rintro _ h' tk ⟨T, u, u', u'', rfl, hT, eu, eu', eu'', tup⟩ ⟨oz', oI', oO', ⟨o1', _⟩, ⟨o2', _⟩, ⟨o3', _⟩⟩ kept
    obtain ⟨J1, J2, J3⟩ := one_new (tk := tk) (us := [u, u', u'']) inv fresh (by simp) kept hT tup (.cons (itemT ru ex eu) (.cons (itemT rv ey eu') (.cons (itemT rw' ev eu'') .nil))) (show 3 ≤ sizeLine by decide)
    exact ⟨.ref T, _, J1, rfl, ⟨T, x, y, v, rfl, J2, rfl, fun l q => injK inv q qx ▸ ex, fun l q => injK inv q qy ▸ ey, fun l q => injK inv q qv ▸ ev⟩, ⟨oz', oI', oO', o1', o2', o3'⟩, J3⟩
  last := by
    rintro X i pins s σ H rfl rfl rfl hh inv ⟨oz, oI, oO, o1, o2, o3⟩ ⟨xs, ys, zs, qx, qy, qz, k1, k2, k3, hend⟩
    obtain ⟨us, ru, pu, _⟩ := seqK inv qx
    obtain ⟨vs, rv, pv, _⟩ := seqK inv qy
    obtain ⟨ws, rw', pw, _⟩ := seqK inv qz
    have em : min (min us.toArray.size vs.toArray.size) ws.toArray.size = i := by
      have := ru.length
      have := rv.length
      have := rw'.length
      simp only [List.size_toArray]
      omega
    refine ⟨_, _, _, _, _, GoesN.zip3 D (drawsK hh i1 a na t1 us.toArray) (drawsK hh i2 b nb t2 vs.toArray) (drawsK hh i3 c nc t3 ws.toArray), ?_, by simp⟩
    rw [em]
    exact ⟨oz, oI, oO, ⟨o1, pu⟩, ⟨o2, pv⟩, ⟨o3, pw⟩⟩
theorem walk_e (na : a ≠ it) (ne : e ≠ it) (nea : e ≠ a) : NewWalk P w K (.Tuple elts kk tpos) (ItE K t1 a) [e, it] e (fun i h => (∃ old, IsEnum h e it ((i : Nat) : Int) old) ∧ ItK t1 h it a i) where
  inI := List.mem_cons_self
  cells := by
    rintro i h ⟨⟨old, oe⟩, o1⟩ d hd
    simp only [List.mem_cons, List.not_mem_nil, or_false] at hd
    rcases hd with rfl | rfl
    · exact ⟨_, oe, nofun⟩
    · exact itK_obj o1
  stay := by
    rintro i h h' ⟨⟨old, oe⟩, o1⟩ k
    simp only [List.mem_cons, List.not_mem_nil, or_false, forall_eq_or_imp, forall_eq] at k
    exact ⟨⟨old, k.1 _ oe⟩, itK_at o1 k.2⟩
  own := fun A i s Q E st q => st.1.elim fun old oe => wpAny_pyIter_enum oe q
  more := by
    rintro X i pins s σ H rfl rfl rfl hh inv fresh ⟨⟨old, oe⟩, o1⟩ ⟨xs, x, qx, ex⟩
    obtain ⟨us, ru, pu, _⟩ := seqK inv qx
    refine ⟨_, _, _, _, _, GoesN.enumFrom 0 (drawsK hh it a na t1 us.toArray) e ne (by simp [ne, nea]) (by simp), lenT ru ex, ⟨⟨old, by rw [Int.zero_add]; exact oe⟩, o1, pu⟩, ?_⟩
    rintro v h' tk ⟨T, t, u, rfl, hT, eu, tup⟩ ⟨⟨old', oe'⟩, o1', _⟩ kept
    rw [Int.zero_add] at tup oe'
    obtain ⟨J1, J2, J3⟩ := one_new (tk := tk) (us := [.int i t, u]) inv fresh (by simp) kept hT tup (.cons (show RelV (.int (i : Nat)) (.int i t) from ⟨_, rfl⟩) (.cons (itemT ru ex eu) .nil)) (show 2 ≤ sizeLine by decide)
    exact ⟨.ref T, _, J1, rfl, ⟨T, x, rfl, J2, rfl, fun l q => injK inv q qx ▸ ex⟩, ⟨⟨old', oe'⟩, o1'⟩, J3⟩
  last := by
    rintro X i pins s σ H rfl rfl rfl hh inv ⟨⟨old, oe⟩, o1⟩ ⟨xs, qx, hend⟩
    obtain ⟨us, ru, pu, _⟩ := seqK inv qx
    have em : us.toArray.size = i := by
      have := ru.length
      simp only [List.size_toArray]
      omega
    refine ⟨_, _, _, _, _, GoesN.enumFrom 0 (drawsK hh it a na t1 us.toArray) e ne (by simp [ne, nea]) (by simp), ?_, by simp⟩
    rw [em]
    exact ⟨⟨old, by rw [Int.zero_add]; exact oe⟩, o1, pu⟩
end
end Mi
set_option Elab.async false
set_option linter.all false
set_option maxRecDepth 100000
set_option maxHeartbeats 2000000
namespace Mi
open PySem PySem.Spec PyProof.Rows L2
/-- a key as data -/
def keyMV : Key → MV
  | .inl i => .int i
  | .inr x => .str x
inductive Src where
  | seq (d : MV) (xs : List MV)
  | rng (lo : Int) (n : Nat)
  | enm (d : MV) (xs : List MV)
  | zp2 (d : MV) (xs : List MV) (e : MV) (ys : List MV)
  | zp3 (d : MV) (xs : List MV) (e : MV) (ys : List MV) (f : MV) (zs : List MV)
  | ezp (d : MV) (xs : List MV) (e : MV) (ys : List MV)
  | dks (ks : List Key)
  | dkt (ks : List MV)
def enmI : Nat → List MV → List MV
  | _, [] => []
  | i, x :: xs => .tup [.int (i : Nat), x] :: enmI (i + 1) xs
def zipI : List MV → List MV → List MV
  | x :: xs, y :: ys => .tup [x, y] :: zipI xs ys
  | _, _ => []
def zipI3 : List MV → List MV → List MV → List MV
  | x :: xs, y :: ys, z :: zs => .tup [x, y, z] :: zipI3 xs ys zs
  | _, _, _ => []
def Src.items : Src → List MV
  | .seq _ xs => xs
  | .rng lo n => (List.range n).map fun (i : Nat) => .int (lo + i)
  | .enm _ xs => enmI 0 xs
  | .zp2 _ xs _ ys => zipI xs ys
  | .zp3 _ xs _ ys _ zs => zipI3 xs ys zs
  | .ezp _ xs _ ys => enmI 0 (zipI xs ys)
  | .dks ks => ks.map keyMV
  | .dkt ks => ks
def Src.ok (S : Sto) : Src → Bool
  | .seq d xs => decide (seqOf S d = some xs)
  | .rng _ _ => true
  | .enm d xs => decide (seqOf S d = some xs)
  | .zp2 d xs e ys => decide (seqOf S d = some xs) && decide (seqOf S e = some ys)
  | .zp3 d xs e ys f zs => decide (seqOf S d = some xs) && (decide (seqOf S e = some ys) && decide (seqOf S f = some zs))
  | .ezp d xs e ys => decide (seqOf S d = some xs) && decide (seqOf S e = some ys)
  | .dks _ => true
  | .dkt _ => true
def isT : MV → Bool
  | .tup _ => true
  | _ => false
theorem seqK_of {C : RC} {S : Sto} {d : MV} {v : V} {xs : List MV} (r : RepS C S) (h : RepV C d v) (e : seqOf S d = some xs) : ∃ a vs, v = .ref a ∧ SqK C.K (isT d) C.H a vs ∧ RepVs C xs vs := by
  cases d with
  | tup ys =>
    rw [seqOf] at e; cases e
    rw [RepV] at h
    obtain ⟨a, vs, e, q, t⟩ := h
    exact ⟨a, vs, e, q, t⟩
  | kls ys =>
    rw [seqOf] at e; cases e
    rw [RepV] at h
    obtain ⟨a, vs, e, q, t⟩ := h
    refine ⟨a, vs, e, ?_, t⟩
    rcases q with ⟨o, q⟩ | q
    · exact .inl (.inr ⟨o, q⟩)
    · exact q.sq _
  | lst ys => obtain ⟨a, vs, e, q, t⟩ := lstOf_rep r h e; exact ⟨a, vs, e, (show SqL C.K C.H a vs from .of q), t⟩
  | ref n => obtain ⟨a, vs, e, q, t⟩ := lstOf_rep r h e; exact ⟨a, vs, e, (show SqL C.K C.H a vs from .of q), t⟩
  | _ => cases e
theorem Tr.refl {b : Nat} {C : RC} : Tr b C C := ⟨rfl, rfl, fun _ _ h => h, fun _ _ n h => ⟨n, .inl h⟩, fun _ _ _ h => h, fun _ _ _ h => h⟩
theorem Tr.trans {b b' : Nat} {C C1 C2 : RC} (x : Tr b C C1) (y : Tr b' C1 C2) (h : b ≤ b') : Tr b C C2 where
  w := y.w.trans x.w
  K := y.K.trans x.K
  seqT := fun a vs q => y.seqT _ _ (x.seqT _ _ q)
  froz := fun a u n q => by
    obtain ⟨n1, k⟩ := x.froz _ _ n q
    rcases k with k | ⟨nb, e, ob, k⟩
    · obtain ⟨n2, j⟩ := y.froz _ _ n1 k
      rcases j with j | ⟨_, e, j⟩
      · exact ⟨n2, .inl j⟩
      · exact ⟨n2, .inr ⟨n.2, e, j⟩⟩
    · obtain ⟨n2, j⟩ := y.froz _ _ n1 k
      exact ⟨n2, .inr ⟨nb, e, ob, j.exact (.inl fun _ z => by cases z)⟩⟩
  frz := fun a o u q => y.frz _ _ _ (x.frz _ _ _ q)
  ref := fun n a hn q => y.ref n a (Nat.lt_of_lt_of_le hn h) (x.ref n a hn q)
theorem RepV.trn {C C' : RC} (x : Tr C.ι.length C C') {d : MV} {v : V} (h : RepV C d v) : RepV C' d v := RepV.tr x d v (RepV.refs d v h) h
theorem RepVs.trn {C C' : RC} (x : Tr C.ι.length C C') {d : List MV} {v : List V} (h : RepVs C d v) : RepVs C' d v := RepVs.tr x d v (RepVs.refs d v h) h
theorem RepO.trn {C C' : RC} {a : Addr} {o : MO} (x : Tr C.ι.length C C') (e : C'.H a = C.H a) (h : RepO C a o) : RepO C' a o := by
  cases o with
  | lst xs => obtain ⟨vs, q, t⟩ := h; exact ⟨vs, e.trans q, t.trn x⟩
  | dct ks ds => obtain ⟨vs, q, l, nd, t⟩ := h; exact ⟨vs, e.trans q, l, nd, t.trn x⟩
  | dcT ks ds =>
    obtain ⟨sm, ko, nd, l, z, ob, es, ep, ps, us, kvs, vs, q, ex, hd, he, hk, tk, rv, t⟩ := h
    exact ⟨sm, ko, nd, l, z, ob, es, ep, ps, us, kvs, vs, e.trans q, ex, hd, by rw [x.w]; exact he, hk, tk.trn x, rv, t.trn x⟩
  | obj c fs ds => obtain ⟨dx, vs, q, l, t⟩ := h; exact ⟨dx, vs, by rw [x.K]; exact e.trans q, l, t.trn x⟩
/-- what a walk over a source gives -/
def SrcW (X : Cx) (src : Src) (J : It) (C0 : RC) : Prop := ∀ C S, Tr C0.ι.length C0 C → RepS C S → src.ok S = true →
  (∀ i, i < src.items.length → J.go i C.H) ∧ J.stop src.items.length C.H ∧
  ∀ i x H', i < src.items.length → J.yld i C.H x H' → ∃ C' d, C'.H = H' ∧ Grow C C' ∧ RepS C' S ∧ src.items[i]? = some d ∧ RepV C' d x
def tI (X : Cx) (W : WX) (m : Ev → Sto → R Src) : TI := fun σ H Rr => ∃ C ρ S, C.H = H ∧ Sv X ρ σ S C ∧ Wants W σ C (m ρ S) (fun src _ C' => ∀ J, SrcW X src J C' → Rr J C'.H)
abbrev SI (X : Cx) (W : WX) (tg iter : Expr) (m : Ev → Sto → R Src) : Prop := PI X tg iter (tI X W m)
def srcOf (d : MV) (S : Sto) : R Src := match seqOf S d with
  | some xs => .ok (.seq d xs) S
  | none => .stk
def mSrc (e : ME) : Ev → Sto → R Src := fun ρ S => (e ρ S).bind srcOf
theorem srcOf_of {d : MV} {S S' : Sto} {s : Src} (h : srcOf d S = .ok s S') : ∃ xs, seqOf S d = some xs ∧ s = .seq d xs ∧ S' = S := by
  unfold srcOf at h
  split at h
  · cases h; exact ⟨_, by assumption, rfl, rfl⟩
  · cases h
def JSeq (K : PySem.W.Frag) : Bool → Addr → It
  | true, a => Itt K a
  | false, a => Itl K a
theorem src_seq {X : Cx} {C0 : RC} {d : MV} {xs : List MV} {a : Addr} (hK : C0.K = X.K) (rv : RepV C0 d (.ref a)) : SrcW X (.seq d xs) (JSeq X.K (isT d) a) C0 := fun C S x r ok => by
  have rv' := rv.trn x
  have e : seqOf S d = some xs := of_decide_eq_true ok
  obtain ⟨a', vs, e1, sq, t⟩ := seqK_of r rv' e
  cases e1
  rw [x.K, hK] at sq
  have l := t.length
  show (∀ i, i < xs.length → _) ∧ (JSeq X.K (isT d) a).stop xs.length C.H ∧ ∀ i x H', i < xs.length → _ → _
  cases hd : isT d with
  | true =>
    rw [hd] at sq
    refine ⟨fun i hi => ⟨vs, vs[i]'(by omega), sq, by rw [List.getElem?_eq_getElem]⟩, ⟨vs, sq, by omega⟩, fun i z H' hi y => ?_⟩
    obtain ⟨e2, y⟩ := y
    obtain ⟨d', h1, h2⟩ := t.get' (y vs sq)
    exact ⟨C, d', e2.symm, Grow.refl, r, h1, h2⟩
  | false =>
    rw [hd] at sq
    refine ⟨fun i hi => ⟨vs, vs[i]'(by omega), sq, by rw [List.getElem?_eq_getElem]⟩, ⟨vs, sq, by omega⟩, fun i z H' hi y => ?_⟩
    obtain ⟨e2, y⟩ := y
    obtain ⟨d', h1, h2⟩ := t.get' (y vs sq)
    exact ⟨C, d', e2.symm, Grow.refl, r, h1, h2⟩
theorem pi_seqK {X : Cx} {tg l : Expr} {tl : TE} (hl : PE X l tl) : PI X tg l (fun σ H Rr => tl σ H fun x H1 => ∃ a t xs, x = .ref a ∧ SqK X.K t H1 a xs ∧ Rr (JSeq X.K t a) H1) where
  run pins s σ H Rr inv q := by
    refine thn (hl.run pins s σ H _ inv q) ?_
    rintro v s1 ⟨_, H1, inv1, rv, a, t, xs, rfl, sq, q1⟩
    cases rv
    obtain ⟨us, _, p, _⟩ := seqK inv1 sq
    cases t
    · exact wpAny_pyIter_list p (pi_one (tk := s1.toks) inv1 _ (turn_list a _) ⟨_, Heap.get?_push_size _ rfl, rfl, rfl⟩ q1)
    · exact wpAny_pyIter_tuple p (pi_one (tk := s1.toks) inv1 _ (turn_tuple a _) ⟨_, Heap.get?_push_size _ rfl, rfl, rfl⟩ q1)
theorem _root_.L2.PI.imp {X : Cx} {tg it : Expr} {t t' : TI} (h : PI X tg it t) (k : ∀ σ H Q, t' σ H Q → t σ H Q) : PI X tg it t' := ⟨fun pins s σ H Q I q => h.run pins s σ H Q I (k σ H Q q)⟩
section
variable {X : Cx} {W : WX} {tg l e e2 e3 : Expr} {ml : ME} {mas : MA} {p pos tpos : Pos} {elts : List Expr} {kk : Nat}
theorem si_seq (hl : SE X W l ml) : SI X W tg l (mSrc ml) :=
  (pi_seqK hl).imp fun σ H Q ⟨C, ρ, S, e, s, q⟩ => by
    subst e
    refine tE.bind s q fun d S1 C1 v s1 g1 r1 q1 => ?_
    cases e : srcOf d S1 with
    | ok src S' =>
      rw [e] at q1
      obtain ⟨xs, e1, rfl, rfl⟩ := srcOf_of e
      obtain ⟨a, vs, rfl, sq, t⟩ := seqK_of s1.rs r1 e1
      rw [s1.K] at sq
      exact ⟨a, isT d, vs, rfl, sq, q1.now s1.rs _ (src_seq s1.K r1)⟩
    | exc c d' S' => unfold srcOf at e; split at e <;> cases e
    | stk => rw [e] at q1; exact q1.elim
def rngFit : Int → Bool
  | .ofNat m => Nat.blt m 4611686018427387904
  | .negSucc m => Nat.blt m 4611686018427387904
theorem rngFit_ok : ∀ {j : Int}, rngFit j = true → -(2 ^ 62) ≤ j ∧ j < 2 ^ 62
  | .ofNat m, h => by
    have h : m ≤ 4611686018427387903 := by simpa [rngFit, Nat.blt] using h
    have e : Int.ofNat m = (m : Int) := rfl
    rw [e]; omega
  | .negSucc m, h => by
    have h : m ≤ 4611686018427387903 := by simpa [rngFit, Nat.blt] using h
    have e : Int.negSucc m = -(m : Int) - 1 := by omega
    rw [e]; omega
def rngOf : List MV → Sto → R Src
  | [.int j], S => if rngFit j then .ok (.rng 0 j.toNat) S else .stk
  | _, _ => .stk
def mRng (m : MA) : Ev → Sto → R Src := fun ρ S => (m ρ S).bind rngOf
def rng2Of : List MV → Sto → R Src
  | [.int i, .int j], S => if rngFit i && rngFit j then .ok (.rng i (j - i).toNat) S else .stk
  | _, _ => .stk
def mRng2 (m : MA) : Ev → Sto → R Src := fun ρ S => (m ρ S).bind rng2Of
theorem src_rng {C0 : RC} {lo : Int} {n : Nat} : SrcW X (.rng lo n) (Itr lo n) C0 := fun C S x r ok => by
  have hl : (Src.rng lo n).items.length = n := by simp [Src.items]
  rw [hl]
  refine ⟨fun i hi => hi, Nat.le_refl _, fun i z H' hi y => ?_⟩
  obtain ⟨rfl, rfl⟩ := y
  exact ⟨C, .int (lo + i), rfl, Grow.refl, r, by simp [Src.items, hi], repI _⟩
theorem si_rng (hg : Gl X "range") (hm : X.mg "range" = none) (ha : SA X W [e] mas) (hs : starEach [e] X.env = [(false, eval e X.env)] := by rfl) : SI X W tg (.Call (.Name "range" p) [e] [] pos) (mRng mas) :=
  (pi_range1 hg hm ha hs).imp fun σ H Q ⟨C, ρ, S, e, s, q⟩ => by
    subst e
    refine tA.bind s q fun ds S1 C1 vs s1 g1 r1 q1 => ?_
    unfold rngOf at q1
    split at q1
    · split at q1
      · obtain ⟨v, rfl, rv⟩ := one_of r1
        rename_i h
        have h := rngFit_ok h
        exact ⟨_, by rw [vInt rv], h.1, h.2, q1.now s1.rs _ src_rng⟩
      · exact q1.elim
    · exact q1.elim
theorem refs_of : ∀ {as : List Addr} {us : List Value}, Vals (as.map V.ref) us → us = as.map Value.ref
  | [], _, .nil => rfl
  | a :: as, _, .cons r rr => by rw [refs_of rr]; cases r; rfl
theorem pi_made {ta : TA} {es : List Expr} {nm : Str} {T : String} {wq : List V → Hp → (It → Hp → Prop) → Prop} (hg : Gl X nm) (hm : X.mg nm = none) (hv : bootBuiltins nm = some (.type T)) (ha : PA X (e :: es) ta)
    (mk : ∀ (pins : List (Addr × Obj)) (σ : L2.St) (H : Hp) (s : Shared) (us : List Value) (vs : List V) (Rr : It → Hp → Prop), Inv X pins σ H s → Vals vs us → wq vs H Rr →
      wpAny (model X.prog X.w) X.A (call (.type T) us) (fun v s' => wpAny (model X.prog X.w) X.A (pyIter v) (PIE X pins σ tg Rr) X.xe s') X.xe s)
    (hs : starEach (e :: es) X.env = (false, eval e X.env) :: starEach es X.env) (hpl : (backTo pos (starEach es X.env)).any (·.1) = false) (nn : nm ≠ "__name__" := by decide) (nd : (nm == ("__debug__" : Str)) = false := by decide) :
    PI X tg (.Call (.Name nm p) (e :: es) [] pos) (fun σ H Rr => ta σ H fun vs H1 => wq vs H1 Rr) where
  run pins s σ H Rr inv q := Call_ (ld_blt inv hg hm hv (callWith_type1 (thn (ha.run pos pins s σ H _ inv q) fun us s1 ⟨vs, H1, inv1, r, q1⟩ => mk pins σ H1 s1 us vs Rr inv1 r q1) hs hpl) nn nd)
theorem all_new {pins : List (Addr × Obj)} {σ : L2.St} {H : Hp} {s : Shared} (inv : Inv X pins σ H s) {fp : List Addr} (h : fp.all (fun b => Nat.ble s.heap.objs.size b) = true) : ∀ b ∈ fp, FpOk X pins H b := fun b hb => by
  have le : s.heap.objs.size ≤ b := Nat.le_of_ble_eq_true (List.all_eq_true.mp h b hb)
  exact inv.fpOk le (inv.hok.fresh le)
theorem pi_z2 {ta : TA} (hg : Gl X "zip") (hm : X.mg "zip" = none) (ha : PA X [e, e2] ta)
    (hs : starEach (e :: [e2]) X.env = (false, eval e X.env) :: starEach [e2] X.env) (hpl : (backTo pos (starEach [e2] X.env)).any (·.1) = false) :
    PI X (.Tuple elts kk tpos) (.Call (.Name "zip" p) (e :: [e2]) [] pos) (fun σ H Rr => ta σ H fun vs H1 => ∃ a b t1 t2 xs ys, vs = [.ref a, .ref b] ∧ SqK X.K t1 H1 a xs ∧ SqK X.K t2 H1 b ys ∧ Rr (ItZ2 X.K t1 t2 a b) H1) := by
  refine pi_made hg hm PyProof.Rows.boot_zip ha ?_ hs hpl
  rintro pins σ H s us _ Rr inv r ⟨a, b, t1, t2, xs, ys, rfl, qx, qy, q⟩
  cases refs_of (as := [a, b]) r
  obtain ⟨ua, _, pa, la⟩ := seqK inv qx
  obtain ⟨ub, _, pb, lb⟩ := seqK inv qy
  refine zip_begins2 (beginsK a ua.toArray t1) (beginsK b ub.toArray t2) pa pb fun h' oz oI oO o1 o2 _ kept => wpAny_pyIter_zip oz ?_
  have sep := zip_sep2 (N := s.heap.objs.size) (fp1 := [a]) (fp2 := [b]) (by simpa using la) (by simpa using lb)
  exact ⟨_, _, _, _, H, rfl, inv.kept (t' := s.toks) kept, (walk_z2 sep (Nat.ne_of_lt la) (Nat.ne_of_lt (Nat.lt_succ_of_lt lb))).turn, ⟨oz, oI, ⟨_, _, oO⟩, itK_new o1, itK_new o2⟩, all_new inv (by simp [Nat.ble_eq]), q⟩
theorem pi_z3 {ta : TA} (hg : Gl X "zip") (hm : X.mg "zip" = none) (ha : PA X [e, e2, e3] ta)
    (hs : starEach (e :: [e2, e3]) X.env = (false, eval e X.env) :: starEach [e2, e3] X.env) (hpl : (backTo pos (starEach [e2, e3] X.env)).any (·.1) = false) :
    PI X (.Tuple elts kk tpos) (.Call (.Name "zip" p) (e :: [e2, e3]) [] pos) (fun σ H Rr => ta σ H fun vs H1 => ∃ a b c t1 t2 t3 xs ys zs, vs = [.ref a, .ref b, .ref c] ∧ SqK X.K t1 H1 a xs ∧ SqK X.K t2 H1 b ys ∧ SqK X.K t3 H1 c zs ∧ Rr (ItZ3 X.K t1 t2 t3 a b c) H1) := by
  refine pi_made hg hm PyProof.Rows.boot_zip ha ?_ hs hpl
  rintro pins σ H s us _ Rr inv r ⟨a, b, c, t1, t2, t3, xs, ys, zs, rfl, qx, qy, qz, q⟩
  cases refs_of (as := [a, b, c]) r
  obtain ⟨ua, _, pa, la⟩ := seqK inv qx
  obtain ⟨ub, _, pb, lb⟩ := seqK inv qy
  obtain ⟨uc, _, pc, lc⟩ := seqK inv qz
  refine zip_begins3 (beginsK a ua.toArray t1) (beginsK b ub.toArray t2) (beginsK c uc.toArray t3) pa pb pc fun h' oz oI oO o1 o2 o3 _ kept => wpAny_pyIter_zip oz ?_
  have sep := zip_sep3 (N := s.heap.objs.size) (fp1 := [a]) (fp2 := [b]) (fp3 := [c]) (by simpa using la) (by simpa using lb) (by simpa using lc)
  exact ⟨_, _, _, _, H, rfl, inv.kept (t' := s.toks) kept, (walk_z3 sep (Nat.ne_of_lt la) (Nat.ne_of_lt (Nat.lt_succ_of_lt lb)) (Nat.ne_of_lt (Nat.lt_add_right 2 lc))).turn, ⟨oz, oI, ⟨_, _, _, oO⟩, itK_new o1, itK_new o2, itK_new o3⟩, all_new inv (by simp [Nat.ble_eq]), q⟩
theorem zipI_get : ∀ {xs ys : List MV} {i : Nat} {x y : MV}, xs[i]? = some x → ys[i]? = some y → (zipI xs ys)[i]? = some (.tup [x, y])
  | [], _, _, _, _, e1, _ => by simp at e1
  | _ :: _, [], _, _, _, _, e2 => by simp at e2
  | a :: xs, b :: ys, 0, x, y, h, h' => by simp at h h'; subst h; subst h'; rfl
  | a :: xs, b :: ys, i + 1, x, y, h, h' => by
    have := zipI_get (xs := xs) (ys := ys) (i := i) (by simpa using h) (by simpa using h')
    simpa [zipI] using this
theorem zipI_len : ∀ {xs ys : List MV}, (zipI xs ys).length = min xs.length ys.length
  | [], _ => by simp [zipI]
  | _ :: _, [] => by simp [zipI]
  | a :: xs, b :: ys => by simp only [zipI, List.length_cons, zipI_len (xs := xs) (ys := ys)]; omega
theorem zipI3_get : ∀ {xs ys zs : List MV} {i : Nat} {x y z : MV}, xs[i]? = some x → ys[i]? = some y → zs[i]? = some z → (zipI3 xs ys zs)[i]? = some (.tup [x, y, z])
  | [], _, _, _, _, _, _, h, _, _ => by simp at h
  | _ :: _, [], _, _, _, _, _, _, h, _ => by simp at h
  | _ :: _, _ :: _, [], _, _, _, _, _, _, h => by simp at h
  | a :: xs, b :: ys, c :: zs, 0, x, y, z, h, h', h'' => by simp at h h' h''; subst h; subst h'; subst h''; rfl
  | a :: xs, b :: ys, c :: zs, i + 1, x, y, z, h, h', h'' => by
    have := zipI3_get (xs := xs) (ys := ys) (zs := zs) (i := i) (by simpa using h) (by simpa using h') (by simpa using h'')
    simpa [zipI3] using this
theorem zipI3_len : ∀ {xs ys zs : List MV}, (zipI3 xs ys zs).length = min xs.length (min ys.length zs.length)
  | [], _, _ => by simp [zipI3]
  | _ :: _, [], _ => by simp [zipI3]
  | _ :: _, _ :: _, [] => by simp [zipI3]
  | a :: xs, b :: ys, c :: zs => by simp only [zipI3, List.length_cons, zipI3_len (xs := xs) (ys := ys) (zs := zs)]; omega
theorem enmI_get : ∀ {xs : List MV} {i k : Nat} {x : MV}, xs[i]? = some x → (enmI k xs)[i]? = some (.tup [.int ((k + i : Nat) : Int), x])
  | [], _, _, _, e1 => by simp at e1
  | a :: xs, 0, k, x, h => by simp at h; subst h; rfl
  | a :: xs, i + 1, k, x, h => by
    have := enmI_get (xs := xs) (i := i) (k := k + 1) (by simpa using h)
    rw [show k + 1 + i = k + (i + 1) by omega] at this
    simpa [enmI] using this
theorem enmI_len : ∀ {xs : List MV} {k : Nat}, (enmI k xs).length = xs.length
  | [], _ => rfl
  | a :: xs, k => by simp only [enmI, List.length_cons, enmI_len (xs := xs)]
theorem src_z2 {C0 : RC} {d e : MV} {xs ys : List MV} {a b : Addr} (hK : C0.K = X.K) (rv : RepV C0 d (.ref a)) (rv2 : RepV C0 e (.ref b)) : SrcW X (.zp2 d xs e ys) (ItZ2 X.K (isT d) (isT e) a b) C0 := fun C S x r ok => by
  have ok' : seqOf S d = some xs ∧ seqOf S e = some ys := by simpa [Src.ok] using ok
  obtain ⟨a', vs, e1, sq, t⟩ := seqK_of r (rv.trn x) ok'.1
  obtain ⟨b', us, e2, sq2, t2⟩ := seqK_of r (rv2.trn x) ok'.2
  cases e1
  cases e2
  rw [x.K, hK] at sq sq2
  have l := t.length
  have l2 := t2.length
  have hl : (Src.zp2 d xs e ys).items.length = min xs.length ys.length := zipI_len
  rw [hl]
  refine ⟨fun i hi => ⟨vs, us, vs[i]'(by omega), us[i]'(by omega), sq, sq2, by rw [List.getElem?_eq_getElem], by rw [List.getElem?_eq_getElem]⟩, ⟨vs, us, sq, sq2, by omega, by omega, by omega⟩, fun i z H' hi y => ?_⟩
  obtain ⟨T, x1, y1, rfl, hT, rfl, f1, f2⟩ := y
  obtain ⟨d1, h1, h2⟩ := t.get' (f1 vs sq)
  obtain ⟨d2, h3, h4⟩ := t2.get' (f2 us sq2)
  exact ⟨C.put T (.tup [x1, y1]), _, rfl, Grow.put hT, r.put hT, zipI_get h1 h3, repTup put_same (.cons (h2.grow (Grow.put hT) r) (.cons (h4.grow (Grow.put hT) r) .nil))⟩
theorem src_z3 {C0 : RC} {d e f : MV} {xs ys zs : List MV} {a b c : Addr} (hK : C0.K = X.K) (rv : RepV C0 d (.ref a)) (rv2 : RepV C0 e (.ref b)) (rv3 : RepV C0 f (.ref c)) : SrcW X (.zp3 d xs e ys f zs) (ItZ3 X.K (isT d) (isT e) (isT f) a b c) C0 := fun C S x r ok => by
  have ok' : seqOf S d = some xs ∧ seqOf S e = some ys ∧ seqOf S f = some zs := by simpa [Src.ok] using ok
  obtain ⟨a', vs, e1, sq, t⟩ := seqK_of r (rv.trn x) ok'.1
  obtain ⟨b', us, e2, sq2, t2⟩ := seqK_of r (rv2.trn x) ok'.2.1
  obtain ⟨c', ws, e3, sq3, t3⟩ := seqK_of r (rv3.trn x) ok'.2.2
  cases e1
  cases e2
  cases e3
  rw [x.K, hK] at sq sq2 sq3
  have l := t.length
  have l2 := t2.length
  have l3 := t3.length
  have hl : (Src.zp3 d xs e ys f zs).items.length = min xs.length (min ys.length zs.length) := zipI3_len
  rw [hl]
  refine ⟨fun i hi => ⟨vs, us, ws, vs[i]'(by omega), us[i]'(by omega), ws[i]'(by omega), sq, sq2, sq3, by rw [List.getElem?_eq_getElem], by rw [List.getElem?_eq_getElem], by rw [List.getElem?_eq_getElem]⟩, ⟨vs, us, ws, sq, sq2, sq3, by omega, by omega, by omega, by omega⟩, fun i z H' hi y => ?_⟩
  obtain ⟨T, x1, y1, z1, rfl, hT, rfl, f1, f2, f3⟩ := y
  obtain ⟨d1, h1, h2⟩ := t.get' (f1 vs sq)
  obtain ⟨d2, h3, h4⟩ := t2.get' (f2 us sq2)
  obtain ⟨d3, h5, h6⟩ := t3.get' (f3 ws sq3)
  exact ⟨C.put T (.tup [x1, y1, z1]), _, rfl, Grow.put hT, r.put hT, zipI3_get h1 h3 h5, repTup put_same (.cons (h2.grow (Grow.put hT) r) (.cons (h4.grow (Grow.put hT) r) (.cons (h6.grow (Grow.put hT) r) .nil)))⟩
theorem src_e {C0 : RC} {d : MV} {xs : List MV} {a : Addr} (hK : C0.K = X.K) (rv : RepV C0 d (.ref a)) : SrcW X (.enm d xs) (ItE X.K (isT d) a) C0 := fun C S x r ok => by
  have ok' : seqOf S d = some xs := by simpa [Src.ok] using ok
  obtain ⟨a', vs, e1, sq, t⟩ := seqK_of r (rv.trn x) ok'
  cases e1
  rw [x.K, hK] at sq
  have l := t.length
  have hl : (Src.enm d xs).items.length = xs.length := enmI_len
  rw [hl]
  refine ⟨fun i hi => ⟨vs, vs[i]'(by omega), sq, by rw [List.getElem?_eq_getElem]⟩, ⟨vs, sq, by omega⟩, fun i z H' hi y => ?_⟩
  obtain ⟨T, x1, rfl, hT, rfl, f1⟩ := y
  obtain ⟨d1, h1, h2⟩ := t.get' (f1 vs sq)
  have := enmI_get (k := 0) h1
  rw [Nat.zero_add] at this
  exact ⟨C.put T (.tup [.int (i : Nat), x1]), _, rfl, Grow.put hT, r.put hT, this, repTup put_same (.cons (repI _) (.cons (h2.grow (Grow.put hT) r) .nil))⟩
def zp2Of : List MV → Sto → R Src
  | [d, e], S => match seqOf S d, seqOf S e with
    | some xs, some ys => .ok (.zp2 d xs e ys) S
    | _, _ => .stk
  | _, _ => .stk
def mZip2 (m : MA) : Ev → Sto → R Src := fun ρ S => (m ρ S).bind zp2Of
def zp3Of : List MV → Sto → R Src
  | [d, e, f], S => match seqOf S d, seqOf S e, seqOf S f with
    | some xs, some ys, some zs => .ok (.zp3 d xs e ys f zs) S
    | _, _, _ => .stk
  | _, _ => .stk
def mZip3 (m : MA) : Ev → Sto → R Src := fun ρ S => (m ρ S).bind zp3Of
def enmOf : List MV → Sto → R Src
  | [d], S => match seqOf S d with
    | some xs => .ok (.enm d xs) S
    | none => .stk
  | _, _ => .stk
def mEnum (m : MA) : Ev → Sto → R Src := fun ρ S => (m ρ S).bind enmOf
theorem si_zip2 (hg : Gl X "zip") (hm : X.mg "zip" = none) (ha : SA X W [e, e2] mas)
    (hs : starEach (e :: [e2]) X.env = (false, eval e X.env) :: starEach [e2] X.env := by rfl)
    (hpl : (backTo pos (starEach [e2] X.env)).any (·.1) = false := by rfl) :
    SI X W (.Tuple elts kk tpos) (.Call (.Name "zip" p) [e, e2] [] pos) (mZip2 mas) :=
  (pi_z2 hg hm ha hs hpl).imp fun σ H Q ⟨C, ρ, S, e, s, q⟩ => by
    subst e
    refine tA.bind s q fun ds S1 C1 vs s1 g1 r1 q1 => ?_
    unfold zp2Of at q1
    split at q1
    · split at q1
      · rename_i e1 e2
        obtain ⟨v, u, rfl, rv, ru⟩ := two_of r1
        obtain ⟨a, vs, rfl, sq, t⟩ := seqK_of s1.rs rv e1
        obtain ⟨b, us, rfl, sq2, t2⟩ := seqK_of s1.rs ru e2
        rw [s1.K] at sq sq2
        exact ⟨a, b, _, _, vs, us, rfl, sq, sq2, q1.now s1.rs _ (src_z2 s1.K rv ru)⟩
      · exact q1.elim
    · exact q1.elim
theorem three_of {C : RC} {d e f : MV} {vs : List V} (t : RepVs C [d, e, f] vs) : ∃ v u w, vs = [v, u, w] ∧ RepV C d v ∧ RepV C e u ∧ RepV C f w := by
  obtain ⟨v, vr, rfl, r, t⟩ := t.cons_inv
  obtain ⟨u, w, rfl, r2, r3⟩ := two_of t
  exact ⟨v, u, w, rfl, r, r2, r3⟩
theorem si_zip3 (hg : Gl X "zip") (hm : X.mg "zip" = none) (ha : SA X W [e, e2, e3] mas)
    (hs : starEach (e :: [e2, e3]) X.env = (false, eval e X.env) :: starEach [e2, e3] X.env := by rfl)
    (hpl : (backTo pos (starEach [e2, e3] X.env)).any (·.1) = false := by rfl) :
    SI X W (.Tuple elts kk tpos) (.Call (.Name "zip" p) [e, e2, e3] [] pos) (mZip3 mas) :=
  (pi_z3 hg hm ha hs hpl).imp fun σ H Q ⟨C, ρ, S, e, s, q⟩ => by
    subst e
    refine tA.bind s q fun ds S1 C1 vs s1 g1 r1 q1 => ?_
    unfold zp3Of at q1
    split at q1
    · split at q1
      · rename_i e1 e2 e3
        obtain ⟨v, u, x, rfl, rv, ru, rx⟩ := three_of r1
        obtain ⟨a, vs, rfl, sq, t⟩ := seqK_of s1.rs rv e1
        obtain ⟨b, us, rfl, sq2, t2⟩ := seqK_of s1.rs ru e2
        obtain ⟨c, ws, rfl, sq3, t3⟩ := seqK_of s1.rs rx e3
        rw [s1.K] at sq sq2 sq3
        exact ⟨a, b, c, _, _, _, vs, us, ws, rfl, sq, sq2, sq3, q1.now s1.rs _ (src_z3 s1.K rv ru rx)⟩
      · exact q1.elim
    · exact q1.elim
end
end Mi
set_option Elab.async false
set_option linter.all false
set_option maxRecDepth 100000
set_option maxHeartbeats 2000000
namespace Mi
open PySem PySem.Spec PyProof.Rows L2
def forGo (ok : Sto → Bool) (g : Tg) (body : MS) : List MV → MS
  | [], ρ, S => if ok S then .nx ρ S else .stk
  | x :: xs, ρ, S => if ok S then (match g.f x ρ with
    | some ρ1 => match body ρ1 S with
      | .nx ρ2 S2 => forGo ok g body xs ρ2 S2
      | r => r
    | none => .stk) else .stk
def mFor (mi : Ev → Sto → R Src) (g : Tg) (body : MS) : MS := fun ρ S => (mi ρ S).thn ρ fun src S1 => forGo (fun S => src.ok S) g body src.items ρ S1
section
variable {X : Cx} {W : WX} {tg iter : Expr} {body : List Stmt} {mi : Ev → Sto → R Src} {g : Tg} {mb : MS} {pos : Pos}
theorem ss_for (hp : PassesOwn (model X.prog X.w) X.A X.env X.xe) (hc : X.calm = true) (hi : SI X W tg iter mi) (hg : SG X tg g) (hb : SSs X W body mb)
    (hs : ∀ x, foldedSetIterable iter X.env x = pure x := by intro _; rfl) : SS X W (.For tg iter body [] pos) (mFor mi g mb) :=
  (ps_for hp hc hi hg hb hs).imp fun D σ H ⟨C, ρ, S, e, s, q⟩ => by
    subst e
    refine ⟨C, ρ, S, rfl, s, ?_⟩
    refine (WantS.thn s q).mono fun src S1 C1 g1 r1 _ q1 J sw => ?_
    refine ⟨fun i m σ' H' => m = src.items.length - i ∧ i ≤ src.items.length ∧ ∃ C' ρ' S', C'.H = H' ∧ Sv X ρ' σ' S' C' ∧ Grow C1 C' ∧ WantS W D C' (forGo (fun S => src.ok S) g mb (src.items.drop i) ρ' S'), ⟨src.items.length, by simp, Nat.zero_le _, C1, ρ, S1, rfl, s.grow g1 r1, Grow.refl, q1.1⟩, ?_⟩
    rintro i m σ' H' ⟨rfl, hi, C', ρ', S', rfl, s', g', w⟩
    by_cases hlt : i < src.items.length
    · have ed : src.items.drop i = src.items[i] :: src.items.drop (i + 1) := List.drop_eq_getElem_cons hlt
      rw [ed, forGo] at w
      by_cases hok : src.ok S' = true
      · rw [if_pos hok] at w
        obtain ⟨k1, k2, k3⟩ := sw C' S' (g'.tr r1) s'.rs hok
        refine .inr ⟨k1 i hlt, fun σ'' H'' => (fun i m σ' H' => m = src.items.length - i ∧ i ≤ src.items.length ∧ ∃ C' ρ' S', C'.H = H' ∧ Sv X ρ' σ' S' C' ∧ Grow C1 C' ∧ WantS W D C' (forGo (fun S => src.ok S) g mb (src.items.drop i) ρ' S')) (i + 1) (src.items.length - (i + 1)) σ'' H'',
          fun σ'' H'' h => ⟨_, by omega, h⟩, fun x H'' y => ?_⟩
        obtain ⟨C2, d, rfl, g2, r2, e2, rv⟩ := k3 i x H'' hlt y
        rw [List.getElem?_eq_getElem hlt] at e2
        have e3 : src.items[i] = d := Option.some.inj e2
        cases e4 : g.f src.items[i] ρ' with
        | none => rw [e4] at w; exact w.elim
        | some ρ1 =>
          rw [e4] at w
          dsimp only at w
          refine ⟨C2, ρ', S', d, ρ1, rfl, s'.grow g2 r2, rv, by rw [← e3]; exact e4, fun σ1 ev1 l1 _ _ => ?_⟩
          refine ⟨C2, ρ1, S', rfl, ⟨g2.w.trans s'.w, g2.K.trans s'.K, r2, ev1, l1⟩, ?_⟩
          cases e5 : mb ρ1 S' with
          | nx ρ2 S2 =>
            rw [e5] at w
            exact fun C3 σ3 g3 r3 ev3 l3 => ⟨rfl, hlt, C3, ρ2, S2, rfl, ⟨g3.w.trans (g2.w.trans s'.w), g3.K.trans (g2.K.trans s'.K), r3, ev3, l3⟩, g'.trans (g2.trans g3), w.grow (g2.trans g3)⟩
          | rt d S2 => rw [e5] at w; exact w.grow g2
          | exc c d ρ2 S2 => rw [e5] at w; exact w.grow g2
          | stk => rw [e5] at w; exact w.elim
      · rw [if_neg hok] at w; exact w.elim
    · have e : i = src.items.length := by omega
      subst e
      rw [List.drop_length, forGo] at w
      by_cases hok : src.ok S' = true
      · rw [if_pos hok] at w
        obtain ⟨k1, k2, k3⟩ := sw C' S' (g'.tr r1) s'.rs hok
        exact .inl ⟨k2, w C' σ' Grow.refl s'.rs s'.ev s'.ln⟩
      · rw [if_neg hok] at w; exact w.elim
end
def wipeE (ρ : Ev) : List Nat → Ev
  | [] => ρ
  | v :: vs => (wipeE ρ vs).set v none
theorem wipeE_len (ρ : Ev) : ∀ vs, (wipeE ρ vs).length = ρ.length
  | [] => rfl
  | v :: vs => by unfold wipeE; rw [List.length_set, wipeE_len]
theorem env_wipe {C : RC} {ρ : Ev} {σ : L2.St} (h : EnvR C ρ σ) (l : ρ.length = σ.length) : ∀ vs, EnvR C (wipeE ρ vs) (wipe σ vs)
  | [] => h
  | v :: vs => fun i d e => by
    unfold wipeE at e
    by_cases hi : v = i
    · subst hi
      by_cases hl : v < (wipeE ρ vs).length
      · rw [List.getElem?_set_self hl] at e; cases e
      · rw [List.getElem?_eq_none (by simpa using hl)] at e; cases e
    · rw [List.getElem?_set_ne hi] at e
      obtain ⟨u, e1, r⟩ := env_wipe h l vs i d e
      refine ⟨u, ?_, r⟩
      unfold wipe
      rw [List.getElem?_set_ne hi]
      exact e1
theorem EnvR.trn {C C' : RC} {ρ : Ev} {σ : L2.St} (h : EnvR C ρ σ) (x : Tr C.ι.length C C') : EnvR C' ρ σ := fun i d e => by
  obtain ⟨v, e1, q⟩ := h i d e
  exact ⟨v, e1, q.trn x⟩
def R.calm {α : Type} : R α → R α
  | .exc _ _ _ => .stk
  | r => r
@[simp] theorem R.calm_ok {α : Type} (a : α) (S : Sto) : (R.ok a S).calm = .ok a S := rfl
def lcGo (ok : Sto → Bool) (g : Tg) (tt : MT) (te : ME) (ρ : Ev) : List MV → List MV → Sto → R (List MV)
  | [], acc, S => if ok S then .ok acc S else .stk
  | x :: xs, acc, S => if ok S then (match g.f x ρ with
    | some ρ1 => (tt ρ1 S).calm.bind fun b S1 => if b then (te ρ1 S1).calm.bind fun y S2 => lcGo ok g tt te ρ xs (acc ++ [y]) S2 else lcGo ok g tt te ρ xs acc S1
    | none => .stk) else .stk
def mkL (fr : Bool) (ys : List MV) (S : Sto) : R MV := if fr then .ok (.lst ys) S else .ok (.ref S.length) (S ++ [.lst ys])
def mLc (fr : Bool) (vs : List Nat) (mi : Ev → Sto → R Src) (g : Tg) (tt : MT) (te : ME) : ME := fun ρ S => (mi ρ S).bind fun src S1 =>
  if src.items.length ≤ sizeLine then (lcGo (fun S => src.ok S) g tt te (wipeE ρ vs) src.items [] S1).bind (mkL fr) else .stk
/-- the new list is being filled at D: it is not of the data yet -/
theorem Tr.wr {C : RC} {S : Sto} {D : Addr} {us vs : List V} (r : RepS C S) (hb : D ∈ C.bad) (h : C.H D = some (.lst us)) : Tr C.ι.length C (C.put D (.lst vs)) where
  w := rfl
  K := rfl
  seqT := fun a ws q => by
    rcases q with (q | ⟨o, q⟩) | q
    · exact .inl (.inl (by show upd C.H D (.lst vs) a = _; rw [upd_ne (fun z => by subst z; rw [h] at q; cases q)]; exact q))
    · exact .inl (.inr ⟨o, by show upd C.H D (.lst vs) a = _; rw [upd_ne (fun z => by subst z; rw [h] at q; cases q)]; exact q⟩)
    · exact .inr q
  froz := fun a u n q => ⟨n, .inl (by show upd C.H D (.lst vs) a = _; rw [upd_ne (fun z => n.2 (by rw [z]; exact hb))]; exact q)⟩
  frz := fun a o u q => by show upd C.H D (.lst vs) a = _; rw [upd_ne (fun z => by subst z; rw [h] at q; cases q)]; exact q
  ref := fun n a _ q => q
theorem RepS.wr {C : RC} {S : Sto} {D : Addr} {us vs : List V} (r : RepS C S) (hb : D ∈ C.bad) (h : C.H D = some (.lst us)) : RepS (C.put D (.lst vs)) S := by
  refine ⟨r.len, r.nd, fun a m => ⟨(r.bad a m).1, ?_⟩, fun n mo a e1 e2 => ?_⟩
  · show upd C.H D (.lst vs) a ≠ none
    by_cases q : a = D
    · subst q; rw [upd_same]; simp
    · rw [upd_ne q]; exact (r.bad a m).2
  · refine (r.ob n mo a e1 e2).trn (Tr.wr r hb h) ?_
    show upd C.H D (.lst vs) a = C.H a
    exact upd_ne fun z => (r.bad D hb).1 (by rw [← z]; exact List.mem_of_getElem? e2)
/-- the state at the start -/
def RC.fill (C : RC) (D : Addr) : RC := { C.put D (.lst []) with bad := D :: C.bad }
theorem Grow.fill {C : RC} {D : Addr} (h : C.H D = none) : Grow C (C.fill D) where
  w := rfl
  K := rfl
  bad := fun a m => by
    rcases List.mem_cons.mp (show a ∈ D :: C.bad from m) with z | z
    · subst z; exact .inr (.inr h)
    · exact .inl z
  bad' := fun a m => List.mem_cons_of_mem _ m
  kp := fun a o na e => .inl (by show upd C.H D _ a = _; rw [upd_ne (ne_of_none e h)]; exact e)
  new := fun a m => .inl m
  pre := rfl
  le := Nat.le_refl _
  le' := Nat.le_refl _
theorem RepS.fill {C : RC} {S : Sto} {D : Addr} (r : RepS C S) (h : C.H D = none) : RepS (C.fill D) S := by
  refine ⟨r.len, r.nd, fun a m => ?_, fun n mo a e1 e2 => ?_⟩
  · rcases List.mem_cons.mp (show a ∈ D :: C.bad from m) with z | z
    · subst z; exact ⟨r.notin h, by show upd C.H a _ a ≠ none; rw [upd_same]; simp⟩
    · refine ⟨(r.bad a z).1, ?_⟩
      show upd C.H D _ a ≠ none
      rw [upd_ne (fun q => (r.bad a z).2 (by rw [q]; exact h))]
      exact (r.bad a z).2
  · refine (r.ob n mo a e1 e2).trn ((Grow.fill h).tr r) ?_
    show upd C.H D _ a = C.H a
    exact upd_ne fun z => r.notin h (by rw [← z]; exact List.mem_of_getElem? e2)
/-- with the bad ones of an earlier state -/
def RC.rb (C C0 : RC) : RC := { C with bad := C0.bad }
theorem rb_step {C0 C C' : RC} (x : Grow C0 (C.rb C0)) (hb : ∀ a ∈ C0.bad, a ∈ C.bad) (y : Grow C C') : Grow C0 (C'.rb C0) where
  w := y.w.trans x.w
  K := y.K.trans x.K
  bad := fun a m => .inl m
  bad' := fun a m => m
  kp := fun a o na h => by
    have n1 : a ∉ C.ι := fun m => by
      rcases x.new a m with q | q
      · exact na q
      · rw [h] at q; cases q
    rcases x.kp a o na h with k | ⟨nb, e, ob, k⟩
    · rcases y.kp a o n1 k with j | ⟨nb, e, j⟩
      · exact .inl j
      · exact .inr ⟨fun m => nb (hb a m), e, j⟩
    · exact .inr ⟨nb, e, ob, (y.kp a _ n1 k).exact (.inl fun _ z => by cases z)⟩
  new := fun a m => by
    rcases y.new a m with q | q
    · exact x.new a q
    · by_cases ha : a ∈ C0.ι
      · exact .inl ha
      · cases e : C0.H a with
        | none => exact .inr rfl
        | some o =>
          exact absurd q (x.kp a o ha e).nix
  pre := (y.weak x.le').pre.trans x.pre
  le := Nat.le_refl _
  le' := Nat.le_trans x.le' y.le'
theorem rb_wr {C0 C : RC} {D : Addr} {o : HO} (x : Grow C0 (C.rb C0)) (h : C0.H D = none) : Grow C0 ((C.put D o).rb C0) where
  w := x.w
  K := x.K
  bad := fun a m => .inl m
  bad' := fun a m => m
  kp := fun a u na e => by
    show upd C.H D o a = some u ∨ _ ∧ _ ∧ ∃ ob, upd C.H D o a = some (.frz ob u)
    rw [upd_ne (ne_of_none e h)]
    exact x.kp a u na e
  new := x.new
  pre := x.pre
  le := x.le
  le' := x.le'
theorem Tr.rb {C C0 : RC} (h : ∀ a ∈ C0.bad, a ∈ C.bad) : Tr C.ι.length C (C.rb C0) :=
  ⟨rfl, rfl, fun _ _ q => q, fun a u n q => ⟨⟨n.1, fun m => n.2 (h a m)⟩, .inl q⟩, fun _ _ _ q => q, fun _ _ _ q => q⟩
theorem RepS.rb {C C0 : RC} {S : Sto} (r : RepS C S) (h : ∀ a ∈ C0.bad, a ∈ C.bad) : RepS (C.rb C0) S :=
  ⟨r.len, r.nd, fun a m => r.bad a (h a m), fun n mo a e1 e2 => (r.ob n mo a e1 e2).trn (Tr.rb h) rfl⟩
/-- the filled list becomes a cell of the store -/
def RC.adopt (C : RC) (D : Addr) : RC := { C with ι := C.ι ++ [D] }
theorem Wants.calm {α β : Type} {W W' : WX} {σ σ' : L2.St} {C : RC} {r : R α} {f : α → Sto → R β} {Q : β → Sto → RC → Prop} (h : Wants W σ C (r.calm.bind f) Q) :
    Wants W' σ' C r (fun a S1 C1 => Wants W σ C1 (f a S1) Q ∧ Grow C C1) := by
  cases r with
  | ok a S => exact fun C1 g r1 => (Wants.bind h) C1 g r1
  | exc c d S => exact h.elim
  | stk => exact h
/-- what is wanted of the filled list -/
def LW (D : Addr) (Q : VK) (fr : Bool) (C0 : RC) : R (List MV) → Prop
  | .ok acc S => ∀ C, Grow C0 (C.rb C0) → (∀ a ∈ C0.bad, a ∈ C.bad) → RepS C S → D ∈ C.bad → ∀ vs, C.H D = some (.lst vs) → RepVs C acc vs → Q (.ref D) C.H
  | _ => False
section
variable {X : Cx} {W : WX}
theorem lw_end {σ : L2.St} {C0 : RC} {D : Addr} {Q : VK} {fr : Bool} {S0 : Sto} {r : R (List MV)} (r0 : RepS C0 S0) (hD : C0.H D = none) (hr : ∀ c d S, r ≠ .exc c d S) (h : Wants W σ C0 (r.bind (mkL fr)) (fun d _ C' => ∀ v, RepV C' d v → Q v C'.H)) : LW D Q fr C0 r := by
  cases r with
  | exc c d S => exact absurd rfl (hr c d S)
  | stk => exact h
  | ok acc S =>
    intro C g hb rs hbD vs hv rv
    have nD : D ∉ C.ι := (rs.bad D hbD).1
    have nb : D ∉ C0.bad := fun m => (r0.bad D m).2 hD
    have rs' := rs.rb hb
    have rv' := rv.trn (Tr.rb (C0 := C0) hb)
    cases fr with
    | true =>
      have h : Wants W σ C0 (.ok (.lst acc) S) (fun d _ C' => ∀ v, RepV C' d v → Q v C'.H) := h
      exact h (C.rb C0) g rs' (.ref D) (repLst ⟨nD, nb⟩ hv rv')
    | false =>
      have h : Wants W σ C0 (.ok (.ref S.length) (S ++ [.lst acc])) (fun d _ C' => ∀ v, RepV C' d v → Q v C'.H) := h
      have tr : Tr C.ι.length C ((C.rb C0).adopt D) := by
        refine ⟨rfl, rfl, fun _ _ q => q, fun a u n q => ⟨⟨fun m => ?_, fun m => n.2 (hb a m)⟩, .inl q⟩, fun _ _ _ q => q, fun n a hn q => ?_⟩
        · rcases List.mem_append.mp (show a ∈ C.ι ++ [D] from m) with m | m
          · exact n.1 m
          · have e : a = D := by simpa using m
            exact n.2 (by rw [e]; exact hbD)
        · show (C.ι ++ [D])[n]? = some a
          rw [List.getElem?_append_left (by exact hn)]; exact q
      have g2 : Grow C0 ((C.rb C0).adopt D) := by
        refine ⟨g.w, g.K, fun a m => .inl m, fun a m => m, g.kp, fun a m => ?_, ?_, g.le, ?_⟩
        · rcases List.mem_append.mp (show a ∈ C.ι ++ [D] from m) with m | m
          · exact g.new a m
          · have e : a = D := by simpa using m
            exact .inr (by rw [e]; exact hD)
        · show (C.ι ++ [D]).take C0.ι.length = _
          rw [List.take_append_of_le_length (show C0.ι.length ≤ C.ι.length from g.le')]; exact g.pre
        · show C0.ι.length ≤ (C.ι ++ [D]).length
          rw [List.length_append]
          exact Nat.le_trans g.le' (Nat.le_add_right _ _)
      have rs2 : RepS ((C.rb C0).adopt D) (S ++ [.lst acc]) := by
        refine ⟨by show (C.ι ++ [D]).length = _; simp [rs.len], ?_, fun a m => ⟨fun m2 => ?_, (rs.bad a (hb a m)).2⟩, fun n mo a e1 e2 => ?_⟩
        · show (C.ι ++ [D]).Nodup
          rw [List.nodup_append]
          refine ⟨rs.nd, by simp, fun a ha b hb => ?_⟩
          have e : b = D := by simpa using hb
          subst e
          intro e; subst e
          exact nD ha
        · rcases List.mem_append.mp (show a ∈ C.ι ++ [D] from m2) with m2 | m2
          · exact (rs.bad a (hb a m)).1 m2
          · have e : a = D := by simpa using m2
            subst e; exact nb m
        · have e2 : (C.ι ++ [D])[n]? = some a := e2
          by_cases hn : n < S.length
          · rw [List.getElem?_append_left hn] at e1
            rw [List.getElem?_append_left (by rw [rs.len]; exact hn)] at e2
            exact (rs.ob n mo a e1 e2).trn tr rfl
          · rw [List.getElem?_append_right (by omega)] at e1
            rw [List.getElem?_append_right (by rw [rs.len]; omega), rs.len] at e2
            cases hz : n - S.length with
            | zero =>
              rw [hz] at e1 e2
              simp at e1 e2
              subst e1; subst e2
              exact ⟨vs, hv, rv.trn tr⟩
            | succ k => rw [hz] at e1; simp at e1
      refine h ((C.rb C0).adopt D) g2 rs2 (.ref D) ?_
      rw [RepV]
      exact ⟨D, rfl, by show (C.ι ++ [D])[S.length]? = some D; rw [← rs.len]; simp⟩
theorem lcGo_noexc {ok : Sto → Bool} {g : Tg} {tt : MT} {te : ME} {ρ : Ev} : ∀ (xs acc : List MV) (S : Sto) (c : Str) (d : MV) (S' : Sto), lcGo ok g tt te ρ xs acc S ≠ .exc c d S'
  | [], acc, S, c, d, S', h => by
    unfold lcGo at h
    split at h <;> cases h
  | x :: xs, acc, S, c, d, S', h => by
    unfold lcGo at h
    split at h
    · split at h
      · rename_i ρ1 e1
        cases e : tt ρ1 S with
        | ok b S1 =>
          rw [e] at h
          simp only [R.calm_ok, R.bind_ok] at h
          split at h
          · cases e2 : te ρ1 S1 with
            | ok y S2 =>
              rw [e2] at h
              simp only [R.calm_ok, R.bind_ok] at h
              exact lcGo_noexc xs _ S2 c d S' h
            | exc c' d' S2 => rw [e2] at h; cases h
            | stk => rw [e2] at h; cases h
          · exact lcGo_noexc xs _ S1 c d S' h
        | exc c' d' S1 => rw [e] at h; cases h
        | stk => rw [e] at h; cases h
      · cases h
    · cases h
end
abbrev WNo : WX := fun _ _ _ _ => False
theorem takesNo {X : Cx} {s : Shared} {H : Hp} {sc : Scope} {ce : Env} {fp : List Addr} : Takes (X.blk s H sc ce fp) WNo := fun u s' ⟨_, _, _, _, _, _, _, _, h⟩ => h.2.2.2.2.2.2.2.2
/-- several tests -/
theorem _root_.L2.PTs.imp {X : Cx} {ts : List Expr} {t t' : TT} (h : PTs X ts t) (k : ∀ σ H Q, t' σ H Q → t σ H Q) : PTs X ts t' := ⟨fun pins s σ H Q I q => h.run pins s σ H Q I (k σ H Q q)⟩
def mTrue : MT := fun _ S => .ok true S
section
variable {X : Cx} {W : WX} {tg iter elt : Expr} {ifs : List Expr} {scope : Scope} {own : List (Str × Nat)} {mi : Ev → Sto → R Src} {g : Tg} {tt : MT} {te : ME} {pos : Pos} {fr : Bool}
/-- the reading of a comprehension -/
theorem lc_imp {σ : L2.St} {H : Hp} {Q : VK} {vs : List Nat} (hix : ∀ i ∈ g.ix, i ∈ vs) (h : tE X W (mLc fr vs mi g tt te) σ H Q) : tLc (tI X W mi) (tG X g) (tT X WNo tt) (tE X WNo te) vs σ H Q := by
  obtain ⟨C, ρ, S, e, s, q⟩ := h
  subst e
  refine ⟨C, ρ, S, rfl, s, (Wants.bind q).mono fun src S1 C0 g0 r0 _ q0 J sw D hD => ?_⟩
  have q0 := q0.1
  split at q0
  case isFalse => exact q0.elim
  rename_i hsz
  have lw : LW D Q fr C0 (lcGo (fun S => src.ok S) g tt te (wipeE ρ vs) src.items [] S1) := lw_end r0 hD (lcGo_noexc _ _ _) q0
  have s0 : Sv X ρ σ S1 C0 := s.grow g0 r0
  refine ⟨fun i m H' => m = src.items.length - i ∧ i ≤ src.items.length ∧ ∃ C' S' acc accv, C'.H = H' ∧ Tr C0.ι.length C0 C' ∧ Grow C0 (C'.rb C0) ∧ (∀ a ∈ C0.bad, a ∈ C'.bad) ∧ RepS C' S' ∧ D ∈ C'.bad ∧ C'.H D = some (.lst accv) ∧ RepVs C' acc accv ∧ acc.length ≤ i ∧
      LW D Q fr C0 (lcGo (fun S => src.ok S) g tt te (wipeE ρ vs) (src.items.drop i) acc S'), ⟨src.items.length, by simp, Nat.zero_le _, C0.fill D, S1, [], [], rfl, (Grow.fill hD).tr r0, ?_, fun a m => List.mem_cons_of_mem _ m, r0.fill hD, List.mem_cons_self, upd_same, .nil, Nat.le_refl _, lw⟩, ?_⟩
  · exact rb_wr Grow.refl hD
  rintro i m H' ⟨rfl, hi, C1, S', acc, accv, rfl, tr, gr, hb, rs, hbD, hv, rv, hl, w⟩
  by_cases hlt : i < src.items.length
  · have ed : src.items.drop i = src.items[i] :: src.items.drop (i + 1) := List.drop_eq_getElem_cons hlt
    rw [ed, lcGo] at w
    by_cases hok : src.ok S' = true
    · rw [if_pos hok] at w
      obtain ⟨k1, k2, k3⟩ := sw C1 S' tr rs hok
      refine .inr ⟨k1 i hlt, fun H'' => (fun i m H' => m = src.items.length - i ∧ i ≤ src.items.length ∧ ∃ C' S' acc accv, C'.H = H' ∧ Tr C0.ι.length C0 C' ∧ Grow C0 (C'.rb C0) ∧ (∀ a ∈ C0.bad, a ∈ C'.bad) ∧ RepS C' S' ∧ D ∈ C'.bad ∧ C'.H D = some (.lst accv) ∧ RepVs C' acc accv ∧ acc.length ≤ i ∧
        LW D Q fr C0 (lcGo (fun S => src.ok S) g tt te (wipeE ρ vs) (src.items.drop i) acc S')) (i + 1) (src.items.length - (i + 1)) H'', fun H'' h => ⟨_, by omega, h⟩, fun x H'' y => ?_⟩
      obtain ⟨C2, d, rfl, g2, r2, e2, rd⟩ := k3 i x H'' hlt y
      rw [List.getElem?_eq_getElem hlt] at e2
      have e3 : src.items[i] = d := Option.some.inj e2
      have g01 : C0.ι.length ≤ C1.ι.length := gr.le'
      have tr2 : Tr C0.ι.length C0 C2 := tr.trans (g2.tr rs) g01
      have ew : EnvR C2 (wipeE ρ vs) (wipe σ vs) := (env_wipe s0.ev s0.ln vs).trn tr2
      have sv2 : Sv X (wipeE ρ vs) (wipe σ vs) S' C2 := ⟨tr2.w.trans s0.w, tr2.K.trans s0.K, r2, ew, by rw [wipeE_len, wipe_length]; exact s0.ln⟩
      have hvn : ∀ {Ca Cb : RC} {Sa : Sto} {us : List V}, Grow Ca Cb → RepS Ca Sa → D ∈ Ca.bad → Ca.H D = some (.lst us) → Cb.H D = some (.lst us) ∧ D ∈ Cb.bad := fun {Ca Cb Sa us} x r hb h => ⟨(x.kp _ _ (r.bad D hb).1 h).exact (.inr hb), x.bad' D hb⟩
      cases e4 : g.f src.items[i] (wipeE ρ vs) with
      | none => rw [e4] at w; exact w.elim
      | some ρ1 =>
        rw [e4] at w
        dsimp only at w
        refine ⟨C2, wipeE ρ vs, S', d, ρ1, rfl, sv2, rd, by rw [← e3]; exact e4, fun σ1 ev1 l1 l1' w1 => ⟨by rw [w1 vs hix, wipe_wipe], ?_⟩⟩
        have sv3 : Sv X ρ1 σ1 S' C2 := ⟨sv2.w, sv2.K, r2, ev1, l1⟩
        refine ⟨C2, ρ1, S', rfl, sv3, ?_⟩
        cases e5 : tt ρ1 S' with
        | exc c d S2 => rw [e5] at w; exact w.elim
        | stk => rw [e5] at w; exact w.elim
        | ok b S2 =>
          rw [e5] at w
          simp only [R.calm_ok, R.bind_ok] at w
          intro C3 g3 r3
          have sv4 := sv3.grow g3 r3
          have gr3 : Grow C0 (C3.rb C0) := rb_step (rb_step gr hb g2) (fun a m => g2.bad' a (hb a m)) g3
          have hb3 : ∀ a ∈ C0.bad, a ∈ C3.bad := fun a m => g3.bad' a (g2.bad' a (hb a m))
          have z2 := hvn g2 rs hbD hv
          have z3 := hvn g3 r2 z2.2 z2.1
          have tr3 : Tr C0.ι.length C0 C3 := tr2.trans (g3.tr r2) (Nat.le_trans g01 g2.le')
          have rv3 : RepVs C3 acc accv := (rv.grow g2 rs).grow g3 r2
          cases b with
          | false =>
            rw [if_neg (by decide)] at w
            dsimp only
            rw [if_neg (by decide)]
            exact ⟨rfl, hlt, C3, S2, acc, accv, rfl, tr3, gr3, hb3, r3, z3.2, z3.1, rv3, by omega, w⟩
          | true =>
            rw [if_pos rfl] at w
            dsimp only
            rw [if_pos rfl]
            refine ⟨C3, ρ1, S2, rfl, sv4, ?_⟩
            cases e6 : te ρ1 S2 with
            | exc c d S2 => rw [e6] at w; exact w.elim
            | stk => rw [e6] at w; exact w.elim
            | ok yv S3 =>
              rw [e6] at w
              simp only [R.calm_ok, R.bind_ok] at w
              intro C4 g4 r4 v rvv
              have z4 := hvn g4 r3 z3.2 z3.1
              have hb4 : ∀ a ∈ C0.bad, a ∈ C4.bad := fun a m => g4.bad' a (hb3 a m)
              have tr4 : Tr C0.ι.length C0 C4 := tr3.trans (g4.tr r3) (Nat.le_trans g01 (Nat.le_trans g2.le' g3.le'))
              have l4 : C0.ι.length ≤ C4.ι.length := Nat.le_trans g01 (Nat.le_trans g2.le' (Nat.le_trans g3.le' g4.le'))
              have rv4 : RepVs C4 acc accv := rv3.grow g4 r3
              have wr := Tr.wr (vs := accv ++ [v]) r4 z4.2 z4.1
              refine ⟨accv, z4.1, by rw [← rv4.length]; omega, rfl, hlt, C4.put D (.lst (accv ++ [v])), S3, acc ++ [yv], accv ++ [v], rfl, tr4.trans wr l4, rb_wr (rb_step gr3 hb3 g4) hD, hb4, r4.wr z4.2 z4.1, z4.2, put_same, (rv4.trn wr).append (.cons (rvv.trn wr) .nil), by simp; omega, w⟩
    · rw [if_neg hok] at w; exact w.elim
  · have e : i = src.items.length := by omega
    subst e
    rw [List.drop_length, lcGo] at w
    by_cases hok : src.ok S' = true
    · rw [if_pos hok] at w
      obtain ⟨k1, k2, k3⟩ := sw C1 S' tr rs hok
      exact .inl ⟨k2, w C1 gr hb rs hbD accv hv rv⟩
    · rw [if_neg hok] at w; exact w.elim
abbrev STs (X : Cx) (W : WX) (ts : List Expr) (m : MT) : Prop := PTs X ts (tT X W m)
theorem sts_nil : STs X W [] mTrue := by
  first
    | exact pts_nil.imp fun σ H Q ⟨C, ρ, S, e, s, q⟩ => by subst e; exact q.now s.rs
theorem tE.blk {X : Cx} {s0 : Shared} {H0 : Hp} {sc : Scope} {ce : Env} {fp : List Addr} {W : WX} {m : ME} {σ : L2.St} {H : Hp} {Q : VK} (h : tE X W m σ H Q) : tE (X.blk s0 H0 sc ce fp) W m σ H Q := by
  obtain ⟨C, ρ, S, e, s, q⟩ := h
  exact ⟨C, ρ, S, e, ⟨s.w, s.K, s.rs, s.ev, s.ln⟩, q⟩
theorem tT.blk {X : Cx} {s0 : Shared} {H0 : Hp} {sc : Scope} {ce : Env} {fp : List Addr} {W : WX} {m : MT} {σ : L2.St} {H : Hp} {Q : Bool → Hp → Prop} (h : tT X W m σ H Q) : tT (X.blk s0 H0 sc ce fp) W m σ H Q := by
  obtain ⟨C, ρ, S, e, s, q⟩ := h
  exact ⟨C, ρ, S, e, ⟨s.w, s.K, s.rs, s.ev, s.ln⟩, q⟩
theorem tG.blk {X : Cx} {s0 : Shared} {H0 : Hp} {sc : Scope} {ce : Env} {fp : List Addr} {t : Tg} {v : V} {σ : L2.St} {H : Hp} {Q : L2.St → Hp → Prop} (h : tG X t v σ H Q) : tG (X.blk s0 H0 sc ce fp) t v σ H Q := by
  obtain ⟨C, ρ, S, d, ρ', e, s, q⟩ := h
  exact ⟨C, ρ, S, d, ρ', e, ⟨s.w, s.K, s.rs, s.ev, s.ln⟩, q⟩
theorem se_lc (hc : X.calm = true) (hN : X.N.Nodup) (hi : SI X W tg iter mi) (ok : BlkOk X.N X.env.scope scope own)
    (hg : ∀ (s : Shared) (H : Hp) (C : Addr) (cl : List (Str × Addr)) (fp : List Addr), SG (X.blk s H scope (compEnvC scope cl C X.env) fp) tg g) (ht : ∀ (s : Shared) (H : Hp) (C : Addr) (cl : List (Str × Addr)) (fp : List Addr), STs (X.blk s H scope (compEnvC scope cl C X.env) fp) WNo ifs tt)
    (he : ∀ (s : Shared) (H : Hp) (C : Addr) (cl : List (Str × Addr)) (fp : List Addr), SE (X.blk s H scope (compEnvC scope cl C X.env) fp) WNo elt te) (hix : ∀ i ∈ g.ix, i ∈ own.map (·.2)) (hs : ∀ x, foldedSetIterable iter X.env x = pure x := by intro _; rfl) :
    SE X W (.ListComp elt [⟨tg, iter, ifs, 0⟩] scope pos) (mLc fr (own.map (·.2)) mi g tt te) :=
  (pe_lc hc hN hi ok (g := tG X g) (fun s H C cl fp => (hg s H C cl fp).imp fun v σ H Q h => tG.blk h) (fun s H C cl fp => (ht s H C cl fp).imp fun σ H Q h => tT.blk h) (fun s H C cl fp => (he s H C cl fp).imp fun σ H Q h => tE.blk h) hs).imp fun σ H Q h => lc_imp hix h
end
end Mi
set_option Elab.async false
set_option linter.all false
set_option maxRecDepth 100000
set_option maxHeartbeats 2000000
namespace Mi
open PySem PySem.Spec PyProof.Rows L2
def setM (o i d : MV) (S : Sto) : Option Sto := match o with
  | .ref n => (match S[n]? with
    | some (.lst xs) => (match i with
      | .int k => (match ixN xs.length k with
        | some j => some (S.set n (.lst (xs.set j d)))
        | none => none)
      | _ => none)
    | some (.dct ks vs) => (match keyV i with
      | some k => if ks.length < 1000 then some (S.set n (.dct (dput ks vs k d).1 (dput ks vs k d).2)) else none
      | none => none)
    | _ => none)
  | _ => none
def rSet (X : Cx) : TSet := fun o i v H Q => ∃ C S d1 d2 d3, C.H = H ∧ C.w = X.w ∧ C.K = X.K ∧ RepS C S ∧ RepV C d1 o ∧ RepV C d2 i ∧ RepV C d3 v ∧ ∃ S', setM d1 d2 d3 S = some S' ∧ ∀ C', Grow C C' → RepS C' S' → Q C'.H
theorem write_ok {C : RC} {S : Sto} {n : Nat} {a : Addr} {o : HO} {mo : MO} {Q : Hp → Prop} (r : RepS C S) (h : C.ι[n]? = some a) (q : RepO (C.put a o) a mo) (k : ∀ C', Grow C C' → RepS C' (S.set n mo) → Q C'.H) : Q (upd C.H a o) :=
  k (C.put a o) (Grow.write (List.mem_of_getElem? h)) (r.write h q)
theorem psetM {X : Cx} (hu : X.A.units + 1 < cLine) : PSet X (rSet X) := by
  intro pins s σ H o i v ov iv u Q I ro ri rv rof
  obtain ⟨C, S, d1, d2, d3, rfl, hw, hK, r, h1, h2, h3, S', e, q⟩ := rof
  cases d1 with
  | ref n =>
    rw [RepV] at h1
    obtain ⟨a, rfl, ha⟩ := h1
    unfold setM at e
    dsimp only at e
    have gw : ∀ {o : HO}, Grow C (C.put a o) := Grow.write (List.mem_of_getElem? ha)
    cases e0 : S[n]? with
    | none => rw [e0] at e; cases e
    | some mo =>
      rw [e0] at e
      have ro' := r.ob n mo a e0 ha
      cases mo with
      | lst xs =>
        dsimp only at e
        cases d2 with
        | int k =>
          dsimp only at e
          cases ej : ixN xs.length k with
          | none => rw [ej] at e; cases e
          | some j =>
            rw [ej] at e
            cases e
            obtain ⟨vs, hv, t⟩ := ro'
            refine set_list pins s σ C.H _ _ _ ov iv u Q I ro ri rv ⟨a, vs, k, j, rfl, vInt h2, hv, by rw [← t.length]; exact ej, ?_⟩
            exact write_ok (mo := .lst (xs.set j d3)) r ha ⟨_, put_same, (t.set h3 j).grow gw r⟩ q
        | _ => cases e
      | dct ks ds =>
        dsimp only at e
        cases ek : keyV d2 with
        | none => rw [ek] at e; cases e
        | some k =>
          rw [ek] at e
          dsimp only at e
          split at e
          · rename_i hz
            cases e
            obtain ⟨vs, hv, l, nd, t⟩ := ro'
            have ekv := keyV_rep h2 ek
            subst ekv
            obtain ⟨vs', e1, e2, e3, e4⟩ := dput_rep (ks' := (dput ks ds k d3).1) (ds' := (dput ks ds k d3).2) t l nd h3 rfl
            refine set_dict hu pins s σ C.H _ _ _ ov iv u Q I ro ri rv ⟨a, _, rfl, .k hv ?_, ?_⟩
            · rw [List.length_zip, ← l, sizeLine_eq]; omega
            · rw [e1]
              exact write_ok (mo := .dct (dput ks ds k d3).1 (dput ks ds k d3).2) r ha ⟨vs', put_same, e2, e3, e4.grow gw r⟩ q
          · cases e
      | _ => cases e
  | _ => cases e
def mSub (e o i : ME) : MS := fun ρ S => (e ρ S).thn ρ fun d S1 => (o ρ S1).thn ρ fun od S2 => (i ρ S2).thn ρ fun id S3 => match setM od id d S3 with
  | some S4 => .nx ρ S4
  | none => .stk
section
variable {X : Cx} {W : WX} {e o i : Expr} {me mo mi : ME} {pos tpos apos : Pos}
/-- o[i] = v by its parts -/
abbrev SubAs (X : Cx) (o i : Expr) (tpos : Pos) : Prop := ∀ v, assign (.Subscript o i tpos) X.env v =
  (holding [v] (eval o X.env) >>= fun to => holding [v, to] (eval i X.env) >>= fun at' => standAt tpos >>= fun _ => holding [v, to, at'] (setItem to at' v) >>= fun _ => release [v, to, at'] [])
theorem ss_sub (hu : X.A.units + 1 < cLine) (he : SE X W e me) (ho : SE X W o mo) (hi : SE X W i mi) (ha : SubAs X o i tpos := by intro _; rfl) (hs : swapsWithSole [.Subscript o i tpos] e pos.line X.env = pure false := by rfl) (hw : swappedStores [.Subscript o i tpos] e X.env = pure none := by rfl)
    (h1 : (assignEach [.Subscript o i tpos] X.env).map (·.2) = [assign (.Subscript o i tpos) X.env] := by rfl) : SS X W (.Assign [.Subscript o i tpos] e pos) (mSub me mo mi) :=
  (ps_asg he (pg_sub ho hi (psetM hu) ha) hs hw h1).imp fun D σ H ⟨C, ρ, S, e, s, q⟩ => by
    subst e
    refine tE.thn s q fun d S1 C1 v s1 g1 r1 q1 => ?_
    refine tE.thn s1 q1 fun od S2 C2 ov s2 g2 r2 q2 => ?_
    refine tE.thn s2 q2 fun id S3 C3 iv s3 g3 r3 q3 => ?_
    refine ⟨C3, S3, od, id, d, rfl, s3.w, s3.K, s3.rs, r2.grow g3 s2.rs, r3, (r1.grow g2 s1.rs).grow g3 s2.rs, ?_⟩
    cases e : setM od id d S3 with
    | none => rw [e] at q3; exact q3.elim
    | some S4 =>
      rw [e] at q3
      exact ⟨S4, rfl, fun C' g r => q3 C' σ g r (s3.ev.grow g s3.rs) s3.ln⟩
def appM (o d : MV) (S : Sto) : R MV := match o with
  | .ref n => (match S[n]? with
    | some (.lst xs) => if xs.length < sizeLine then .ok .non (S.set n (.lst (xs ++ [d]))) else .stk
    | _ => .stk)
  | _ => .stk
def isLst (S : Sto) (o : MV) : Bool := (lstOf S o).isSome
def mApp (o : ME) (e : ME) : ME := fun ρ S => (o ρ S).bind fun od S1 => if isLst S1 od then (e ρ S1).bind fun d S2 => appM od d S2 else .stk
abbrev FewArgs (X : Cx) (pos : Pos) (e : Expr) : Prop := ((backTo pos (starEach [e] X.env)).all (fun x => !x.1) && (backToKw pos (keywordEach [] X.env)).all (fun x => x.1.isSome) && decide (([e] : List Expr).length +
  ([] : List Keyword).length + (if ([] : List Keyword).isEmpty then 0 else 1) < 30)) = true
theorem se_app (ho : SE X W o mo) (he : SE X W e me) (hbase : attributeBase o "append" X.env (eval o X.env) = eval o X.env := by rfl)
    (hfew : FewArgs X pos e := by rfl)
    (hline : (apos.endLine == pos.line) = true := by rfl) (hs : starEach [e] X.env = (false, eval e X.env) :: starEach [] X.env := by rfl) (hplain : (backTo pos (starEach [] X.env)).any (·.1) = false := by rfl) :
    SE X W (.Call (.Attribute o "append" apos) [e] [] pos) (mApp mo me) :=
  (pe_bm PySem.F.plainAttrs_list PySem.F.slot_list_append PySem.F.type_list_append mt_append ho (pa_cons he pa_nil hs) hbase hfew hline hs hplain).imp fun σ H Q ⟨C, ρ, S, e, s, q⟩ => by
    subst e
    refine tE.bind s q fun od S1 C1 ov s1 g1 r1 q1 => ?_
    split at q1
    · rename_i hl
      unfold isLst at hl
      obtain ⟨xs, hx⟩ := Option.isSome_iff_exists.mp hl
      obtain ⟨a, vs, rfl, ha, t⟩ := lstOf_rep s1.rs r1 hx
      refine ⟨.inl ⟨rfl, vs, .of ha⟩, ?_⟩
      refine tE.bind s1 q1 fun d S2 C2 v s2 g2 r2 q2 => ?_
      have ro := r1.grow g2 s1.rs
      unfold appM at q2
      cases od with
      | ref n =>
        dsimp only at q2
        rw [RepV] at ro
        obtain ⟨a', ea, ha2⟩ := ro
        cases ea
        cases e0 : S2[n]? with
        | none => rw [e0] at q2; exact q2.elim
        | some mo =>
          rw [e0] at q2
          cases mo with
          | lst xs =>
            dsimp only at q2
            obtain ⟨us, hv, t2⟩ := s2.rs.ob n _ _ e0 ha2
            split at q2
            · rename_i hz
              refine ⟨a, us, v, rfl, rfl, hv, by rw [← t2.length]; exact hz, ?_⟩
              have gw : Grow C2 (C2.put a (.lst (us ++ [v]))) := Grow.write (List.mem_of_getElem? ha2)
              exact q2.here gw (s2.rs.write (mo := .lst (xs ++ [d])) ha2 ⟨_, put_same, (t2.append (.cons r2 .nil)).grow gw s2.rs⟩) _ repN
            · exact q2.elim
          | _ => exact q2.elim
      | _ => exact q2.elim
    · exact q1.elim
def mIsi (t : String) (e : ME) : ME := fun ρ S => (e ρ S).bind fun d S1 => isiM t [d] S1
theorem se_isi {t : String} {x : Str} {p1 p2 : Pos} (hg : Gl X "isinstance") (hm : X.mg "isinstance" = none) (hgx : Gl X x) (hmx : X.mg x = none) (hvx : bootBuiltins x = some (.type t)) (he : SE X W e me) (hnx : x ≠ "__name__" := by decide) (hdx : (x == ("__debug__" : Str)) = false := by decide)
    (hs : starEach [e, .Name x p2] X.env = (false, eval e X.env) :: starEach [.Name x p2] X.env := by rfl) (hs2 : starEach [.Name x p2] X.env = (false, eval (.Name x p2) X.env) :: starEach [] X.env := by rfl) (hpl : (backTo pos (starEach [.Name x p2] X.env)).any (·.1) = false := by rfl) :
    SE X W (.Call (.Name "isinstance" p1) [e, .Name x p2] [] pos) (mIsi t me) :=
  (pe_callB call_isi hg hm PyProof.Rows.boot_isinstance (pa_cons he (pa_cons (pe_bltn (v := .ty t) hgx hmx hvx rfl hnx hdx) pa_nil hs2) hs) (by decide) (by decide) hs hpl).imp fun σ H Q ⟨C, ρ, S, e, s, q⟩ => by
    subst e
    refine tE.bind s q fun d S1 C1 v s1 g1 r1 q1 => ?_
    unfold isiM at q1
    dsimp only at q1
    cases eb : isiB S1 d t with
    | none => rw [eb] at q1; exact q1.elim
    | some b =>
      rw [eb] at q1
      unfold isiB at eb
      cases en : tyN S1 d with
      | none => rw [en] at eb; cases eb
      | some n =>
        rw [en] at eb
        dsimp only at eb
        have ty := tyN_rep s1.rs r1 en
        rw [s1.K] at ty
        exact ⟨v, .ty t, _, _, b, rfl, .ty t, ty, kit_ty eb, q1.now s1.rs _ (repB _)⟩
end
end Mi
set_option Elab.async false
set_option linter.all false
set_option maxRecDepth 100000
set_option maxHeartbeats 2000000
namespace Mi
open PySem PySem.Spec PyProof.Rows L2
def objOf (S : Sto) : MV → Option (Str × List Str × List MV)
  | .obj c fs vs => some (c, fs, vs)
  | .ref n => (match S[n]? with
    | some (.obj c fs vs) => some (c, fs, vs)
    | _ => none)
  | _ => none
theorem objOf_rep {C : RC} {S : Sto} {d : MV} {v : V} {c : Str} {fs : List Str} {ds : List MV} (r : RepS C S) (h : RepV C d v) (e : objOf S d = some (c, fs, ds)) :
    ∃ a dx vs, v = .ref a ∧ C.H a = some (.ins (He.ga C.K c) dx (fs.zip vs)) ∧ fs.length = vs.length ∧ RepVs C ds vs := by
  cases d with
  | obj c' fs' vs' =>
    rw [objOf] at e; cases e
    rw [RepV] at h
    obtain ⟨a, dx, vs, e, _, q, l, t⟩ := h
    exact ⟨a, dx, vs, e, q, l, t⟩
  | ref n =>
    rw [RepV] at h
    obtain ⟨a, e1, e2⟩ := h
    rw [objOf] at e
    cases q : S[n]? with
    | none => simp [q] at e
    | some o =>
      rw [q] at e
      cases o with
      | obj c' fs' vs' =>
        cases e
        obtain ⟨dx, vs, h1, h2, h3⟩ := r.ob n _ a q e2
        exact ⟨a, dx, vs, e1, h1, h2, h3⟩
      | _ => cases e
  | _ => cases e
def flook : List Str → List MV → Str → Option MV
  | f :: fs, d :: ds, g => if g = f then some d else flook fs ds g
  | _, _, _ => none
theorem str_beq_ne {a b : Str} (h : a ≠ b) : (a == b) = false := by
  cases e : (a == b) with
  | false => rfl
  | true => exact absurd (eq_of_beq e) h
theorem flook_rep {C : RC} {g : Str} {d : MV} : ∀ {fs : List Str} {ds : List MV} {vs : List V}, RepVs C ds vs → flook fs ds g = some d → ∃ v, (fs.zip vs).lookup g = some v ∧ RepV C d v
  | [], _, _, _, e => by simp [flook] at e
  | _ :: _, [], _, _, e => by simp [flook] at e
  | f :: fs, x :: ds, vs, t, e => by
    obtain ⟨v, vr, rfl, r, t⟩ := t.cons_inv
    rw [flook] at e
    by_cases h : g = f
    · rw [if_pos h] at e; cases e
      subst h
      exact ⟨v, by simp [List.lookup], r⟩
    · rw [if_neg h] at e
      obtain ⟨u, h1, h2⟩ := flook_rep t e
      refine ⟨u, ?_, h2⟩
      rw [List.zip_cons_cons, List.lookup_cons, str_beq_ne h]
      exact h1
theorem flook_none {C : RC} {g : Str} : ∀ {fs : List Str} {ds : List MV} {vs : List V}, RepVs C ds vs → fs.length = vs.length → flook fs ds g = none → (fs.zip vs).lookup g = none
  | [], _, _, _, _, _ => rfl
  | f :: fs, [], vs, t, l, e => by
    have := t.nil_inv
    subst this
    simp at l
  | f :: fs, x :: ds, vs, t, l, e => by
    obtain ⟨v, vr, rfl, r, t⟩ := t.cons_inv
    rw [flook] at e
    by_cases h : g = f
    · rw [if_pos h] at e; cases e
    · rw [if_neg h] at e
      rw [List.zip_cons_cons, List.lookup_cons, str_beq_ne h]
      exact flook_none t (by simpa using l) e
def fput : List Str → List MV → Str → MV → List Str × List MV
  | f :: fs, d :: ds, g, x => if f = g then (f :: fs, x :: ds) else (f :: (fput fs ds g x).1, d :: (fput fs ds g x).2)
  | _, _, g, x => ([g], [x])
theorem fput_rep {C : RC} {g : Str} {x : MV} {v : V} (r : RepV C x v) : ∀ {fs : List Str} {ds : List MV} {vs : List V}, RepVs C ds vs → fs.length = vs.length →
    ∃ vs', putF g v (fs.zip vs) = (fput fs ds g x).1.zip vs' ∧ (fput fs ds g x).1.length = vs'.length ∧ RepVs C (fput fs ds g x).2 vs'
  | [], ds, vs, t, l => by
    have : vs = [] := List.eq_nil_of_length_eq_zero (by simpa using l.symm)
    subst this
    refine ⟨[v], ?_, ?_, ?_⟩ <;> simp [fput, putF]
    exact .cons r .nil
  | f :: fs, [], vs, t, l => by
    have := t.nil_inv
    subst this
    simp at l
  | f :: fs, d :: ds, vs, t, l => by
    obtain ⟨u, vr, rfl, ru, t⟩ := t.cons_inv
    rw [fput, List.zip_cons_cons, putF]
    by_cases h : f = g
    · rw [if_pos h, if_pos h]
      exact ⟨v :: vr, by rw [List.zip_cons_cons], by simpa using l, .cons r t⟩
    · rw [if_neg h, if_neg h]
      obtain ⟨vs', h1, h2, h3⟩ := fput_rep r t (by simpa using l)
      exact ⟨u :: vs', by rw [h1, List.zip_cons_cons], by simpa using h2, .cons ru h3⟩
def fldM (c f : Str) (d : MV) (S : Sto) : R MV := match objOf S d with
  | some (c', fs, ds) => if c' = c then (match flook fs ds f with
    | some x => .ok x S
    | none => .stk) else .stk
  | none => .stk
def mFld (c f : Str) (o : ME) : ME := fun ρ S => (o ρ S).bind fun d S1 => fldM c f d S1
def fsetM (c f : Str) (o d : MV) (S : Sto) : Option Sto := match o with
  | .ref n => (match S[n]? with
    | some (.obj c' fs ds) => if c' = c ∧ fs.length < 900 then some (S.set n (.obj c' (fput fs ds f d).1 (fput fs ds f d).2)) else none
    | _ => none)
  | _ => none
def mFset (c f : Str) (e o : ME) : MS := fun ρ S => (e ρ S).thn ρ fun d S1 => (o ρ S1).thn ρ fun od S2 => match fsetM c f od d S2 with
  | some S3 => .nx ρ S3
  | none => .stk
section
variable {X : Cx} {W : WX} {e o : Expr} {es : List Expr} {me mo : ME} {mas : MA} {pos tpos apos p : Pos} {c f x : Str}
theorem se_fld (hc : Cls X.K (He.ga X.K c)) (hn : NoAttr X.K (He.ga X.K c) f) (ho : SE X W e me) (hb : attributeBase e f X.env (eval e X.env) = eval e X.env := by rfl) : SE X W (.Attribute e f pos) (mFld c f me) :=
  (pe_fld ho hb).imp fun σ H Q ⟨C, ρ, S, e, s, q⟩ => by
    subst e
    refine tE.bind s q fun d S1 C1 v s1 g1 r1 q1 => ?_
    unfold fldM at q1
    cases e1 : objOf S1 d with
    | none => rw [e1] at q1; exact q1.elim
    | some z =>
      obtain ⟨c', fs, ds⟩ := z
      rw [e1] at q1
      dsimp only at q1
      split at q1
      · rename_i ec
        subst ec
        cases e2 : flook fs ds f with
        | none => rw [e2] at q1; exact q1.elim
        | some x =>
          rw [e2] at q1
          obtain ⟨a, dx, vs, rfl, ha, l, t⟩ := objOf_rep s1.rs r1 e1
          obtain ⟨u, h1, h2⟩ := flook_rep t e2
          rw [s1.K] at ha
          exact ⟨a, _, dx, _, u, rfl, ha, hc, hn, h1, q1.now s1.rs u h2⟩
      · exact q1.elim
theorem ss_fset (hc : Cls X.K (He.ga X.K c)) (hn : NoAttr X.K (He.ga X.K c) f) (he : SE X W e me) (ho : SE X W o mo) (hs : swapsWith e (some (.Attribute o f tpos)) pos.line X.env = pure false := by rfl) : SS X W (.Assign [.Attribute o f tpos] e pos) (mFset c f me mo) :=
  (ps_fld ho he hs).imp fun D σ H ⟨C, ρ, S, e, s, q⟩ => by
    subst e
    refine tE.thn s q fun d S1 C1 v s1 g1 r1 q1 => ?_
    refine tE.thn s1 q1 fun od S2 C2 ov s2 g2 r2 q2 => ?_
    have rd := r1.grow g2 s1.rs
    unfold fsetM at q2
    cases od with
    | ref n =>
      dsimp only at q2
      rw [RepV] at r2
      obtain ⟨a, rfl, ha⟩ := r2
      cases e0 : S2[n]? with
      | none => rw [e0] at q2; exact q2.elim
      | some z =>
        rw [e0] at q2
        cases z with
        | obj c' fs ds =>
          dsimp only at q2
          split at q2
          · rename_i h
            split at h
            · rename_i hh
              obtain ⟨rfl, hl⟩ := hh
              cases h
              obtain ⟨dx, vs, h1, h2, h3⟩ := s2.rs.ob n _ a e0 ha
              obtain ⟨vs', k1, k2, k3⟩ := fput_rep (g := f) rd h3 h2
              have hK := s2.K
              rw [hK] at h1
              refine ⟨a, _, dx, _, rfl, h1, hc, hn, by rw [List.length_zip]; omega, ?_⟩
              have gw : ∀ {o : HO}, Grow C2 (C2.put a o) := Grow.write (List.mem_of_getElem? ha)
              rw [k1]
              have w := s2.rs.write (mo := .obj c' (fput fs ds f d).1 (fput fs ds f d).2) (o := .ins (He.ga X.K c') dx ((fput fs ds f d).1.zip vs')) ha ⟨dx, vs', by rw [put_same, ← hK]; rfl, k2, k3.grow gw s2.rs⟩
              exact q2 _ σ gw w (s2.ev.grow gw s2.rs) s2.ln
            · cases h
          · exact q2.elim
        | _ => exact q2.elim
    | _ => exact q2.elim
def makM (c : Str) (m : MF) (ds : List MV) (S : Sto) : R MV := (m (.ref S.length :: ds) (S ++ [.obj c [] []])).bind fun r S2 => match r with
  | .non => .ok (.ref S.length) S2
  | _ => .stk
end
section
variable {X : Cx} {CX : CXT} {k : Nat} {f C : Addr} {fd : FuncData} {ps : List Str} {sp : Sp} {E : L2.St → XK} {x m : Str} {p pos apos : Pos} {e o : Expr} {es : List Expr} {ta : TE} {t : TA}
/-- o.m(..), what is raised wished for at the slots -/
def tMethS (C : Addr) (m : Str) (sp : Sp) (E : L2.St → XK) (ta : TE) (t : TA) : TE := fun σ H Q => ta σ H fun x H1 => ∃ a dx fs, x = .ref a ∧ H1 a = some (.ins C dx fs) ∧ fs.lookup m = none ∧
  t σ H1 fun vs H2 => sp (x :: vs) H2 Q (E σ)
/-- a method's call by its parts -/
abbrev MethAs (X : Cx) (o : Expr) (m : Str) (apos pos : Pos) (es : List Expr) (pl : Sem Bool) : Prop := eval (.Call (.Attribute o m apos) es [] pos) X.env =
  (eval o X.env >>= fun ov => standAt apos.atName >>= fun _ => holding [ov] (getMethod ov m pl) >>= fun q => callWith pos q.1 q.2 (backTo pos (starEach es X.env)) (backToKw pos (keywordEach [] X.env)))
/-- up to the arguments -/
theorem meth_run {pl : Sem Bool} {pins : List (Addr × Obj)} {σ : L2.St} {H : Hp} {s : Shared} {Q : VK} {ws : List Expr} {G : V → Hp → Prop} (ho : PE X o ta) (c : Cls X.K C) (hm : Meth X.K C m f) (form : MethAs X o m apos pos ws pl) (inv : Inv X pins σ H s)
    (h : ta σ H fun x H1 => ∃ a dx fs, x = .ref a ∧ H1 a = some (.ins C dx fs) ∧ fs.lookup m = none ∧ G x H1)
    (go : ∀ a H1 s1, Inv X pins σ H1 s1 → G (.ref a) H1 → wpAny (model X.prog X.w) X.A (callWith pos (.ref f) [.ref a] (backTo pos (starEach ws X.env)) []) (EP X pins σ Q) X.xe s1) :
    wpAny (model X.prog X.w) X.A (eval (.Call (.Attribute o m apos) ws [] pos) X.env) (EP X pins σ Q) X.xe s :=
  PySem.W.methodCall_KW (thn (ho.run pins s σ H _ inv h) fun _ s1 ⟨_, H1, inv1, at1, a, _, _, is1, obj1, no1, g⟩ => by
    cases is1; cases at1
    exact getmeth_ok inv1 obj1 c hm no1 (go a H1 s1 inv1 g)) form
theorem pe_methS1 {pl : Sem Bool} (he : PE X o ta) (c : Cls X.K C) (hm : Meth X.K C m f) (F : FnOk X.prog X.w X.K X.mg X.base CX k f fd ps sp) (hr : Room k X.A) (hb : Binds X.K fd ps []) (hx : ∀ σ, PassesAt CX X σ (E σ)) (ha : PA X (e :: es) t)
    (first : starEach (e :: es) X.env = (false, eval e X.env) :: starEach es X.env) (plain : (backTo pos (starEach es X.env)).any (·.1) = false) (form : MethAs X o m apos pos (e :: es) pl) : PE X (.Call (.Attribute o m apos) (e :: es) [] pos) (tMethS C m sp E ta t) where
  run pins s σ H Q inv q := meth_run (G := fun x H1 => t σ H1 fun vs H2 => sp (x :: vs) H2 Q (E σ)) he c hm form inv q fun a H1 s1 inv1 q1 =>
    PySem.W.callWith_K (h₀ := X.base) inv1.ok.mod.kin hm.kp (thn (ha.run pos pins s1 σ H1 _ inv1 q1) fun us _ ⟨vs, _, inv2, rs, q2⟩ => ⟨inv2.kIn, run_fnS F hr hb (hx σ) inv2 (.cons (show RelV (.ref a) (.ref a) from rfl) rs) q2⟩) first plain
theorem pe_methS0 {pl : Sem Bool} (he : PE X o ta) (c : Cls X.K C) (hm : Meth X.K C m f) (F : FnOk X.prog X.w X.K X.mg X.base CX k f fd ps sp) (hr : Room k X.A) (hb : Binds X.K fd ps []) (hx : ∀ σ, PassesAt CX X σ (E σ))
    (form : MethAs X o m apos pos [] pl) : PE X (.Call (.Attribute o m apos) [] [] pos) (tMethS C m sp E ta tNil) where
  run pins s σ H Q inv q := meth_run (G := fun x H1 => sp [x] H1 Q (E σ)) he c hm form inv q fun a H1 s1 inv1 q1 =>
    PySem.W.callWith_K0 (first := [.ref a]) inv1.kIn hm.kp (run_fnS F hr hb (hx σ) inv1 (.cons (show RelV (.ref a) (.ref a) from rfl) .nil) q1)
/-- C(..) with an __init__ of its own: the new object's two cells lie at the heap's end -/
theorem run_makeS {pins : List (Addr × Obj)} {σ : L2.St} {H : Hp} {s : Shared} {Q : VK} {us : List Value} {vs : List V} (M : Mk X.K C f) (F : FnOk X.prog X.w X.K X.mg X.base CX k f fd ps sp) (hr : Room (k + 1) X.A) (hb : Binds X.K fd ps [])
    (hx : PassesAt CX X σ (E σ)) (inv : Inv X pins σ H s) (rs : Vals vs us)
    (h : ∀ x dx, H x = none → H dx = none → dx ≠ x → sp (.ref x :: vs) (upd (upd H dx (.own x)) x (.ins C dx [])) (fun v H2 => v = .non ∧ Q (.ref x) H2) (E σ)) :
    wpAny (model X.prog X.w) X.A (call (.ref C) us []) (EP X pins σ Q) X.xe s := by
  have made := Inv.made (C := C) inv
  have self : Vals (V.ref (s.heap.objs.size + 1) :: vs) (Value.ref (s.heap.objs.size + 1) :: us) := .cons (show RelV (.ref _) (.ref _) from rfl) rs
  have told := h _ _ (inv.hok.fresh (Nat.le_add_right _ 1)) (inv.hok.fresh Nat.le.refl) fun z => Nat.succ_ne_self _ z.symm
  have bound := hb _ (Value.ref (s.heap.objs.size + 1) :: us) made.kIn (by rw [List.append_nil]; exact self.length.symm.trans (F.len _ _ _ _ told))
  simp only [List.append_nil] at bound
  refine wpAny_call (make_map inv.kIn M.makes M.init (beq_iff_eq.mp M.fn) (codeAny_mono (F.run _ X.stack _ _ ⟨Value.ref (s.heap.objs.size + 1) :: us, []⟩ _ _ _ (E σ) (hr.make C us []) (made.env0.make C us []) bound self told) ?_))
  rintro (x | fl) s' res
  · exact hx pins _ _ x s' made res
  · cases fl with
    | ret _ =>
      obtain ⟨_, H', inv3, is, rfl, q⟩ := made.after res
      exact ⟨is, V.ref (s.heap.objs.size + 1), H', inv3, rfl, q⟩
    | _ => exact res.elim
def tMakeS (C : Addr) (sp : Sp) (E : L2.St → XK) (t : TA) : TE := fun σ H Q => t σ H fun vs H1 => ∀ x dx, H1 x = none → H1 dx = none → dx ≠ x →
  sp (.ref x :: vs) (upd (upd H1 dx (.own x)) x (.ins C dx [])) (fun v H2 => v = .non ∧ Q (.ref x) H2) (E σ)
theorem pe_makeS (M : Mk X.K C f) (F : FnOk X.prog X.w X.K X.mg X.base CX k f fd ps sp) (hr : Room (k + 1) X.A) (hg : Gl X x) (hm : X.mg x = some (.ref C)) (hb : Binds X.K fd ps []) (hx : ∀ σ, PassesAt CX X σ (E σ)) (ha : PA X (e :: es) t)
    (nd : (x == ("__debug__" : Str)) = false) (first : starEach (e :: es) X.env = (false, eval e X.env) :: starEach es X.env) (plain : (backTo pos (starEach es X.env)).any (·.1) = false) : PE X (.Call (.Name x p) (e :: es) [] pos) (tMakeS C sp E t) where
  run pins s σ H Q inv q := wpAny_Call_Name_kw (ld_glob inv hg hm (PySem.W.callWith_K (h₀ := X.base) inv.ok.mod.kin M.kp (thn (ha.run pos pins s σ H _ inv q) fun us s1 ⟨vs, H1, inv1, rs, q1⟩ => ⟨inv1.kIn, run_makeS M F hr hb (hx σ) inv1 rs q1⟩) first plain) nd)
end
section
variable {X : Cx} {W : WX} {e o : Expr} {es : List Expr} {me mo : ME} {mas : MA} {pos tpos apos p : Pos} {c x mn : Str} {k n : Nat} {f : Addr} {fd : FuncData} {ps : List Str} {m : MF}
theorem se_make (M : Mk X.K (He.ga X.K c) f) (F : FnOk X.prog X.w X.K X.mg X.base (L2.CX X.prog X.w) k f fd ps (spM X.w X.K (n + 1) m)) (hr : Room (k + 1) X.A) (hg : Gl X x) (hm : X.mg x = some (.ref (He.ga X.K c))) (hb : Binds X.K fd ps []) (tk : Takes X W)
    (ha : SA X W (e :: es) mas) (hl : LenA mas n) (hdb : (x == ("__debug__" : Str)) = false := by decide) (he : starEach (e :: es) X.env = (false, eval e X.env) :: starEach es X.env := by rfl) (hpl : (backTo pos (starEach es X.env)).any (·.1) = false := by rfl) :
    SE X W (.Call (.Name x p) (e :: es) [] pos) (mCallF (makM c m) mas) :=
  (pe_makeS (E := WE W) M F hr hg hm hb (passAt tk) ha hdb he hpl).imp fun σ H Q ⟨C, ρ, S, e, s, q⟩ => by
    subst e
    refine ⟨C, ρ, S, rfl, s, ?_⟩
    refine Wants.mono (Wants.bind q) fun ds S1 C1 g r1 e1 q1 vs rv => ?_
    intro a dx ha hdx hne
    have s1 := s.grow g r1
    have g2 : Grow C1 (C1.put dx (.own a)) := Grow.put hdx
    have r2 : RepS (C1.put dx (.own a)) S1 := r1.put hdx
    have h2 : (C1.put dx (.own a)).H a = none := by
      show upd C1.H dx _ a = none
      rw [upd_ne (Ne.symm hne)]; exact ha
    have g3 := Grow.cell (o := .ins (He.ga X.K c) dx []) h2
    have r3 : RepS ((C1.put dx (.own a)).cell a (.ins (He.ga X.K c) dx [])) (S1 ++ [.obj c [] []]) :=
      r2.cell h2 ⟨dx, [], by rw [cell_same]; show _ = some (HO.ins (He.ga C1.K c) dx []); rw [s1.K], rfl, .nil⟩
    have q1 := q1.1
    refine ⟨by rw [List.length_cons, ← rv.length, hl _ _ _ _ e1], _, _, .ref S1.length :: ds, rfl, (g2.trans g3).w.trans s1.w, (g2.trans g3).K.trans s1.K, r3, .cons (cell_ref r2) (rv.grow (g2.trans g3) r1), ?_⟩
    have q2 : Wants W σ C1 ((m (.ref S1.length :: ds) (S1 ++ [.obj c [] []])).bind fun r S2 => match r with
      | .non => .ok (.ref S1.length) S2
      | _ => .stk) (fun d _ C' => ∀ v, RepV C' d v → Q v C'.H) := q1
    cases e2 : m (.ref S1.length :: ds) (S1 ++ [.obj c [] []]) with
    | exc c' d S' => rw [e2] at q2; exact fun C' cls dx' g' r' e' => q2 C' cls dx' ((g2.trans g3).trans g') r' e'
    | stk => rw [e2] at q2; exact q2.elim
    | ok r S2 =>
      rw [e2] at q2
      intro C' g' r' v rv'
      rw [R.bind_ok] at q2
      cases r with
      | non => exact ⟨vNon rv', q2.here ((g2.trans g3).trans g') r' _ ((cell_ref r2).grow g' r3)⟩
      | _ => exact q2.elim
def methM (c mn : Str) (m : MF) (od : MV) (S : Sto) : Bool := match objOf S od with
  | some (c', fs, ds) => decide (c' = c) && (flook fs ds mn).isNone
  | none => false
def mMeth (c mn : Str) (m : MF) (o : ME) (as : MA) : ME := fun ρ S => (o ρ S).bind fun od S1 => if methM c mn m od S1 then (as ρ S1).bind fun ds S2 => m (od :: ds) S2 else .stk
theorem meth_imp {σ : L2.St} {H : Hp} {Q : VK} (hl : LenA mas n) (h : tE X W (mMeth c mn m mo mas) σ H Q) : tMethS (He.ga X.K c) mn (spM X.w X.K (n + 1) m) (WE W) (tE X W mo) (tA X W mas) σ H Q := by
  obtain ⟨C, ρ, S, e, s, q⟩ := h
  subst e
  refine tE.bind s q fun od S1 C1 v s1 g1 r1 q1 => ?_
  split at q1
  · rename_i hh
    unfold methM at hh
    cases e1 : objOf S1 od with
    | none => rw [e1] at hh; cases hh
    | some z =>
      obtain ⟨c', fs, ds⟩ := z
      rw [e1] at hh
      simp only [Bool.and_eq_true, decide_eq_true_eq, Option.isNone_iff_eq_none] at hh
      obtain ⟨rfl, hn⟩ := hh
      obtain ⟨a, dx, vs, rfl, ha, l, t⟩ := objOf_rep s1.rs r1 e1
      rw [s1.K] at ha
      refine ⟨a, dx, _, rfl, ha, flook_none t l hn, C1, ρ, S1, rfl, s1, ?_⟩
      refine Wants.mono (Wants.bind q1) fun ds S2 C2 g2 r2 e2 q2 vs rv => ?_
      refine ⟨by rw [List.length_cons, ← rv.length, hl _ _ _ _ e2], C2, S2, od :: ds, rfl, g2.w.trans s1.w, g2.K.trans s1.K, r2, .cons (r1.grow g2 s1.rs) rv, ?_⟩
      exact q2.1.wish fun cls dx H h => h
  · exact q1.elim
theorem se_meth {pl : Sem Bool} (cl : Cls X.K (He.ga X.K c)) (hm : Meth X.K (He.ga X.K c) mn f) (F : FnOk X.prog X.w X.K X.mg X.base (L2.CX X.prog X.w) k f fd ps (spM X.w X.K (n + 1) m)) (hr : Room k X.A) (hb : Binds X.K fd ps []) (tk : Takes X W) (ho : SE X W o mo) (ha : SA X W (e :: es) mas) (hl : LenA mas n)
    (hst : starEach (e :: es) X.env = (false, eval e X.env) :: starEach es X.env := by rfl)
    (hpl : (backTo pos (starEach es X.env)).any (·.1) = false := by rfl) (ht : MethAs X o mn apos pos (e :: es) pl := by rfl) :
    SE X W (.Call (.Attribute o mn apos) (e :: es) [] pos) (mMeth c mn m mo mas) :=
  (pe_methS1 (E := WE W) ho cl hm F hr hb (passAt tk) ha hst hpl ht).imp fun σ H Q h => meth_imp hl h
theorem se_meth0 {pl : Sem Bool} (cl : Cls X.K (He.ga X.K c)) (hm : Meth X.K (He.ga X.K c) mn f) (F : FnOk X.prog X.w X.K X.mg X.base (L2.CX X.prog X.w) k f fd ps (spM X.w X.K 1 m)) (hr : Room k X.A) (hb : Binds X.K fd ps []) (tk : Takes X W) (ho : SE X W o mo)
    (ht : MethAs X o mn apos pos [] pl := by rfl) :
    SE X W (.Call (.Attribute o mn apos) [] [] pos) (mMeth c mn m mo mNil) :=
  (pe_methS0 (E := WE W) ho cl hm F hr hb (passAt tk) ht).imp fun σ H Q h => by
    have z := meth_imp (n := 0) lenNil h
    obtain ⟨C, ρ, S, e, s, w⟩ := z
    refine ⟨C, ρ, S, e, s, w.mono fun od S1 C1 g1 r1 e1 q v rv => ?_⟩
    obtain ⟨a, dx, fs, h1, h2, h3, C2, ρ2, S2, e2, s2, w2⟩ := q v rv
    refine ⟨a, dx, fs, h1, h2, h3, ?_⟩
    have := w2.now s2.rs [] .nil
    rw [e2] at this
    exact this
def eqO (c : Str) (m : MF) (a b : MV) (S : Sto) : R MV := match objOf S a, objOf S b with
  | some (c1, _, _), some (c2, _, _) => if c1 = c ∧ c2 = c then ((m [a, b] S).calm.bind fun r S' => match r with
    | .bl k => .ok (.bl k) S'
    | _ => .stk) else .stk
  | _, _ => .stk
end
end Mi
set_option Elab.async false
set_option linter.all false
set_option maxRecDepth 100000
set_option maxHeartbeats 2000000
namespace Mi
open PySem PySem.Spec PyProof.Rows L2
def spXI (K : PySem.W.Frag) (C : Addr) (f : Str) : Sp := fun vs H Q _ => ∃ a v, vs = [.ref a, v] ∧ H a = some (exo a C none) ∧ ∀ d, H d = none → d ≠ a → Q .non (upd (upd H d (exd d [(f, v)])) a (exo a C (some d)))
theorem xi_body {X : Cx} {body : List Stmt} {C : Addr} {f : Str} {vs : List V} {H : Hp} {Q : VK} {E : XK} {N : List Str} {n0 n1 : Str} {p0 p1 pp pos : Pos} (hN : X.N = [n0, n1]) (hNN : N = [n0, n1]) (v0 : Vis X.env.scope n0) (v1 : Vis X.env.scope n1) (T : OexC X.K C) (hno : PySem.W.findIn X.K (.ref C) f = some none)
    (d0 : (n0 == ("__debug__" : Str)) = false) (c0 : (n0 == ("__classdict__" : Str)) = false) (d1 : (n1 == ("__debug__" : Str)) = false) (c1 : (n1 == ("__classdict__" : Str)) = false)
    (hs : swapsWith (.Name n1 p1) (some (.Attribute (.Name n0 p0) f pp)) pos.line X.env = pure false) (hb : body = [.Assign [.Attribute (.Name n0 p0) f pp] (.Name n1 p1) pos]) (h : spXI X.K C f vs H Q E) :
    ∃ t, PSs X body t ∧ t { nx := fun _ H' => Q .non H', rt := Q } (L2.start N vs) H := by
  subst hb
  refine ⟨_, pss_one (ps_ost (pe_var (i := 0) (by rw [hN]; rfl) v0 d0 c0) (pe_var (i := 1) (by rw [hN]; rfl) v1 d1 c1) hs), ?_⟩
  obtain ⟨a, v, rfl, ha, q⟩ := h
  subst hNN
  exact ⟨v, rfl, .ref a, rfl, a, C, rfl, T, hno, .inl ⟨ha, fun dx hd ne => q dx hd ne⟩⟩
def mRaise (c f : Str) (e : ME) : MS := fun ρ S => (e ρ S).thn ρ fun d S1 => .exc c (.obj c [f] [d]) ρ S1
section
variable {X : Cx} {W : WX} {e : Expr} {me : ME} {p pos rpos : Pos} {x c f : Str} {fI : Addr} {k : Nat} {fd : FuncData} {ps : List Str}
theorem ss_raise1 (hcalm : X.calm = true) (tk : Takes X W) (T : OexC X.K (He.ga X.K c)) (iC : PySem.W.findIn X.K (.ref (He.ga X.K c)) "__init__" = some (some (.ref fI))) (tI : PySem.W.typeIn X.K (.ref fI) = some (.type "function"))
    (F1 : FnOk X.prog X.w X.K X.mg X.base (L2.CX X.prog X.w) k fI fd ps (spXI X.K (He.ga X.K c) f)) (hr : Room (k + 1) X.A) (hb : Binds X.K fd ps []) (hg : Gl X x) (hm : X.mg x = some (.ref (He.ga X.K c))) (he : SE X W e me)
    (hdb : (x == ("__debug__" : Str)) = false := by decide) (hs : starEach [e] X.env = (false, eval e X.env) :: starEach [] X.env := by rfl) (hpl : (backTo pos (starEach [] X.env)).any (·.1) = false := by rfl) :
    SS X W (.Raise (some (.Call (.Name x p) [e] [] pos)) none rpos) (mRaise c f me) :=
  (ps_raise hcalm tk (pmk_oex (ds := []) (dvs := []) T iC tI F1 hr hb .nil passL hg hm (pa_cons he pa_nil hs) hdb hs hpl)).imp fun D σ H ⟨C, ρ, S, e, s, q⟩ => by
    subst e
    refine tE.thn s q fun d S1 C1 v s1 g1 r1 q1 => ?_
    refine ⟨by simp, fun a ha => ?_⟩
    refine ⟨a, v, rfl, upd_same, fun dx hd ne => ⟨rfl, dx, [(f, v)], upd_same, by rw [upd_ne ne, upd_same], ?_, ?_⟩⟩
    · rw [upd_ne ne] at hd; exact hd
    · have hd1 : C1.H dx = none := by rw [upd_ne ne] at hd; exact hd
      have e1 : upd (del (upd (upd (upd C1.H a (exo a (He.ga X.K c) none)) dx (exd dx [(f, v)])) a (exo a (He.ga X.K c) (some dx))) a) dx (.xd [(f, v)]) = upd C1.H dx (.xd [(f, v)]) := by
        funext b
        by_cases h : b = dx
        · subst h; rw [upd_same, upd_same]
        · rw [upd_ne h, upd_ne h]
          by_cases h2 : b = a
          · subst h2; rw [del_same, ha]
          · rw [del_ne h2, upd_ne h2, upd_ne h, upd_ne h2]
      rw [e1]
      have gp : Grow C1 (C1.put dx (.xd [(f, v)])) := Grow.put hd1
      exact q1 _ σ _ _ gp (s1.rs.put hd1) (s1.ev.grow gp s1.rs) s1.ln ⟨by show _ = Value.ref (He.ga C1.K c); rw [s1.K], .inr ⟨dx, f, d, v, rfl, rfl, put_same, r1.grow gp s1.rs⟩⟩
end
theorem tS.to {X X' : Cx} {W : WX} {m : MS} (h1 : X'.w = X.w) (h2 : X'.K = X.K) {D : Ends} {σ : L2.St} {H : Hp} (h : tS X W m D σ H) : tS X' W m D σ H := by
  obtain ⟨C, ρ, S, e, s, q⟩ := h
  exact ⟨C, ρ, S, e, ⟨s.w.trans h1.symm, s.K.trans h2.symm, s.rs, s.ev, s.ln⟩, q⟩
def RS.calm : RS → RS
  | .exc _ _ _ _ => .stk
  | r => r
theorem WantS.calm {W : WX} {D : Ends} {C : RC} {r : RS} (h : WantS W D C r.calm) : WantS WNo D C r := by
  cases r with
  | nx ρ S => exact h
  | rt d S => exact h
  | exc c d ρ S => exact h.elim
  | stk => exact h
def mTry (ct : Str → Option Bool) (body suite : MS) : MS := fun ρ S => match body ρ S with
  | .exc c d ρ1 S1 => (match ct c with
    | some true => (suite ρ1 S1).calm
    | some false => .exc c d ρ1 S1
    | none => .stk)
  | r => r
section
variable {X : Cx} {W : WX} {x n : Str} {c : Value} {body suite : List Stmt} {b₀ : Stmt} {np pos pos' : Pos} {ct : Str → Option Bool} {mb ms : MS}
theorem ss_try (hs : X.stack = X.env :: X.outer) (hf : X.env.frame = some X.env.locals) (hc : Names X x c) (tk : Takes X W) (hct : ∀ c' b, ct c' = some b → PySem.W.exmOne X.K (.ref (He.ga X.K c')) c = some b)
    (hb : ∀ (W : WX) (pn : List (Addr × Obj)) (xe : Value → Shared → Prop), Takes (X.tr pn xe) W → PassesOwn (model X.prog X.w) X.A X.env xe → SSs (X.tr pn xe) W body mb)
    (hsu : ∀ (a : Addr) (pn : List (Addr × Obj)), SSs (X.suite a pn) WNo (b₀ :: suite) ms) :
    SS X W (.Try body [.ExceptHandler (some (.Name x np)) none (b₀ :: suite) pos'] [] [] pos) (mTry ct mb ms) :=
  (ps_try_only (tb := fun W => tS X W mb) (ts := fun _ _ _ => tS X WNo ms) hs hf hc tk (fun W pn xe t p => (hb W pn xe t p).imp fun D σ H h => tS.to (X := X) (X' := X.tr pn xe) rfl rfl h)
    (fun a oe cls d pn _ _ => (hsu a ((a, oe) :: pn)).imp fun D σ H h => tS.to (X := X) (X' := X.suite a ((a, oe) :: pn)) rfl rfl h)).imp fun D σ H ⟨C, ρ, S, e, s, q⟩ => by
    subst e
    refine ⟨C, ρ, S, rfl, s, ?_⟩
    unfold mTry at q
    cases e : mb ρ S with
    | nx ρ1 S1 => rw [e] at q; exact q
    | rt d S1 => rw [e] at q; exact q
    | stk => rw [e] at q; exact q
    | exc c' d ρ1 S1 =>
      rw [e] at q
      dsimp only at q
      intro C' σ' cls dx g r ev l xr
      have hK : C'.K = X.K := g.K.trans s.K
      have ec := xr.1
      rw [hK] at ec
      cases eb : ct c' with
      | none => rw [eb] at q; exact q.elim
      | some b =>
        rw [eb] at q
        have he := hct c' b eb
        refine ⟨b, by rw [ec]; exact he, fun hb1 a ha => ?_, fun hb0 => ?_⟩
        · subst hb1
          exact ⟨C', ρ1, S1, rfl, ⟨g.w.trans s.w, hK, r, ev, l⟩, (WantS.calm q).grow g⟩
        · subst hb0
          exact q C' σ' cls dx g r ev l xr
end
end Mi
set_option Elab.async false
set_option linter.all false
set_option maxRecDepth 100000
set_option maxHeartbeats 2000000
namespace Mi
open PySem PySem.Spec PyProof.Rows L2
def frz (b : Nat) (S : Sto) : Nat → MV → Option MV
  | 0, d => if refsB b d then some d else none
  | n + 1, .ref k => if k < b then some (.ref k) else (match S[k]? with
    | some (.lst xs) => (xs.mapM (frz b S n)).map .lst
    | some (.dct ks vs) => (vs.mapM (frz b S n)).map (.dct ks)
    | some (.dcT ks vs) => if refsBs b ks then (vs.mapM (frz b S n)).map (.dcT ks) else none
    | some (.obj c fs vs) => (vs.mapM (frz b S n)).map (.obj c fs)
    | _ => none)
  | n + 1, .tup xs => (xs.mapM (frz b S n)).map .tup
  | n + 1, .lst xs => (xs.mapM (frz b S n)).map .lst
  | n + 1, .dct ks vs => (vs.mapM (frz b S n)).map (.dct ks)
  | n + 1, .obj c fs vs => (vs.mapM (frz b S n)).map (.obj c fs)
  | _ + 1, d => if refsB b d then some d else none
def RC.cut (C : RC) (b : Nat) : RC := { C with ι := C.ι.take b }
theorem Tr.cut {C : RC} {b : Nat} : Tr b C (C.cut b) := by
  refine ⟨rfl, rfl, fun _ _ q => q, fun a u n q => ⟨⟨fun m => n.1 (List.mem_of_mem_take m), n.2⟩, .inl q⟩, fun _ _ _ q => q, fun n a hn q => ?_⟩
  show (C.ι.take b)[n]? = some a
  rw [List.getElem?_take_of_lt hn]; exact q
theorem mapM_rep {C C' : RC} {f : MV → Option MV} (h : ∀ d v d', RepV C d v → f d = some d' → RepV C' d' v) : ∀ {xs ys : List MV} {vs : List V}, RepVs C xs vs → xs.mapM f = some ys → RepVs C' ys vs
  | [], ys, vs, t, e => by
    simp at e; subst e
    rw [t.nil_inv]; exact .nil
  | x :: xs, ys, vs, t, e => by
    obtain ⟨v, vr, rfl, r, t⟩ := t.cons_inv
    rw [List.mapM_cons] at e
    cases e1 : f x with
    | none => rw [e1] at e; cases e
    | some y =>
      rw [e1] at e
      cases e2 : xs.mapM f with
      | none => rw [e2] at e; cases e
      | some zs =>
        rw [e2] at e
        have e : some (y :: zs) = some ys := e
        cases e
        exact .cons (h x v y r e1) (mapM_rep h t e2)
theorem notmem_take {C : RC} {n b : Nat} {a : Addr} (nd : C.ι.Nodup) (h : C.ι[n]? = some a) (hb : b ≤ n) : a ∉ C.ι.take b := fun m => by
  obtain ⟨j, hj⟩ := List.mem_iff_getElem?.mp m
  rw [List.getElem?_take] at hj
  split at hj
  · rename_i hl
    obtain ⟨h1, e1⟩ := List.getElem?_eq_some_iff.mp h
    obtain ⟨h2, e2⟩ := List.getElem?_eq_some_iff.mp hj
    have := (List.getElem_inj nd).mp (e1.trans e2.symm)
    omega
  · cases hj
theorem frz_rep {C : RC} {S : Sto} {b : Nat} (r : RepS C S) : ∀ (n : Nat) (d : MV) (v : V) (d' : MV), RepV C d v → frz b S n d = some d' → RepV (C.cut b) d' v
  | 0, d, v, d', h, e => by
    rw [frz] at e
    split at e
    · cases e
      exact RepV.tr Tr.cut d v (by assumption) h
    · cases e
  | n + 1, d, v, d', h, e => by
    have ih := frz_rep (b := b) r n
    have fz : ∀ {a : Addr} {k : Nat}, C.ι[k]? = some a → b ≤ k → Froz (C.cut b) a := fun {a k} hk hb => ⟨notmem_take r.nd hk hb, fun m => (r.bad a m).1 (List.mem_of_getElem? hk)⟩
    have fz2 : ∀ {a : Addr}, Froz C a → Froz (C.cut b) a := fun {a} n => ⟨fun m => n.1 (List.mem_of_mem_take m), n.2⟩
    have rest : ∀ d : MV, (if refsB b d then some d else none) = some d' → RepV C d v → RepV (C.cut b) d' v := fun d e h => by
      by_cases hb : refsB b d = true
      · rw [if_pos hb] at e
        cases e
        exact RepV.tr Tr.cut _ v hb h
      · rw [if_neg hb] at e; cases e
    cases d with
    | ref k =>
      rw [frz] at e
      rw [RepV] at h
      obtain ⟨a, rfl, ha⟩ := h
      split at e
      · cases e
        rw [RepV]
        refine ⟨a, rfl, ?_⟩
        show (C.ι.take b)[k]? = some a
        rw [List.getElem?_take_of_lt (by assumption)]; exact ha
      · rename_i hk
        have hk : b ≤ k := Nat.le_of_not_lt hk
        cases e0 : S[k]? with
        | none => rw [e0] at e; cases e
        | some o =>
          rw [e0] at e
          have ro := r.ob k o a e0 ha
          cases o with
          | lst xs =>
            dsimp only at e
            cases e1 : xs.mapM (frz b S n) with
            | none => rw [e1] at e; cases e
            | some ys =>
              rw [e1] at e; cases e
              obtain ⟨vs, hv, t⟩ := ro
              rw [RepV]
              exact ⟨a, vs, rfl, fz ha hk, hv, mapM_rep ih t e1⟩
          | dct ks xs =>
            dsimp only at e
            cases e1 : xs.mapM (frz b S n) with
            | none => rw [e1] at e; cases e
            | some ys =>
              rw [e1] at e; cases e
              obtain ⟨vs, hv, l, nd, t⟩ := ro
              rw [RepV]
              exact ⟨a, vs, rfl, fz ha hk, .inl hv, l, nd, mapM_rep ih t e1⟩
          | obj c fs xs =>
            dsimp only at e
            cases e1 : xs.mapM (frz b S n) with
            | none => rw [e1] at e; cases e
            | some ys =>
              rw [e1] at e; cases e
              obtain ⟨dx, vs, hv, l, t⟩ := ro
              rw [RepV]
              exact ⟨a, dx, vs, rfl, fz ha hk, hv, l, mapM_rep ih t e1⟩
          | dcT ks xs =>
            dsimp only at e
            by_cases hb : refsBs b ks = true
            · rw [if_pos hb] at e
              cases e1 : xs.mapM (frz b S n) with
              | none => rw [e1] at e; cases e
              | some ys =>
                rw [e1] at e; cases e
                obtain ⟨sm, ko, nd, l, z, ob, es, ep, ps, us, kvs, vs, q, ex, hd, he, hk', tk, rv, t⟩ := ro
                have t' := mapM_rep ih t e1
                rw [RepV]
                exact ⟨a, rfl, fz ha hk, sm, ko, nd, by rw [l, t.length, t'.length], z, ob, es, ep, ps, us, kvs, vs, q, ex, hd, he, hk', RepVs.tr Tr.cut ks kvs hb tk, rv, t'⟩
            · rw [if_neg hb] at e; cases e
    | tup xs =>
      rw [frz] at e
      cases e1 : xs.mapM (frz b S n) with
      | none => rw [e1] at e; cases e
      | some ys =>
        rw [e1] at e; cases e
        rw [RepV] at h ⊢
        obtain ⟨a, vs, ev, q, t⟩ := h
        exact ⟨a, vs, ev, q, mapM_rep ih t e1⟩
    | lst xs =>
      rw [frz] at e
      cases e1 : xs.mapM (frz b S n) with
      | none => rw [e1] at e; cases e
      | some ys =>
        rw [e1] at e; cases e
        rw [RepV] at h ⊢
        obtain ⟨a, vs, ev, nn, q, t⟩ := h
        exact ⟨a, vs, ev, fz2 nn, q, mapM_rep ih t e1⟩
    | dct ks xs =>
      rw [frz] at e
      cases e1 : xs.mapM (frz b S n) with
      | none => rw [e1] at e; cases e
      | some ys =>
        rw [e1] at e; cases e
        rw [RepV] at h ⊢
        obtain ⟨a, vs, ev, nn, q, l, nd, t⟩ := h
        exact ⟨a, vs, ev, fz2 nn, q, l, nd, mapM_rep ih t e1⟩
    | obj c fs xs =>
      rw [frz] at e
      cases e1 : xs.mapM (frz b S n) with
      | none => rw [e1] at e; cases e
      | some ys =>
        rw [e1] at e; cases e
        rw [RepV] at h ⊢
        obtain ⟨a, dx, vs, ev, nn, q, l, t⟩ := h
        exact ⟨a, dx, vs, ev, fz2 nn, q, l, mapM_rep ih t e1⟩
    | non => exact rest _ (by simpa only [frz] using e) h
    | bl x => exact rest _ (by simpa only [frz] using e) h
    | int x => exact rest _ (by simpa only [frz] using e) h
    | str x => exact rest _ (by simpa only [frz] using e) h
    | dcT x y => exact rest _ (by simpa only [frz] using e) h
    | kls x => exact rest _ (by simpa only [frz] using e) h
def refsO (b : Nat) : MO → Bool
  | .lst xs => refsBs b xs
  | .dct _ vs => refsBs b vs
  | .dcT ks vs => refsBs b ks && refsBs b vs
  | .obj _ _ vs => refsBs b vs
def cutS (b : Nat) (S S' : Sto) : Option Sto := if S'.take b = S then some S else if (S'.take b).all (refsO b) then some (S'.take b) else none
/-- at a def's end the cells that it made go -/
def frzF (m : MF) : MF := fun ds S => match m ds S with
  | .ok d S' => (match frz S.length S' 8 d, cutS S.length S S' with
    | some d', some S2 => .ok d' S2
    | _, _ => .stk)
  | .exc c d S' => (match cutS S.length S S' with
    | some S2 => if refsB S.length d then .exc c d S2 else .stk
    | none => .stk)
  | .stk => .stk
theorem RepO.refs {C : RC} {a : Addr} {o : MO} (h : RepO C a o) : refsO C.ι.length o = true := by
  cases o with
  | lst xs => obtain ⟨vs, q, t⟩ := h; exact RepVs.refs xs vs t
  | dct ks ds => obtain ⟨vs, q, l, nd, t⟩ := h; exact RepVs.refs ds vs t
  | dcT ks ds =>
    obtain ⟨sm, ko, nd, l, z, ob, es, ep, ps, us, kvs, vs, q, ex, hd, he, hk, tk, rv, t⟩ := h
    simp only [refsO, RepVs.refs ks kvs tk, RepVs.refs ds vs t, Bool.and_self]
  | obj c fs ds => obtain ⟨dx, vs, q, l, t⟩ := h; exact RepVs.refs ds vs t
theorem RepO.trb {C C' : RC} {b : Nat} {a : Addr} {o : MO} (x : Tr b C C') (e : C'.H a = C.H a) (hb : refsO b o = true) (h : RepO C a o) : RepO C' a o := by
  cases o with
  | lst xs => obtain ⟨vs, q, t⟩ := h; exact ⟨vs, e.trans q, RepVs.tr x _ _ hb t⟩
  | dct ks ds => obtain ⟨vs, q, l, nd, t⟩ := h; exact ⟨vs, e.trans q, l, nd, RepVs.tr x _ _ hb t⟩
  | dcT ks ds =>
    obtain ⟨sm, ko, nd, l, z, ob, es, ep, ps, us, kvs, vs, q, ex, hd, he, hk, tk, rv, t⟩ := h
    have hb' : refsBs b ks = true ∧ refsBs b ds = true := by simpa [refsO] using hb
    exact ⟨sm, ko, nd, l, z, ob, es, ep, ps, us, kvs, vs, e.trans q, ex, hd, by rw [x.w]; exact he, hk, RepVs.tr x _ _ hb'.1 tk, rv, RepVs.tr x _ _ hb'.2 t⟩
  | obj c fs ds => obtain ⟨dx, vs, q, l, t⟩ := h; exact ⟨dx, vs, by rw [x.K]; exact e.trans q, l, RepVs.tr x _ _ hb t⟩
theorem cut_rep' {C C' : RC} {S S' S2 : Sto} (r : RepS C S) (g : Grow C C') (r' : RepS C' S') (h : cutS S.length S S' = some S2) : RepS (C'.cut S.length) S2 ∧ Grow C (C'.cut S.length) := by
  have hl : S.length = C.ι.length := r.len.symm
  have key : ∀ S2, S'.take S.length = S2 → (∀ o ∈ S2, refsO S.length o = true) → RepS (C'.cut S.length) S2 := fun S2 e2 ho => by
    subst e2
    refine ⟨by show (C'.ι.take _).length = _; simp [r'.len], r'.nd.sublist (List.take_sublist _ _), fun a m => ⟨fun m2 => (r'.bad a m).1 (List.mem_of_mem_take m2), (r'.bad a m).2⟩, fun n mo a e1 e2 => ?_⟩
    have e2 : (C'.ι.take S.length)[n]? = some a := e2
    rw [List.getElem?_take] at e1 e2
    split at e1
    · rename_i hn
      rw [if_pos hn] at e2
      exact (r'.ob n mo a e1 e2).trb Tr.cut rfl (ho mo (List.mem_of_getElem? (by rw [List.getElem?_take_of_lt hn]; exact e1)))
    · cases e1
  refine ⟨?_, ?_⟩
  · unfold cutS at h
    split at h
    · rename_i e
      cases h
      refine key S e fun o ho => ?_
      obtain ⟨n, hn⟩ := List.mem_iff_getElem?.mp ho
      have hn2 : n < C.ι.length := by rw [r.len]; exact (List.getElem?_eq_some_iff.mp hn).1
      rw [hl]
      exact (r.ob n o C.ι[n] hn (List.getElem?_eq_getElem hn2)).refs
    · split at h
      · rename_i e
        cases h
        exact key _ rfl (List.all_eq_true.mp e)
      · cases h
  · refine ⟨g.w, g.K, g.bad, g.bad', g.kp, fun a m => g.new a (List.mem_of_mem_take m), ?_, g.le, ?_⟩
    · show (C'.ι.take S.length).take C.ι.length = _
      rw [hl, List.take_take, Nat.min_self]; exact g.pre
    · show C.ι.length ≤ (C'.ι.take S.length).length
      rw [List.length_take, hl]
      have := g.le'
      omega
theorem frz_ok {P : Program} {w : World} {K : PySem.W.Frag} {mg : Str → Option Value} {base : Heap} {k n : Nat} {f : Addr} {fd : FuncData} {ps : List Str} {m : MF} (F : FnOk P w K mg base (L2.CX P w) k f fd ps (spM w K n m)) :
    FnOk P w K mg base (L2.CX P w) k f fd ps (spM w K n (frzF m)) := F.imp fun vs H Q E ⟨hl, C, S, ds, e, hw, hK, r, t, q⟩ => by
  refine ⟨hl, C, S, ds, e, hw, hK, r, t, ?_⟩
  unfold frzF at q
  cases e1 : m ds S with
  | stk => rw [e1] at q; exact q
  | ok d S' =>
    rw [e1] at q
    dsimp only at q
    intro C' g r' v rv
    cases e2 : frz S.length S' 8 d with
    | none => rw [e2] at q; exact q.elim
    | some d' =>
      cases e3 : cutS S.length S S' with
      | none => rw [e2, e3] at q; exact q.elim
      | some S2 =>
        rw [e2, e3] at q
        obtain ⟨h1, h2⟩ := cut_rep' r g r' e3
        exact q (C'.cut S.length) h2 h1 v (frz_rep r' 8 d v d' rv e2)
  | exc c d S' =>
    rw [e1] at q
    dsimp only at q
    intro C' cls dx g r' xr
    cases e3 : cutS S.length S S' with
    | none => rw [e3] at q; exact q.elim
    | some S2 =>
      rw [e3] at q
      dsimp only at q
      split at q
      · rename_i hb
        obtain ⟨h1, h2⟩ := cut_rep' r g r' e3
        refine q (C'.cut S.length) cls dx h2 h1 ⟨xr.1, ?_⟩
        rcases xr.2 with z | ⟨a, f, d', v, ed, e, q, t⟩
        · exact .inl z
        · exact .inr ⟨a, f, d', v, ed, e, q, RepV.tr Tr.cut d' v (by subst ed; simpa [refsB, refsBs] using hb) t⟩
      · exact q.elim
mutual
theorem conB_ok {K : PySem.W.Frag} : ∀ (d : MV) (u : Value), conB K d u = true → ∃ v, RelV v u ∧ ∀ C : RC, C.K = K → RepV C d v
  | .non, u, h => by cases u <;> first | (exact ⟨.non, rfl, fun _ _ => repN⟩) | cases h
  | .bl b, u, h => by
    cases u with
    | bool c =>
      have : b = c := by simpa [conB] using h
      exact ⟨.bl b, by rw [this]; rfl, fun _ _ => repB _⟩
    | _ => cases h
  | .int i, u, h => by
    cases u with
    | int j t =>
      have : j = i := by simpa [conB] using h
      exact ⟨.int i, ⟨t, by rw [this]⟩, fun _ _ => repI _⟩
    | _ => cases h
  | .str x, u, h => by
    cases u with
    | str y t =>
      have : y = x := by simpa [conB] using h
      exact ⟨.str x, ⟨t, by rw [this]⟩, fun _ _ => repS _⟩
    | _ => cases h
  | .tup xs, u, h => by
    cases u with
    | ref a =>
      rw [conB] at h
      cases q : K.lookup a with
      | none => rw [q] at h; cases h
      | some o =>
        obtain ⟨oc, od, dt, osl⟩ := o
        rw [q] at h
        cases oc with
        | type c =>
          cases dt with
          | seq its n =>
            have both : (decide (c = "tuple") && (decide (its.size ≤ sizeLine) && conBs K xs its.toList)) = true := h
            rw [Bool.and_eq_true, Bool.and_eq_true, decide_eq_true_eq, decide_eq_true_eq] at both
            obtain ⟨rfl, hz, h3⟩ := both
            obtain ⟨vs, rv, t⟩ := conBs_ok xs its.toList h3
            refine ⟨.ref a, rfl, fun C hC => ?_⟩
            rw [RepV]
            exact ⟨a, vs, rfl, by rw [hC]; exact .inr ⟨_, its, n, q, rfl, rfl, hz, rv⟩, t C hC⟩
          | _ => cases h
        | _ => cases dt <;> cases h
    | _ => cases h
  | .lst _, u, h => by cases u <;> cases h
  | .dct _ _, u, h => by cases u <;> cases h
  | .dcT _ _, u, h => by cases u <;> cases h
  | .obj _ _ _, u, h => by cases u <;> cases h
  | .ref _, u, h => by cases u <;> cases h
  | .kls _, u, h => by cases u <;> cases h
theorem conBs_ok {K : PySem.W.Frag} : ∀ (ds : List MV) (us : List Value), conBs K ds us = true → ∃ vs, Vals vs us ∧ ∀ C : RC, C.K = K → RepVs C ds vs
  | [], [], _ => ⟨[], .nil, fun _ _ => .nil⟩
  | [], _ :: _, h => by cases h
  | _ :: _, [], h => by cases h
  | d :: ds, u :: us, h => by
    have both : (conB K d u && conBs K ds us) = true := h
    rw [Bool.and_eq_true] at both
    obtain ⟨v, r, t⟩ := conB_ok d u both.1
    obtain ⟨vs, rv, tv⟩ := conBs_ok ds us both.2
    exact ⟨v :: vs, .cons r rv, fun C hC => .cons (t C hC) (tv C hC)⟩
end
/-- an own exception class with an own __init__: its record, its lookups -/
theorem oexB_ok {K : PySem.W.Frag} {C : Addr} (h : oexB K C = true) : OexC K C := by
  unfold oexB at h
  rw [Bool.and_eq_true, Bool.and_eq_true, Bool.and_eq_true, decide_eq_true_eq] at h
  obtain ⟨rec, sa, both, kept⟩ := h
  refine ⟨?_, He.eqO_ok sa, both.1, both.2, kept⟩
  unfold oexObj at rec
  split at rec
  · rename_i is
    rw [Bool.and_eq_true, Bool.and_eq_true, beq_iff_eq, beq_iff_eq] at rec
    obtain ⟨rfl, rfl, ve⟩ := rec
    exact ⟨_, _, _, _, _, _, _, _, _, _, _, _, _, _, _, is, ve⟩
  · cases rec
end Mi
set_option Elab.async false
set_option linter.all false
set_option maxRecDepth 100000
set_option maxHeartbeats 2000000
namespace Mi
open PySem PySem.Spec PyProof.Rows L2
/-- a def by its name, with what it does -/
def FN (P : Program) (w : World) (K : PySem.W.Frag) (mg : Str → Option Value) (base : Heap) (k n : Nat) (x : Str) (m : MF) : Prop :=
  ∃ f fd ps, FnOk P w K mg base (L2.CX P w) k f fd ps (spM w K n m) ∧ mg x = some (.ref f) ∧ PySem.W.keepIn K (.ref f) = true ∧ Binds K fd ps []
/-- a method -/
def MN (P : Program) (w : World) (K : PySem.W.Frag) (mg : Str → Option Value) (base : Heap) (k n : Nat) (c mn : Str) (m : MF) : Prop :=
  ∃ fd ps, FnOk P w K mg base (L2.CX P w) k (He.ma K (He.ga K c) mn) fd ps (spM w K n m) ∧ Binds K fd ps []
/-- a constant of the module -/
def KC (mg : Str → Option Value) (K : PySem.W.Frag) (x : Str) (d : MV) : Prop := ∃ u v, mg x = some u ∧ RelV v u ∧ ∀ C : RC, C.K = K → RepV C d v
theorem kc_of {mg : Str → Option Value} {K : PySem.W.Frag} {x : Str} {d : MV} {u : Value} (h : mg x = some u) (c : conB K d u = true) : KC mg K x d := by
  obtain ⟨v, r, q⟩ := conB_ok d u c
  exact ⟨u, v, h, r, q⟩
/-- an exception class with one field and its __init__ -/
structure XN (P : Program) (w : World) (K : PySem.W.Frag) (mg : Str → Option Value) (base : Heap) (k : Nat) (c f : Str) : Prop where
  g : mg c = some (.ref (He.ga K c))
  T : OexC K (He.ga K c)
  iC : PySem.W.findIn K (.ref (He.ga K c)) "__init__" = some (some (.ref (He.ma K (He.ga K c) "__init__")))
  tI : PySem.W.typeIn K (.ref (He.ma K (He.ga K c) "__init__")) = some (.type "function")
  F : ∃ fd ps, FnOk P w K mg base (L2.CX P w) k (He.ma K (He.ga K c) "__init__") fd ps (spXI K (He.ga K c) f) ∧ Binds K fd ps []
section
variable {X : Cx} {W : WX} {e o : Expr} {es : List Expr} {mo : ME} {mas : MA} {pos p apos rpos : Pos} {k n j : Nat} {x c mn f : Str} {m : MF}
theorem se_callN (h : FN X.prog X.w X.K X.mg X.base k n x m) (hr : Room j X.A) (hj : k ≤ j) (hg : Gl X x) (tk : Takes X W) (ha : SA X W (e :: es) mas) (hl : LenA mas n) (hdb : (x == ("__debug__" : Str)) = false := by decide)
    (he : starEach (e :: es) X.env = (false, eval e X.env) :: starEach es X.env := by rfl)
    (hpl : (backTo pos (starEach es X.env)).any (·.1) = false := by rfl) :
    SE X W (.Call (.Name x p) (e :: es) [] pos) (mCallF m mas) := by
  obtain ⟨f, fd, ps, F, h1, h2, h3⟩ := h
  exact se_call F (hr.mono hj) hg h1 h2 h3 tk ha hl hdb he hpl
theorem se_callN0 (h : FN X.prog X.w X.K X.mg X.base k 0 x m) (hr : Room j X.A) (hj : k ≤ j) (hg : Gl X x) (hpure : ∀ S c d S', m [] S ≠ .exc c d S') (hdb : (x == ("__debug__" : Str)) = false := by decide) :
    SE X W (.Call (.Name x p) [] [] pos) (mCallF m mNil) := by
  obtain ⟨f, fd, ps, F, h1, h2, h3⟩ := h
  exact se_call0 F (hr.mono hj) hg h1 h2 h3 hpure hdb
theorem se_makeN (h : MN X.prog X.w X.K X.mg X.base k (n + 1) c "__init__" m) (M : Mk X.K (He.ga X.K c) (He.ma X.K (He.ga X.K c) "__init__")) (hm : X.mg c = some (.ref (He.ga X.K c))) (hr : Room j X.A) (hj : k + 1 ≤ j) (hg : Gl X c) (tk : Takes X W) (ha : SA X W (e :: es) mas) (hl : LenA mas n) (hdb : (c == ("__debug__" : Str)) = false := by decide)
    (he : starEach (e :: es) X.env = (false, eval e X.env) :: starEach es X.env := by rfl)
    (hpl : (backTo pos (starEach es X.env)).any (·.1) = false := by rfl) :
    SE X W (.Call (.Name c p) (e :: es) [] pos) (mCallF (makM c m) mas) := by
  obtain ⟨fd, ps, F, h3⟩ := h
  exact se_make M F (hr.mono hj) hg hm h3 tk ha hl hdb he hpl
theorem se_methN {pl : Sem Bool} (h : MN X.prog X.w X.K X.mg X.base k (n + 1) c mn m) (cl : Cls X.K (He.ga X.K c)) (hm : Meth X.K (He.ga X.K c) mn (He.ma X.K (He.ga X.K c) mn)) (hr : Room j X.A) (hj : k ≤ j) (tk : Takes X W) (ho : SE X W o mo) (ha : SA X W (e :: es) mas) (hl : LenA mas n)
    (hst : starEach (e :: es) X.env = (false, eval e X.env) :: starEach es X.env := by rfl)
    (hpl : (backTo pos (starEach es X.env)).any (·.1) = false := by rfl) (ht : MethAs X o mn apos pos (e :: es) pl := by rfl) :
    SE X W (.Call (.Attribute o mn apos) (e :: es) [] pos) (mMeth c mn m mo mas) := by
  obtain ⟨fd, ps, F, h3⟩ := h
  exact se_meth cl hm F (hr.mono hj) h3 tk ho ha hl hst hpl ht
theorem se_methN0 {pl : Sem Bool} (h : MN X.prog X.w X.K X.mg X.base k 1 c mn m) (cl : Cls X.K (He.ga X.K c)) (hm : Meth X.K (He.ga X.K c) mn (He.ma X.K (He.ga X.K c) mn)) (hr : Room j X.A) (hj : k ≤ j) (tk : Takes X W) (ho : SE X W o mo)
    (ht : MethAs X o mn apos pos [] pl := by rfl) :
    SE X W (.Call (.Attribute o mn apos) [] [] pos) (mMeth c mn m mo mNil) := by
  obtain ⟨fd, ps, F, h3⟩ := h
  exact se_meth0 cl hm F (hr.mono hj) h3 tk ho ht
theorem se_globN {d : MV} (h : KC X.mg X.K x d) (hg : Gl X x) (hd : (x == ("__debug__" : Str)) = false := by decide) : SE X W (.Name x pos) (mC d) := by
  obtain ⟨u, v, h1, h2, h3⟩ := h
  exact se_glob hg h1 h2 h3 hd
theorem ss_raiseN {me : ME} (h : XN X.prog X.w X.K X.mg X.base k c f) (hcalm : X.calm = true) (tk : Takes X W) (hr : Room j X.A) (hj : k + 1 ≤ j) (hg : Gl X c) (he : SE X W e me)
    (hdb : (c == ("__debug__" : Str)) = false := by decide) (hs : starEach [e] X.env = (false, eval e X.env) :: starEach [] X.env := by rfl) (hpl : (backTo pos (starEach [] X.env)).any (·.1) = false := by rfl) :
    SS X W (.Raise (some (.Call (.Name c p) [e] [] pos)) none rpos) (mRaise c f me) := by
  obtain ⟨fd, ps, F, h3⟩ := h.F
  exact ss_raise1 hcalm tk h.T h.iC h.tI F (hr.mono hj) h3 hg h.g he hdb hs hpl
end
/-- an exception class's __init__: from its def -/
theorem xn_init {P : Program} {w : World} {K : PySem.W.Frag} {mg : Str → Option Value} {base : Heap} {st : Stmt} {fd : FuncData} {c q f n0 n1 : Str} {p0 p1 pp pos : Pos} (F : FunD K "__init__" q (defArgs st) (defBody st) (defScope st) [] [] (He.ma K (He.ga K c) "__init__") fd)
    (S : FnScope [n0, n1] [n0, n1] (defScope st)) (T : OexC K (He.ga K c)) (hno : PySem.W.findIn K (.ref (He.ga K c)) f = some none) (hb : defBody st = [.Assign [.Attribute (.Name n0 p0) f pp] (.Name n1 p1) pos])
    (v0 : Vis (defScope st) n0) (v1 : Vis (defScope st) n1)
    (d0 : (n0 == ("__debug__" : Str)) = false) (c0 : (n0 == ("__classdict__" : Str)) = false) (d1 : (n1 == ("__debug__" : Str)) = false) (c1 : (n1 == ("__classdict__" : Str)) = false)
    (hs : ∀ (cdv : Value) (s : Shared), swapsWith (.Name n1 p1) (some (.Attribute (.Name n0 p0) f pp)) pos.line (envOfC q (defScope st) s.heap.objs.size (He.ma K (He.ga K c) "__init__") cdv) = pure false) : FnOk P w K mg base (L2.CX P w) 1 (He.ma K (He.ga K c) "__init__") fd [n0, n1] (spXI K (He.ga K c) f) := by
  refine F.ok S (fun vs H Q E h => ?_) (fun cdv A outer s H vs Q E hr h => xi_body rfl rfl v0 v1 T hno d0 c0 d1 c1 (hs cdv s) hb h)
  obtain ⟨a, v, rfl, _⟩ := h
  rfl
section
variable {X : Cx} {W : WX} {pos : Pos} {x : Str} {k : Nat}
theorem sv (i : Nat) (hN : X.N[i]? = some x := by rfl) (hv : Vis X.env.scope x := by first | exact .inl rfl | exact .inr (.inl rfl) | exact .inr (.inr rfl)) (hd : (x == ("__debug__" : Str)) = false := by decide) (hcd : (x == ("__classdict__" : Str)) = false := by decide) : SE X W (.Name x pos) (mVar i) := se_var hN hv hd hcd
theorem sn (i : Nat) (nd : X.N.Nodup) (hN : X.N[i]? = some x := by rfl) (hx : Loc X.env.scope x := by first | exact .inl rfl | exact .inr rfl) (hf : X.fn x = true ∨ X.env.scope.names.lookup x = some .local := by first | exact .inl rfl | exact .inr rfl | assumption) : SG X (.Name x pos) (tgName i) := sg_name nd hN hx hf
theorem sset (i : Nat) {e : Expr} {me : ME} {pos' : Pos} (nd : X.N.Nodup) (he : SE X W e me) (hN : X.N[i]? = some x := by rfl) (hx : Loc X.env.scope x := by first | exact .inl rfl | exact .inr rfl) (hs : swapsWith e (some (.Name x pos')) pos.line X.env = pure false := by rfl) (hf : X.fn x = true ∨ X.env.scope.names.lookup x = some .local := by first | exact .inl rfl | exact .inr rfl | assumption) :
    SS X W (.Assign [.Name x pos'] e pos) (mAsg me (tgName i)) := ss_set nd hN hx he hs hf
theorem Room.u1 (r : Room k X.A) : X.A.units + 1 < cLine := by have := r.un; omega
theorem Room.u64 (r : Room k X.A) : X.A.units + 64 < cLine := by have := r.un; omega
theorem Room.u65 (r : Room k X.A) : X.A.units + 65 < cLine := by have := r.un; omega
end
end Mi
set_option Elab.async false
set_option linter.all false
set_option maxRecDepth 100000
set_option maxHeartbeats 2000000
namespace Mi
open PySem PySem.Spec PyProof.Rows L2
abbrev MO' := Ev → Sto → R (Option Int)
def moNone : MO' := fun _ S => .ok none S
def moSome (e : ME) : MO' := fun ρ S => (e ρ S).bind fun d S1 => match d with
  | .int i => .ok (some i) S1
  | _ => .stk
def tO (X : Cx) (W : WX) (m : MO') : TO := fun σ H Q => ∃ C ρ S, C.H = H ∧ Sv X ρ σ S C ∧ Wants W σ C (m ρ S) (fun o _ C' => Q o C'.H)
theorem _root_.L2.PO.imp {X : Cx} {e : Option Expr} {t t' : TO} (h : PO X e t) (k : ∀ σ H Q, t' σ H Q → t σ H Q) : PO X e t' := ⟨fun pins s σ H Q I q => h.run pins s σ H Q I (k σ H Q q)⟩
abbrev SO (X : Cx) (W : WX) (e : Option Expr) (m : MO') : Prop := PO X e (tO X W m)
def mSlice (e : ME) (lo hi : MO') : ME := fun ρ S => (e ρ S).bind fun d S1 => (lo ρ S1).bind fun l S2 => (hi ρ S2).bind fun h S3 => slcM d l h S3
theorem pu_slc : ∀ d l h S c x S', slcM d l h S ≠ .exc c x S' := by
  intro d l h S c x S' e
  unfold slcM at e
  split at e
  · cases e
  · split at e <;> cases e
  · split at e <;> cases e
section
variable {X : Cx} {W : WX} {e : Expr} {me : ME} {lo hi : Option Expr} {ml mh : MO'} {pos p2 : Pos}
theorem so_none : SO X W none moNone := po_none.imp fun σ H Q ⟨C, ρ, S, e, s, q⟩ => by
  subst e
  exact q.now s.rs
theorem so_some (h : SE X W e me) : SO X W (some e) (moSome me) := (po_some h).imp fun σ H Q ⟨C, ρ, S, e, s, q⟩ => by
  subst e
  refine tE.bind s q fun d S1 C1 v s1 g1 r1 q1 => ?_
  split at q1
  · exact ⟨_, vInt r1, q1.now s1.rs⟩
  · exact q1.elim
theorem se_slice (he : SE X W e me) (hl : SO X W lo ml) (hh : SO X W hi mh) : SE X W (.Subscript e (.Slice lo hi none p2) pos) (mSlice me ml mh) :=
  (pe_slice slM he hl hh).imp fun σ H Q ⟨C, ρ, S, e, s, q⟩ => by
    subst e
    refine tE.bind s q fun d S1 C1 v s1 g1 r1 q1 => ?_
    refine ⟨C1, ρ, S1, rfl, s1, (Wants.bind q1).mono fun l S2 C2 g2 r2 _ q2 => ?_⟩
    have s2 := s1.grow g2 r2
    refine ⟨C2, ρ, S2, rfl, s2, (Wants.bind q2.1).mono fun h S3 C3 g3 r3 _ q3 => ?_⟩
    have s3 := s2.grow g3 r3
    refine ⟨C3, S3, d, rfl, s3.w, s3.K, s3.rs, (r1.grow g2 s1.rs).grow g3 s2.rs, ?_⟩
    have q3 := q3.1
    cases e : slcM d l h S3 with
    | ok a S' => rw [e] at q3; exact ⟨a, S', rfl, q3⟩
    | exc c d S' => exact absurd e (pu_slc _ _ _ _ _ _ _)
    | stk => rw [e] at q3; exact q3.elim
end
theorem pu_len : Pure1 lenM := by
  intro ds S c d S' h
  unfold lenM at h
  split at h
  · split at h
    · cases h
    · unfold lenD at h
      split at h
      · cases h
      · split at h
        · split at h <;> cases h
        · cases h
  · cases h
theorem pu_int : Pure1 intM := by intro ds S c d S' h; unfold intM at h; split at h <;> cases h
theorem pu_tuple : Pure1 tupM := by
  intro ds S c d S' h
  unfold tupM at h
  split at h
  · split at h <;> cases h
  · cases h
theorem pu_list {fr : Bool} : Pure1 (lstM fr) := by
  intro ds S c d S' h
  unfold lstM at h
  split at h
  · split at h
    · split at h <;> cases h
    · cases h
  · cases h
theorem takes_cx {P : Program} {w : World} {K : PySem.W.Frag} {mg : Str → Option Value} {base : Heap} {N : List Str} {q : Str} {sc : Scope} {f : Addr} {cdv : Value} {A : Around} {outer : List Env} {s : Shared} {H : Hp} {E : XK} :
    Takes (cxOf (L2.CX P w) P w K mg base N q sc f cdv A outer s H E) (fun cls dx _ H => E cls dx H) := takes_of rfl rfl rfl rfl
theorem pass_cx {P : Program} {w : World} {K : PySem.W.Frag} {mg : Str → Option Value} {base : Heap} {N : List Str} {q : Str} {sc : Scope} {f : Addr} {cdv : Value} {A : Around} {outer : List Env} {s : Shared} {H : Hp} {E : XK} :
    PassesOwn (model P w) (cxOf (L2.CX P w) P w K mg base N q sc f cdv A outer s H E).A (cxOf (L2.CX P w) P w K mg base N q sc f cdv A outer s H E).env (cxOf (L2.CX P w) P w K mg base N q sc f cdv A outer s H E).xe := passes_of rfl
theorem bt_len : bootBuiltins "len" = some (.builtin "len") := by decide +kernel
theorem bt_int : bootBuiltins "int" = some (.type "int") := by decide +kernel
theorem bt_str : bootBuiltins "str" = some (.type "str") := by decide +kernel
theorem bt_bool : bootBuiltins "bool" = some (.type "bool") := by decide +kernel
theorem bt_list : bootBuiltins "list" = some (.type "list") := by decide +kernel
theorem bt_tuple : bootBuiltins "tuple" = some (.type "tuple") := by decide +kernel
theorem bt_any : bootBuiltins "any" = some (.builtin "any") := by decide +kernel
theorem bt_all : bootBuiltins "all" = some (.builtin "all") := by decide +kernel
theorem bt_sum : bootBuiltins "sum" = some (.builtin "sum") := by decide +kernel
end Mi
set_option Elab.async false
set_option linter.all false
set_option maxRecDepth 100000
set_option maxHeartbeats 2000000
namespace Mi
open PySem PySem.Spec PyProof.Rows L2
mutual
def sh : MV → Bool
  | .non | .bl _ | .int _ => true
  | .str x => PyData.strOk x
  | .tup xs => shs xs
  | .lst xs => shs xs
  | _ => false
def shs : List MV → Bool
  | [] => true
  | x :: xs => sh x && shs xs
end
mutual
def dpt : MV → Nat
  | .tup xs => dpts xs + 1
  | .lst xs => dpts xs + 1
  | _ => 0
def dpts : List MV → Nat
  | [] => 0
  | x :: xs => max (dpt x) (dpts xs)
end
mutual
def cn : MV → MV
  | .bl b => .int (if b then 1 else 0)
  | .tup xs => .tup (cns xs)
  | .lst xs => .lst (cns xs)
  | x => x
def cns : List MV → List MV
  | [] => []
  | x :: xs => cn x :: cns xs
end
mutual
def pdO : MV → PyData
  | .non => .none
  | .bl b => .bool b
  | .int i => .int i
  | .str x => .str x
  | .tup xs => .tuple (pdOs xs)
  | .lst xs => .list (pdOs xs)
  | _ => .dict []
def pdOs : List MV → List PyData
  | [] => []
  | x :: xs => pdO x :: pdOs xs
end
mutual
theorem pdF_O (S : Sto) : ∀ (n : Nat) (x : MV), sh x = true → dpt x < n → pdF n S x = pdO x
  | 0, x, _, h => by omega
  | n + 1, .non, _, _ => by simp [pdF, pdO]
  | n + 1, .bl _, _, _ => by simp [pdF, pdO]
  | n + 1, .int _, _, _ => by simp [pdF, pdO]
  | n + 1, .str _, _, _ => by simp [pdF, pdO]
  | n + 1, .tup xs, h, d => by
    rw [pdF, pdO, pdF_Os S n xs (by simpa [sh] using h) (by rw [dpt] at d; omega)]
  | n + 1, .lst xs, h, d => by
    rw [pdF, pdO, pdF_Os S n xs (by simpa [sh] using h) (by rw [dpt] at d; omega)]
  | n + 1, .dct _ _, h, _ => by simp [sh] at h
  | n + 1, .dcT _ _, h, _ => by simp [sh] at h
  | n + 1, .obj _ _ _, h, _ => by simp [sh] at h
  | n + 1, .ref _, h, _ => by simp [sh] at h
  | n + 1, .kls _, h, _ => by simp [sh] at h
theorem pdF_Os (S : Sto) : ∀ (n : Nat) (xs : List MV), shs xs = true → dpts xs < n → xs.map (pdF n S) = pdOs xs
  | n, [], _, _ => by simp [pdOs]
  | n, x :: xs, h, d => by
    rw [shs, Bool.and_eq_true] at h
    rw [dpts] at d
    rw [List.map_cons, pdOs, pdF_O S n x h.1 (by omega), pdF_Os S n xs h.2 (by omega)]
end
mutual
theorem can_O : ∀ x : MV, sh x = true → (pdO x).canLay0 = true
  | .non, _ => by simp [pdO, PyData.canLay0]
  | .bl _, _ => by simp [pdO, PyData.canLay0]
  | .int _, _ => by simp [pdO, PyData.canLay0]
  | .str _, h => by simpa [pdO, PyData.canLay0, sh] using h
  | .tup xs, h => by rw [pdO, PyData.canLay0]; exact can_Os xs (by simpa [sh] using h)
  | .lst xs, h => by rw [pdO, PyData.canLay0]; exact can_Os xs (by simpa [sh] using h)
  | .dct _ _, h => by simp [sh] at h
  | .dcT _ _, h => by simp [sh] at h
  | .obj _ _ _, h => by simp [sh] at h
  | .ref _, h => by simp [sh] at h
  | .kls _, h => by simp [sh] at h
theorem can_Os : ∀ xs : List MV, shs xs = true → PyData.canLayAll0 (pdOs xs) = true
  | [], _ => by simp [pdOs, PyData.canLayAll0]
  | x :: xs, h => by
    rw [shs, Bool.and_eq_true] at h
    rw [pdOs, PyData.canLayAll0, can_O x h.1, can_Os xs h.2]; rfl
end
mutual
theorem dep_O : ∀ x : MV, (pdO x).depth ≤ dpt x ∨ sh x = false
  | .non => .inl (by simp [pdO, PyData.depth])
  | .bl _ => .inl (by simp [pdO, PyData.depth])
  | .int _ => .inl (by simp [pdO, PyData.depth])
  | .str _ => .inl (by simp [pdO, PyData.depth])
  | .tup xs => by
    rcases dep_Os xs with h | h
    · exact .inl (by rw [pdO, PyData.depth, dpt]; omega)
    · exact .inr (by rw [sh]; exact h)
  | .lst xs => by
    rcases dep_Os xs with h | h
    · exact .inl (by rw [pdO, PyData.depth, dpt]; omega)
    · exact .inr (by rw [sh]; exact h)
  | .dct _ _ => .inr (by simp [sh])
  | .dcT _ _ => .inr (by simp [sh])
  | .obj _ _ _ => .inr (by simp [sh])
  | .ref _ => .inr (by simp [sh])
  | .kls _ => .inr (by simp [sh])
theorem dep_Os : ∀ xs : List MV, PyData.depthAll (pdOs xs) ≤ dpts xs ∨ shs xs = false
  | [] => .inl (by simp [pdOs, PyData.depthAll])
  | x :: xs => by
    rcases dep_O x with h | h
    · rcases dep_Os xs with h2 | h2
      · exact .inl (by rw [pdOs, PyData.depthAll, dpts]; omega)
      · exact .inr (by rw [shs, h2]; simp)
    · exact .inr (by rw [shs, h]; simp)
end
theorem dec_and {p q r : Prop} [Decidable p] [Decidable q] [Decidable r] (h : r ↔ p ∧ q) : (decide p && decide q) = decide r := by
  by_cases hp : p <;> by_cases hq : q <;> simp [hp, hq, h]
mutual
theorem eqv_O : ∀ x y : MV, sh x = true → sh y = true → PyData.eqv (pdO x) (pdO y) = decide (cn x = cn y)
  | .non, y, hx, hy => by cases y <;> simp [pdO, PyData.eqv, cn, sh] at hy ⊢
  | .bl a, y, hx, hy => by
    cases y <;> simp [pdO, PyData.eqv, cn, sh] at hy ⊢
    · rename_i b; cases a <;> cases b <;> rfl
    · rw [Bool.beq_eq_decide_eq]
  | .int a, y, hx, hy => by
    cases y <;> simp [pdO, PyData.eqv, cn, sh] at hy ⊢
    all_goals first | rfl | rw [Bool.beq_eq_decide_eq]
  | .str a, y, hx, hy => by
    cases y <;> simp [pdO, PyData.eqv, cn, sh] at hy ⊢
    all_goals first | rfl | rw [Bool.beq_eq_decide_eq]
  | .tup xs, y, hx, hy => by
    cases y with
    | tup ys =>
      rw [pdO, pdO, PyData.eqv, cn, cn, eqv_Os xs ys (by simpa [sh] using hx) (by simpa [sh] using hy)]
      simp
    | _ => simp [pdO, PyData.eqv, cn, sh] at hy ⊢
  | .lst xs, y, hx, hy => by
    cases y with
    | lst ys =>
      rw [pdO, pdO, PyData.eqv, cn, cn, eqv_Os xs ys (by simpa [sh] using hx) (by simpa [sh] using hy)]
      simp
    | _ => simp [pdO, PyData.eqv, cn, sh] at hy ⊢
  | .dct _ _, _, h, _ => by simp [sh] at h
  | .dcT _ _, _, h, _ => by simp [sh] at h
  | .obj _ _ _, _, h, _ => by simp [sh] at h
  | .ref _, _, h, _ => by simp [sh] at h
  | .kls _, _, h, _ => by simp [sh] at h
theorem eqv_Os : ∀ xs ys : List MV, shs xs = true → shs ys = true → PyData.eqvAll (pdOs xs) (pdOs ys) = decide (cns xs = cns ys)
  | [], [], _, _ => by simp [pdOs, PyData.eqvAll, cns]
  | [], _ :: _, _, _ => by simp [pdOs, PyData.eqvAll, cns]
  | _ :: _, [], _, _ => by simp [pdOs, PyData.eqvAll, cns]
  | x :: xs, y :: ys, hx, hy => by
    rw [shs, Bool.and_eq_true] at hx hy
    rw [pdOs, pdOs, PyData.eqvAll, cns, cns, eqv_O x y hx.1 hy.1, eqv_Os xs ys hx.2 hy.2]
    exact dec_and (by simp)
end
theorem shaped_O {x : MV} (h : sh x = true) (d : dpt x ≤ 7) : SeqAt.shaped (pdO x) = true := by
  unfold SeqAt.shaped
  rw [can_O x h]
  rcases dep_O x with e | e
  · simp; omega
  · rw [h] at e; cases e
/-- a cell that is a list, looked through -/
def deref (S : Sto) : MV → MV
  | .ref n => (match S[n]? with
    | some (.lst xs) => .lst xs
    | _ => .ref n)
  | x => x
theorem pdF_deref (S : Sto) (x : MV) : pdF 8 S x = pdF 8 S (deref S x) := by
  unfold deref
  split
  · split
    · rename_i h
      simp only [pdF, h]
    · rfl
  · rfl
theorem scal_not_ref {x y : MV} (h : scalM x y = true) : (∀ n, x ≠ .ref n) ∧ ∀ n, y ≠ .ref n := by
  cases x <;> cases y <;> simp [scalM, skind] at h ⊢
theorem deref_of {S : Sto} {x : MV} (h : ∀ n, x ≠ .ref n) : deref S x = x := by
  unfold deref
  split
  · rename_i n; exact absurd rfl (h n)
  · rfl
theorem eqB_sh {S : Sto} {x y x' y' : MV} (ex : deref S x = x') (ey : deref S y = y') (hx : sh x' = true) (hy : sh y' = true) (dx : dpt x' ≤ 7) (dy : dpt y' ≤ 7) : eqB S x y = some (decide (cn x' = cn y')) := by
  unfold eqB
  by_cases hs : scalM x y = true
  · rw [if_pos hs]
    obtain ⟨h1, h2⟩ := scal_not_ref hs
    rw [deref_of h1] at ex
    rw [deref_of h2] at ey
    subst ex ey
    congr 1
    cases x <;> cases y <;> simp [scalM, skind] at hs <;> simp [seqM, cn]
    rename_i a b
    cases a <;> cases b <;> simp
  · rw [if_neg hs, pdF_deref S x, pdF_deref S y, ex, ey, pdF_O S 8 x' hx (by omega), pdF_O S 8 y' hy (by omega), shaped_O hx dx, shaped_O hy dy, eqv_O x' y' hx hy]
    rfl
theorem eqM_sh {S : Sto} {x y x' y' : MV} (ex : deref S x = x') (ey : deref S y = y') (hx : sh x' = true) (hy : sh y' = true) (dx : dpt x' ≤ 7) (dy : dpt y' ≤ 7) : eqM x y S = .ok (.bl (decide (cn x' = cn y'))) S := by
  unfold eqM; rw [eqB_sh ex ey hx hy dx dy]
theorem any_O {x : MV} (hx : sh x = true) : ∀ ys : List MV, shs ys = true → ((pdOs ys).any fun z => PyData.eqv z (pdO x)) = decide (cn x ∈ cns ys)
  | [], _ => by simp [pdOs, cns]
  | y :: ys, h => by
    rw [shs, Bool.and_eq_true] at h
    rw [pdOs, List.any_cons, cns, any_O hx ys h.2, eqv_O y x h.1 hx]
    by_cases e : cn x = cn y
    · simp [e]
    · simp [e, Ne.symm e]
theorem inB_sh {S : Sto} {x c : MV} {ys : List MV} (ec : deref S c = .tup ys ∨ deref S c = .lst ys) (hx : sh x = true) (hy : shs ys = true) (dx : dpt x ≤ 7) (dy : dpts ys ≤ 6) : inB S x c = some (decide (cn x ∈ cns ys)) := by
  have nd : dctOf S c = none := by
    cases c with
    | ref n =>
      simp only [deref] at ec
      simp only [dctOf]
      cases e : S[n]? with
      | none => rfl
      | some o =>
        rw [e] at ec
        cases o <;> first | rfl | (rcases ec with ec | ec <;> cases ec)
    | dct ks vs => rcases ec with ec | ec <;> cases ec
    | _ => rfl
  unfold inB
  rw [nd]
  dsimp only
  rw [pdF_deref S c]
  rcases ec with ec | ec
  · have hc : sh (.tup ys) = true := by rw [sh]; exact hy
    have hd : dpt (.tup ys) ≤ 7 := by rw [dpt]; omega
    have e0 := shaped_O hc hd
    rw [pdO] at e0
    rw [ec, pdF_O S 8 (.tup ys) hc (by omega), pdO]
    dsimp only
    rw [pdF_O S 8 x hx (by omega), shaped_O hx dx, e0, any_O hx ys hy]
    rfl
  · have hc : sh (.lst ys) = true := by rw [sh]; exact hy
    have hd : dpt (.lst ys) ≤ 7 := by rw [dpt]; omega
    have e0 := shaped_O hc hd
    rw [pdO] at e0
    rw [ec, pdF_O S 8 (.lst ys) hc (by omega), pdO]
    dsimp only
    rw [pdF_O S 8 x hx (by omega), shaped_O hx dx, e0, any_O hx ys hy]
    rfl
/-- what a frozen def answers -/
theorem frzF_ok {m : MF} {ds : List MV} {S S' : Sto} {d d' : MV} (h : m ds S = .ok d S') (h1 : frz S.length S' 8 d = some d') (h2 : S'.take S.length = S) : frzF m ds S = .ok d' S := by
  unfold frzF Mi.cutS
  rw [h]
  dsimp only
  rw [h1, if_pos h2]
end Mi
set_option Elab.async false
set_option linter.all false
set_option maxRecDepth 100000
set_option maxHeartbeats 2000000
namespace Mi
open PySem PySem.Spec PyProof.Rows L2
/-- a statement, a def that the proof never comes to -/
def mStk : MS := fun _ _ => .stk
theorem ss_stk {X : Cx} {W : WX} {st : Stmt} : SS X W st mStk := ps_never.imp fun D σ H ⟨C, ρ, S, e, s, q⟩ => q.elim
end Mi
set_option Elab.async false
set_option linter.all false
set_option maxRecDepth 100000
set_option maxHeartbeats 4000000
namespace PySem
open Sem (wp)
open AutoSeq1 (wpAny_loadPart')
/-- what iter(v) gives where the heap is hp -/
def IterTo (v it : Value) (hp hp' : Heap) : Prop := ∀ (prog : Program) (w : World) (A : Around) (E : Value → Shared → Prop) (s : Shared) (Q : Value → Shared → Prop), s.heap = hp → Q it { s with heap := hp' } → wpAny (model prog w) A (pyIter v) Q E s
/-- a fresh enumerate over it -/
abbrev enumOb (it : Value) : Obj := { cls := .type "enumerate", data := .fields #[.none, .bool false, it, rawInt 0, .none, .none] }
theorem enum_made {v it : Value} {hp hp' : Heap} (go : IterTo v it hp hp') :
    Meets (Builtin.«enumerate.__new__» ⟨[.type "enumerate", v], []⟩) (fun _ R st => st.heap = hp ∧ R (.ok (.ret (.ref hp'.objs.size))) { st with heap := hp'.push (enumOb it) }) := by
  refine .of_wp fun prog w A R st both => ?_
  obtain ⟨h0, gs, dr, tk, os⟩ := st
  obtain ⟨at0, fin⟩ := both
  have own := sub_enumerate
  have next : ∀ {A' : Around} {E' : Value → Shared → Prop} {Q' : Value → Shared → Prop}, Q' it ⟨hp', gs, dr, tk, os⟩ → wpAny (model prog w) A' (pyIter v) Q' E' ⟨h0, gs, dr, tk, os⟩ := fun q => go prog w _ _ ⟨h0, gs, dr, tk, os⟩ _ at0 q
  wp_walk using next
  refine wpAny_stack_any fun who => wpAny_pure ?_
  split
  · rename_i cl _ _ _ _ _
    rcases (cl == Value.type "enumerate") with _ | _ <;> (wp_walk using next; exact ⟨_, rfl, fin⟩)
  · wp_walk using next; exact ⟨_, rfl, fin⟩
/-- enumerate(v) -/
theorem enum_call {prog : Program} {w : World} {A : Around} {E : Value → Shared → Prop} {s : Shared} {v it : Value} {hp' : Heap} {Q : Value → Shared → Prop} (go : IterTo v it s.heap hp') (q : Q (.ref hp'.objs.size) { s with heap := hp'.push (enumOb it) }) :
    wpAny (model prog w) A (call (.type "enumerate") [v]) Q E s :=
  callType_new F.called_enumerate (by decide) (F.typeCall_enumerate_1 _) (F.newCall_enumerate_1 _) (fun o => F.args_object_init_2 o _) F.entry_enumerate_new (enum_made go) ⟨rfl, ⟨⟨_, Heap.get?_push_size _ rfl, rfl⟩, q⟩⟩
end PySem
namespace Mi
open PySem PySem.Spec PyProof.Rows L2
/-- over a list or a tuple: its own iterator lies ahead of the enumerate's record -/
theorem iterK {s : Shared} {a : Addr} {us : Array Value} {t : Bool} (p : CoK t s.heap a us) : IterTo (.ref a) (.ref s.heap.objs.size) s.heap (s.heap.push (obK t a)) := fun prog w A E s' Q es q => by
  have b := (beginsK a us t).iter prog w A E s' Q (es ▸ p)
  rw [es] at b
  exact b q
section
variable {X : Cx} {W : WX} {tg l e e2 e3 : Expr} {ml : ME} {mas : MA} {p pos tpos : Pos} {elts : List Expr} {kk : Nat}
theorem pi_e {ta : TA} (hg : Gl X "enumerate") (hm : X.mg "enumerate" = none) (ha : PA X [e] ta) (hs : starEach (e :: []) X.env = (false, eval e X.env) :: starEach [] X.env) (hpl : (backTo pos (starEach [] X.env)).any (·.1) = false) :
    PI X (.Tuple elts kk tpos) (.Call (.Name "enumerate" p) [e] [] pos) (fun σ H Rr => ta σ H fun vs H1 => ∃ a t xs, vs = [.ref a] ∧ SqK X.K t H1 a xs ∧ Rr (ItE X.K t a) H1) := by
  refine pi_made hg hm boot_enumerate ha ?_ hs hpl
  rintro pins σ H s us _ Rr inv r ⟨a, t, xs, rfl, sq, q⟩
  cases refs_of (as := [a]) r
  obtain ⟨ua, _, pa, la⟩ := seqK inv sq
  refine enum_call (iterK pa) ?_
  have nf : (obK t a).isFreed = false := by cases t <;> rfl
  have sz : (s.heap.push (obK t a)).objs.size = s.heap.objs.size + 1 := Heap.size_push ..
  have oe : IsEnum ((s.heap.push (obK t a)).push (enumOb (.ref s.heap.objs.size))) (s.heap.push (obK t a)).objs.size s.heap.objs.size 0 .none := Heap.get?_push_size _ rfl
  have oi : ((s.heap.push (obK t a)).push (enumOb (.ref s.heap.objs.size))).get? s.heap.objs.size = some (obK t a) := Heap.get?_push_of_some _ (Heap.get?_push_size _ nf)
  rw [sz] at oe ⊢
  refine wpAny_pyIter_enum oe ⟨_, _, _, _, H, rfl, inv.kept (t' := s.toks) fun b o q => Heap.get?_push_of_some _ (Heap.get?_push_of_some _ q),
    (walk_e (Nat.ne_of_lt la) (Nat.succ_ne_self _) (Nat.ne_of_gt (Nat.lt_succ_of_lt la))).turn, ⟨⟨_, oe⟩, itK_new oi⟩, all_new inv (by simp [Nat.ble_eq]), q⟩
theorem si_enum (hg : Gl X "enumerate") (hm : X.mg "enumerate" = none) (ha : SA X W [e] mas) (hs : starEach (e :: []) X.env = (false, eval e X.env) :: starEach [] X.env := by rfl) (hpl : (backTo pos (starEach [] X.env)).any (·.1) = false := by rfl) :
    SI X W (.Tuple elts kk tpos) (.Call (.Name "enumerate" p) [e] [] pos) (mEnum mas) :=
  (pi_e hg hm ha hs hpl).imp fun σ H Q ⟨C, ρ, S, e, s, q⟩ => by
    subst e
    refine tA.bind s q fun ds S1 C1 vs s1 g1 r1 q1 => ?_
    unfold enmOf at q1
    split at q1
    · split at q1
      · rename_i e1
        obtain ⟨v, rfl, rv⟩ := one_of r1
        obtain ⟨a, vs, rfl, sq, t⟩ := seqK_of s1.rs rv e1
        rw [s1.K] at sq
        exact ⟨a, _, vs, rfl, sq, q1.now s1.rs _ (src_e s1.K rv)⟩
      · exact q1.elim
    · exact q1.elim
theorem se_neg {n : Int} {j : Nat} {p1 p2 : Pos} : SE X W (.UnaryOp .USub (.Constant (.int n) j p1) p2) (mC (.int (-n))) := by
  refine (pe_un (r := rU fun i => .int (-i)) (by first | exact un_neg | exact un_usub | exact unR_neg) pe_int).imp fun σ H Q ⟨C, ρ, S, e, s, q⟩ => ?_
  subst e
  exact ⟨n, rfl, q.now s.rs _ (repI _)⟩
end
end Mi
set_option Elab.async false
set_option linter.all false
set_option maxRecDepth 100000
set_option maxHeartbeats 4000000
namespace Mi
open PySem
/-- the record of an iterator that owns a tuple: what it knows of the tuple, whether it holds it for out, the rest of its fields -/
abbrev OwnRec (h : Heap) (a : Addr) (c : String) (v0 : Value) (f : Bool) (rest : List Value) : Prop :=
  h.get? a = some { cls := .type c, dict := none, data := .fields (v0 :: .bool f :: rest).toArray, slots := #[] }
/-- nothing, or where a tuple once lay -/
def Tells (v : Value) : Prop := v = .none ∨ ∃ T : Addr, v = rawInt T
/-- all but the cells W stands -/
def Stays (W : List Addr) (h h' : Heap) : Prop := ∀ b o, b ∉ W → h.get? b = some o → h'.get? b = some o
theorem Stays.trans {W : List Addr} {h h1 h2 : Heap} (x : Stays W h h1) (y : Stays W h1 h2) : Stays W h h2 := fun b o nb e => y b o nb (x b o nb e)
theorem Stays.of {W : List Addr} {a : Addr} {h h' : Heap} (x : Heap.SameBut a h h') (m : a ∈ W) : Stays W h h' := fun b o nb e => x.extBut b o (fun z => nb (z ▸ m)) e
section
variable {prog : Program} {w : World} {A : Around} {s : Shared} {E : Value → Shared → Prop}
/-- is the owned tuple free? whatever the answer, only the second field may be written -/
theorem own_free {a : Addr} {c : String} {v0 : Value} {f : Bool} {rest : List Value} {Q : Bool → Shared → Prop} (rec : OwnRec s.heap a c v0 f rest) (tells : Tells v0)
    (k : ∀ b f' h', OwnRec h' a c v0 f' rest → Heap.SameBut a s.heap h' → Q b { s with heap := h' }) : wpAny (model prog w) A (Builtin.SmallTypes.ownedTupleIsFree (.ref a)) Q E s := by
  have asis : ∀ b, Q b s := fun b => k b f s.heap rec (Heap.SameBut.refl _ _)
  have look : ∀ {T : Addr} {Q' : Option Obj → Shared → Prop}, Q' (s.heap.get? T) s → wpAny (model prog w) A (loadIfAlive T) Q' E s := fun q _ _ _ => q
  simp only [Builtin.SmallTypes.ownedTupleIsFree]
  refine wpAny_bind (wpAny_field rec rfl (x := v0) rfl ?_)
  obtain rfl | ⟨T, rfl⟩ := tells
  · exact wpAny_pure (asis true)
  · simp only [rawInt, Int.toNat_natCast]
    apply wpAny_bind
    apply look
    rcases s.heap.get? T with _ | oT
    · exact wpAny_pure (asis true)
    · refine wpAny_bind (wpAny_field rec rfl (x := .bool f) rfl ?_)
      cases f
      · exact wpAny_bind (wpAny_setField_rec rec (by simp) fun h' rec' sb => wpAny_pure (k false true h' rec' sb))
      · exact wpAny_pure (asis false)
/-- a new tuple goes out -/
theorem own_out {a T : Addr} {c : String} {v0 : Value} {f : Bool} {rest : List Value} {Q : Unit → Shared → Prop} (ir : OwnRec s.heap a c v0 f rest) (k : ∀ h', OwnRec h' a c (rawInt T) false rest → Heap.SameBut a s.heap h' → Q () { s with heap := h' }) :
    wpAny (model prog w) A (Builtin.SmallTypes.ownedTupleHandOut (.ref a) (.ref T)) Q E s :=
  wpAny_bind (wpAny_setField_rec ir (by simp) fun _ ir1 sb1 => wpAny_setField_rec ir1 (by simp) fun h2 ir2 sb2 => k h2 ir2 ⟨sb2.1.trans sb1.1, fun b nb => (sb2.2 b nb).trans (sb1.2 b nb)⟩)
end
section
variable {prog : Program} {w : World} {A : Around} {E : Value → Shared → Prop} {s : Shared} {z TI TO i1 i2 : Addr} {fp1 fp2 : List Addr} {n1 n2 i : Nat} {P1 P2 : Nat → Value → Prop} {St1 St2 : Nat → Heap → Prop} {v0 : Value} {f : Bool}
/-- a zip over two sources, whatever has become of its tuple -/
structure ZipAt (h : Heap) (z TI TO i1 i2 : Addr) : Prop where
  it : ∃ v0 f, Tells v0 ∧ OwnRec h z "zip" v0 f [.bool false, .ref TI, .ref TO]
  src : IsTupOf2 h TI (.ref i1) (.ref i2)
  own : ∃ a b, IsTupOf2 h TO a b
end
end Mi
set_option Elab.async false
set_option linter.all false
set_option maxRecDepth 100000
set_option maxHeartbeats 4000000
namespace Mi
open PySem
section
variable {prog : Program} {w : World} {A : Around} {s : Shared} {E : Value → Shared → Prop}
/-- an enumerate, whatever has become of its tuple -/
def EnumAt (h : Heap) (e it : Addr) (i : Int) : Prop := ∃ v0 f old, Tells v0 ∧ OwnRec h e "enumerate" v0 f [.ref it, rawInt i, .none, old]
theorem EnumAt.kept {h h' : Heap} {e it : Addr} {i : Int} (x : EnumAt h e it i) (k : ∀ o, h.get? e = some o → h'.get? e = some o) : EnumAt h' e it i := x.imp fun _ y => y.imp fun _ z => z.imp fun _ q => ⟨q.1, k _ q.2⟩
theorem EnumAt.obj {h : Heap} {e it : Addr} {i : Int} : EnumAt h e it i → ∃ o, h.get? e = some o ∧ (o.cls = .type "enumerate" ∧ ∀ v, o.data ≠ .cell v)
  | ⟨_, _, _, _, q⟩ => ⟨_, q, rfl, nofun⟩
/-- enumerate's turn over whatever gives the items -/
theorem enum_more {e it : Addr} {i : Int} {G : Value → Heap → Prop} {Q : Value → Shared → Prop} (at0 : EnumAt s.heap e it i)
    (inner : ∀ {Q' E' : Value → Shared → Prop}, (∀ x h1 tk, G x h1 → (∀ o, s.heap.get? e = some o → h1.get? e = some o) → Q' x { s with heap := h1, toks := tk }) → wpAny (model prog w) A (Builtin.SmallTypes.nextOf (.ref it)) Q' E' s)
    (k : ∀ x h1 h' tk, G x h1 → EnumAt h' e it (i + 1) → IsTupOf2 h' h1.objs.size (.int i tk) x → h1.objs.size < h'.objs.size → Stays [e] h1 h' → Q (.ref h1.objs.size) { s with heap := h', toks := tk + 1 }) :
    wpAny (model prog w) A (Builtin.«enumerate.__next__» ⟨[.ref e], []⟩) (fun r s' => ∃ v, r = .done (.ret v) ∧ Q v s') E s := by
  obtain ⟨v0, f, old, tells, er⟩ := at0
  obtain ⟨hp, gs, dr, tk0, os⟩ := s
  dsimp only at k inner er
  refine wpAny_bind (wpAny_pure (wpAny_bind (wpAny_field er rfl (x := .ref it) rfl (wpAny_bind (inner fun x h1 tk g ke => ?_)))))
  dsimp only
  have er1 := ke _ er
  have set1 := fun {Q'} {E'} => wpAny_setField_rec (prog := prog) (w := w) (A := A) (E := E') (s := ⟨h1, gs, dr, tk + 1, os⟩) (k := 3) (x := rawInt (i + 1)) (Q := Q') er1 (by simp)
  wp_walk using set1
  intro h2 er2 sb2
  dsimp only at sb2 er2 ⊢
  have set2 := fun {Q'} {E'} => wpAny_setField_rec (prog := prog) (w := w) (A := A) (E := E') (s := ⟨h2, gs, dr, tk + 1, os⟩) (k := 4) (x := .none) (Q := Q') er2 (by simp)
  wp_walk using set2
  intro h3 er3 sb3
  dsimp only at sb3 er3 ⊢
  have sz3 : h3.objs.size = h1.objs.size := sb3.1.trans sb2.1
  have el : e < h1.objs.size := Heap.lt_size er1
  have up : ∀ {b o p}, h3.get? b = some o → (h3.push p).get? b = some o := Heap.get?_push_of_some _
  have free := fun {Q'} {E'} => own_free (prog := prog) (w := w) (A := A) (E := E') (s := ⟨h3.push { cls := .type "tuple", data := .seq #[.int i tk, x] }, gs, dr, tk + 1, os⟩) (Q := Q') (up (show OwnRec h3 e "enumerate" v0 f [.ref it, rawInt (i + 1), .none, old] from er3)) tells
  wp_walk using free
  have far : ∀ {h' : Heap}, Stays [e] (h3.push { cls := .type "tuple", data := .seq #[.int i tk, x] }) h' → Stays [e] h1 h' := fun st => ((Stays.of sb2 (by simp)).trans (Stays.of sb3 (by simp))).trans fun b o nb q => st b o nb (up q)
  have new : IsTupOf2 (h3.push { cls := .type "tuple", data := .seq #[.int i tk, x] }) h1.objs.size (.int i tk) x := by rw [← sz3]; exact Heap.get?_push_size _ rfl
  have grown : ∀ {h' : Heap}, h'.objs.size = (h3.push { cls := .type "tuple", data := .seq #[.int i tk, x] }).objs.size → h1.objs.size < h'.objs.size := fun q => by rw [q, Heap.size_push, sz3]; exact Nat.lt_succ_self _
  rintro (_ | _) f' h4 er4 sb4
  · wp_walk
    refine ⟨_, rfl, ?_⟩
    rw [sz3]
    exact k x h1 h4 tk g ⟨v0, f', old, tells, er4⟩ (sb4.extBut _ _ (Nat.ne_of_gt el) new) (grown sb4.1) (far (Stays.of sb4 (by simp)))
  · have set5 := fun {Q'} {E'} => wpAny_setField_rec (prog := prog) (w := w) (A := A) (E := E') (s := ⟨h4, gs, dr, tk + 1, os⟩) (k := 5) (x := x) (Q := Q') er4 (by simp)
    wp_walk using set5
    intro h5 er5 sb5
    dsimp only at sb5 er5 ⊢
    have give := fun {Q'} {E'} => own_out (prog := prog) (w := w) (A := A) (E := E') (s := ⟨h5, gs, dr, tk + 1, os⟩) (T := h3.objs.size) (Q := Q') (show OwnRec h5 e "enumerate" v0 f' [.ref it, rawInt (i + 1), .none, x] from er5)
    wp_walk using give
    intro h6 er6 sb6
    dsimp only at sb6 er6 ⊢
    wp_walk
    refine ⟨_, rfl, ?_⟩
    rw [sz3]
    exact k x h1 h6 tk g ⟨_, _, x, .inr ⟨_, rfl⟩, er6⟩ (sb6.extBut _ _ (Nat.ne_of_gt el) (sb5.extBut _ _ (Nat.ne_of_gt el) (sb4.extBut _ _ (Nat.ne_of_gt el) new))) (grown (sb6.1.trans (sb5.1.trans sb4.1))) (far (((Stays.of sb4 (by simp)).trans (Stays.of sb5 (by simp))).trans (Stays.of sb6 (by simp))))
theorem enum_last {e it : Addr} {i : Int} {Q : PySem.Fin → Shared → Prop} (at0 : EnumAt s.heap e it i) (inner : ∀ {Q' : Value → Shared → Prop}, wpAny (model prog w) A (Builtin.SmallTypes.nextOf (.ref it)) Q' E s) :
    wpAny (model prog w) A (Builtin.«enumerate.__next__» { pos := [.ref e], kw := [] }) Q E s := by
  obtain ⟨_, _, _, _, er⟩ := at0
  exact wpAny_bind (wpAny_pure (wpAny_bind (wpAny_field er rfl (x := .ref it) rfl (wpAny_bind inner))))
/-- next by its slot: an item, or a StopIteration -/
theorem next_by {T id : String} {b : Builtin} {a : Addr} {Q : Option Value → Shared → Prop} (ty : s.TypeIs (.ref a) T) (sl : Slot T "__next__" id) (en : entryFor table id = some b) (ar : argsOk id ⟨[.ref a], []⟩)
    (h : wpAny (model prog w) A.in1 (b ⟨[.ref a], []⟩) (fun r s' => ∃ v, r = .done (.ret v) ∧ Q (some v) s') (fun x s' => (∃ p o, x = .ref p ∧ s'.heap.get? p = some o ∧ o.cls = .type "StopIteration") ∧ Q none s') s) :
    wpAny (model prog w) A (pyNext (Value.ref a)) Q E s := by
  simp only [pyNext]
  refine wpAny_bind (wpAny_attempt (wpAny_callSpecial?_slot ty sl (wpAny_mono (wpAny_call_entry sl ty en h ar) (fun v s' q => wpAny_pure q) ?_)))
  rintro _ s' ⟨⟨p, o, rfl, ho, hc⟩, q⟩
  exact wpAny_bind (wpAny_isInstance ⟨o, ho, hc⟩ isSubtype_stop (wpAny_pure q))
theorem enum_self {e it : Addr} {i : Int} {Q : Value → Shared → Prop} (at0 : EnumAt s.heap e it i) (q : Q (.ref e) s) : wpAny (model prog w) A (pyIter (.ref e)) Q E s := by
  obtain ⟨o, ho, hc, _⟩ := at0.obj
  have ty : s.TypeIs (.ref e) "enumerate" := ⟨o, ho, hc⟩
  exact wpAny_pyIter_slot ty F.slot_enumerate_iter (wpAny_call_entry F.slot_enumerate_iter ty F.entry_enumerate_iter (wpAny_bind (wpAny_pure (wpAny_pure ⟨_, rfl, _, _, ty, F.slot_enumerate_next.lookup, q⟩))) (F.args_enumerate_iter_1 _))
end
open PySem.Spec PyProof.Rows L2
def EzAt (t1 t2 : Bool) (a b e z TI TO i1 i2 : Addr) (i : Nat) (h : Heap) : Prop := EnumAt h e z (i : Nat) ∧ ZipAt h z TI TO i1 i2 ∧ ItK t1 h i1 a i ∧ ItK t2 h i2 b i
theorem ZipAt.kept {h h' : Heap} {z TI TO i1 i2 : Addr} (x : ZipAt h z TI TO i1 i2) (k : ∀ b ∈ [z, TI, TO], ∀ o, h.get? b = some o → h'.get? b = some o) : ZipAt h' z TI TO i1 i2 := by
  simp only [List.mem_cons, List.not_mem_nil, or_false, forall_eq_or_imp, forall_eq] at k
  obtain ⟨⟨v0, f, tl, ir⟩, src, p, q, own⟩ := x
  exact ⟨⟨v0, f, tl, k.1 _ ir⟩, k.2.1 _ src, p, q, k.2.2 _ own⟩
section
variable {P : Program} {w : World} {K : PySem.W.Frag} {elts : List Expr} {kk : Nat} {tpos : Pos} {t1 t2 : Bool} {a b e z TI TO i1 i2 : Addr}
theorem EzAt.cells {i : Nat} {h : Heap} (x : EzAt t1 t2 a b e z TI TO i1 i2 i h) : ∀ d ∈ [e, z, TI, TO, i1, i2], ∃ o, h.get? d = some o ∧ ∀ v, o.data ≠ .cell v := by
  obtain ⟨en, ⟨⟨_, _, _, ir⟩, src, _, _, own⟩, o1, o2⟩ := x
  intro d hd
  simp only [List.mem_cons, List.not_mem_nil, or_false] at hd
  rcases hd with rfl | rfl | rfl | rfl | rfl | rfl
  · exact en.obj.imp fun _ q => ⟨q.1, q.2.2⟩
  · exact ⟨_, ir, nofun⟩
  · exact ⟨_, src, nofun⟩
  · exact ⟨_, own, nofun⟩
  · exact itK_obj o1
  · exact itK_obj o2
theorem EzAt.stay {i : Nat} {h h' : Heap} (x : EzAt t1 t2 a b e z TI TO i1 i2 i h) (k : ∀ d ∈ [e, z, TI, TO, i1, i2], ∀ o, h.get? d = some o → h'.get? d = some o) : EzAt t1 t2 a b e z TI TO i1 i2 i h' :=
  ⟨x.1.kept (k e (by simp)), x.2.1.kept fun d m => k d (by simp only [List.mem_cons, List.not_mem_nil, or_false] at m ⊢; rcases m with m | m | m <;> simp [m]), itK_at x.2.2.1 (k i1 (by simp)), itK_at x.2.2.2 (k i2 (by simp))⟩
end
section
variable {X : Cx} {W : WX} {tg e e2 : Expr} {mas : MA} {p p2 pos pos2 tpos : Pos} {elts : List Expr} {kk : Nat}
def ezOf : List MV → Sto → R Src
  | [d, e], S => match seqOf S d, seqOf S e with
    | some xs, some ys => .ok (.ezp d xs e ys) S
    | _, _ => .stk
  | _, _ => .stk
def mEzip (m : MA) : Ev → Sto → R Src := fun ρ S => (m ρ S).bind ezOf
end
end Mi
set_option Elab.async false
set_option linter.all false
set_option maxRecDepth 100000
set_option maxHeartbeats 4000000
namespace Mi
open PySem PySem.Spec PyProof.Rows L2
theorem no_len : typeLookup (.type "enumerate") "__len__" = pure none := am_miss_of_fast (by decide +kernel)
theorem no_hint : typeLookup (.type "enumerate") "__length_hint__" = pure none := am_miss_of_fast (by decide +kernel)
abbrev listOb (vs : List Value) (c : Nat) : Obj := { cls := .type "list", data := .seq vs.toArray c }
section
variable {prog : Program} {w : World} {A : Around} {s : Shared} {E : Value → Shared → Prop} {I L : Addr}
/-- the turns of the filling: M at each turn, Z behind the last -/
theorem extend_by {R : Result → Shared → Prop} {n : Nat} {M : Nat → List Value → Shared → Prop} {Z : List Value → Shared → Prop} (hn : n ≤ sizeLine) (count : ∀ i vs s, M i vs s → vs.length = i)
    (more : ∀ i vs s (Q : Option Value → Shared → Prop) (E : Value → Shared → Prop), i < n → M i vs s → (∀ u s1 c, s1.heap.get? L = some (listOb vs c) → M (i + 1) (vs ++ [u]) { s1 with heap := s1.heap.update L (Obj.mapSeq (·.push u)) } → Q (some u) s1) → wpAny (model prog w) A.in1 (pyNext (.ref I)) Q E s)
    (last : ∀ vs s (Q : Option Value → Shared → Prop) (E : Value → Shared → Prop), M n vs s → (∀ s1, Z vs s1 → Q none s1) → wpAny (model prog w) A.in1 (pyNext (.ref I)) Q E s)
    (fin : ∀ vs s, Z vs s → R (.ok (.ret .none)) s) : ∀ k i vs s, i + k = n → M i vs s → codeAny (model prog w) A (.builtin "list.extend.loop" ⟨[.ref L, .ref I, .none], []⟩) R s
  | 0, i, vs, s, e, m => by
    obtain rfl : i = n := e
    exact codeAny_builtin F.entry_extend_loop (by
      rw [Around.under_plainId F.plain_extend_loop]
      exact wpAny_bind (last vs s _ _ m fun s1 z => wpAny_pure (fin vs s1 z)))
  | k + 1, i, vs, s, e, m => by
    have lt : i < n := by omega
    have len := count i vs s m
    apply codeAny_builtin F.entry_extend_loop
    rw [Around.under_plainId F.plain_extend_loop]
    refine wpAny_bind (more i vs s _ _ lt m fun u s1 c at1 m1 => ?_)
    refine wpAny_bind (wpAny_updateSeq at1 rfl (wpAny_pure ⟨plainId_quiet F.plain_extend_loop _, extend_by hn count more last fin k (i + 1) _ _ (by omega) m1⟩) ?_ ?_)
    · rw [List.size_toArray, len]; omega
    · simp only [Array.size_push, List.size_toArray, len]; omega
theorem put_items {f : Array Value → Array Value} {vs : Array Value} {c : Nat} {Q : Unit → Shared → Prop} (at0 : s.heap.get? L = some { cls := .type "list", data := .seq vs c }) (z : vs.size ≤ 1) (z' : (f vs).size ≤ 1)
    (k : ∀ h' c', h'.get? L = some { cls := .type "list", data := .seq (f vs) c' } → Heap.SameBut L s.heap h' → Q () { s with heap := h' }) : wpAny (model prog w) A (updateSeq L f) Q E s :=
  have one : 1 ≤ sizeLine := by decide
  wpAny_updateSeq at0 rfl (k _ _ (Heap.get?_update_self _ at0 rfl) (Heap.SameBut.update ..)) (Nat.le_trans z one) (Nat.le_trans z' (Nat.le_succ_of_le one))
theorem list_call {T : String} {Q : Value → Shared → Prop} (ty : s.TypeIs (.ref I) T) (nl : typeLookup (.type T) "__len__" = pure none) (nh : typeLookup (.type T) "__length_hint__" = pure none) (n1 : (Value.type T == Value.type "list") = false) (n2 : (Value.type T == Value.type "tuple") = false)
    (self : ∀ {A' : Around} {h' : Heap} {Q' E' : Value → Shared → Prop}, h'.get? I = s.heap.get? I → Q' (.ref I) { s with heap := h' } → wpAny (model prog w) A' (pyIter (.ref I)) Q' E' { s with heap := h' })
    (loop : ∀ h' c, h'.get? s.heap.objs.size = some (listOb [] c) → (∀ b o, s.heap.get? b = some o → h'.get? b = some o) →
      codeAny (model prog w) A.in1 (.builtin "list.extend.loop" ⟨[.ref s.heap.objs.size, .ref I, .none], []⟩) (wants (fun r s2 => r = .none ∧ Q (.ref s.heap.objs.size) s2) E) { s with heap := h' }) :
    wpAny (model prog w) A (call (.type "list") [Value.ref I]) Q E s := by
  obtain ⟨hp, gs, dr, tk, os⟩ := s
  refine callType_codes (Q₁ := fun o s1 => o = .ref hp.objs.size ∧ s1 = ⟨hp.push (listOb [] 0), gs, dr, tk, os⟩) F.called_list (F.typeCall_list_1 _) F.entry_list_init (code_list_new _ ⟨rfl, rfl⟩) ?_
  rintro _ _ ⟨rfl, rfl⟩
  have at0 : (hp.push (listOb [] 0)).get? hp.objs.size = some (listOb [] 0) := Heap.get?_push_size _ rfl
  refine ⟨⟨_, at0, rfl⟩, F.args_list_init_2 _ _, ?_⟩
  obtain ⟨oI, hI, cI⟩ := ty
  have ne : hp.objs.size ≠ I := Nat.ne_of_gt (Heap.lt_size hI)
  have up : ∀ {b o}, hp.get? b = some o → (hp.push (listOb [] 0)).get? b = some o := Heap.get?_push_of_some _
  refine wpAny_bind (wpAny_bind (wpAny_seqItems at0 rfl (wpAny_pure ?_)))
  refine wpAny_bind (put_items at0 (Nat.zero_le _) (Nat.zero_le _) fun h1 c1 at1 sb1 => wpAny_bind (wpAny_letGo ?_))
  have I1 : h1.get? I = hp.get? I := by rw [sb1.2 I ne.symm, hI]; exact up hI
  have t1 : (Shared.mk h1 gs dr tk os).TypeIs (.ref I) T := ⟨oI, I1.trans hI, cI⟩
  have s1 : Builtin.List.listSameRef (.ref hp.objs.size) (.ref I) = false := by simp [Builtin.List.listSameRef, ne]
  refine wpAny_bind (wpAny_typeOf t1 ?_)
  simp only [s1, n1, n2, Bool.or_self, Bool.false_eq_true, if_false]
  refine wpAny_bind (self I1 (wpAny_bind (wpAny_holding (wpAny_bind (wpAny_specialOf t1 nl ?_)))))
  refine wpAny_bind (wpAny_specialOf t1 nh (wpAny_pure ?_))
  refine wpAny_bind (wpAny_rule (wpAny_bind (wpAny_bind (put_items at1 (Nat.zero_le _) Nat.le.refl fun h2 c2 at2 sb2 => put_items at2 Nat.le.refl (Nat.zero_le _) fun h3 c3 at3 sb3 => ?_))))
  exact wpAny_pure ⟨plainId_quiet F.plain_extend_loop _, loop h3 c3 at3 fun b o q => by
    have nb : b ≠ hp.objs.size := Nat.ne_of_lt (Heap.lt_size q)
    exact sb3.extBut _ _ nb (sb2.extBut _ _ nb (sb1.extBut _ _ nb (up q)))⟩
end
end Mi
set_option Elab.async false
set_option linter.all false
set_option maxRecDepth 100000
set_option maxHeartbeats 4000000
namespace Mi
open PySem PySem.Spec PyProof.Rows L2
/-- what stands behind so many items -/
structure EnH (H0 : Hp) (xs : List V) (L : Addr) (i : Nat) (Ts : List Addr) (H : Hp) : Prop where
  keep : ∀ b o, H0 b = some o → H b = some o
  len : Ts.length = i
  at' : H L = some (.lst (Ts.map V.ref))
  tup : ∀ (j : Nat) (x : V) (T : Addr), xs[j]? = some x → Ts[j]? = some T → H T = some (.tup [.int (j : Nat), x])
theorem EnH.sq {H0 H : Hp} {xs ys : List V} {L a : Addr} {i : Nat} {Ts : List Addr} {K : PySem.W.Frag} (en : EnH H0 xs L i Ts H) : ∀ {t : Bool}, SqK K t H0 a ys → SqK K t H a ys
  | true, .inl (.inl q) => .inl (.inl (en.keep _ _ q))
  | true, .inl (.inr ⟨o, q⟩) => .inl (.inr ⟨o, en.keep _ _ q⟩)
  | true, .inr q => .inr q
  | false, .inl (.inl q) => .inl (.inl (en.keep _ _ q))
  | false, .inl (.inr ⟨o, q⟩) => .inl (.inr ⟨o, en.keep _ _ q⟩)
  | false, .inr q => .inr q
section
variable {X : Cx} {pins : List (Addr × Obj)} {σ : L2.St} {a e it L : Addr} {t : Bool} {xs : List V} {H0 : Hp}
/-- a turn of the filling -/
def EnTurn (X : Cx) (pins : List (Addr × Obj)) (σ : L2.St) (a e it L : Addr) (t : Bool) (xs : List V) (H0 : Hp) (i : Nat) (vs : List Value) (s : Shared) : Prop :=
  ∃ H Ts, vs = Ts.map Value.ref ∧ Inv X pins σ H s ∧ EnH H0 xs L i Ts H ∧ EnumAt s.heap e it (i : Nat) ∧ ItK t s.heap it a i ∧ ∀ b ∈ [e, it], FpOk X pins H b ∧ b < s.heap.objs.size
theorem en_more (hh : X.A.in1.handled = none) (na : a ≠ it) (ne : e ≠ it) (nea : e ≠ a) (neL : e ≠ L) (nL : it ≠ L) (hL0 : H0 L = none) (sq : SqK X.K t H0 a xs) (hz : xs.length ≤ sizeLine) {i : Nat} {vs : List Value} {s : Shared} {Q : Option Value → Shared → Prop} {E : Value → Shared → Prop} (lt : i < xs.length)
    (m : EnTurn X pins σ a e it L t xs H0 i vs s) (k : ∀ u s1 c, s1.heap.get? L = some (listOb vs c) → EnTurn X pins σ a e it L t xs H0 (i + 1) (vs ++ [u]) { s1 with heap := s1.heap.update L (Obj.mapSeq (·.push u)) } → Q (some u) s1) : wpAny (model X.prog X.w) X.A.in1.in1 (pyNext (.ref e)) Q E s := by
  obtain ⟨H, Ts, rfl, inv, en, ea, it1, fresh⟩ := m
  obtain ⟨us, ru, pu, _⟩ := seqK inv (en.sq sq)
  have hx : xs[i]? = some xs[i] := List.getElem?_eq_getElem lt
  obtain ⟨oe, he, ce, _⟩ := ea.obj
  refine next_by ⟨oe, he, ce⟩ F.slot_enumerate_next F.entry_enumerate_next (F.args_enumerate_next_1 _) (enum_more (G := fun v h1 => us.toArray[i]? = some v ∧ ItK t h1 it a (i + 1) ∧ Heap.SameBut it s.heap h1) ea
    (fun {Q' E'} cont => (drawsK (prog := X.prog) (w := X.w) (A := X.A.in1.in1.in1) hh it a na t us.toArray).item i s Q' E' (lenT ru hx) ⟨it1, pu⟩ fun u h1 tk hu st sb => cont u h1 tk ⟨hu, st.1, sb⟩ fun o q => sb.extBut _ _ ne q) ?_)
  rintro u h1 h' tk ⟨hu, it2, sb⟩ ea' tup big st2
  have far : Stays [e, it] s.heap h' := fun b o nb q => st2 b o (fun z => nb (by simp at z; simp [z])) (sb.extBut _ _ (fun z => nb (by simp [z])) q)
  obtain ⟨J1, J2, J3⟩ := one_new (tk := tk + 1) (us := [.int i tk, u]) (wr := [e, it]) (T := h1.objs.size) inv fresh (fun _ z => z) far (Nat.le_of_eq sb.1.symm) (show h'.IsTuple _ _ from ⟨_, tup, rfl, _, rfl⟩)
    (.cons (show RelV (.int (i : Nat)) (.int i tk) from ⟨_, rfl⟩) (.cons (itemT ru hx hu) .nil)) (show 2 ≤ sizeLine by decide)
  have LT : L ≠ h1.objs.size := fun z => by rw [← z, en.at'] at J2; cases J2
  have atL : upd H h1.objs.size (.tup [.int (i : Nat), xs[i]]) L = some (.lst (Ts.map V.ref)) := (upd_ne LT).trans en.at'
  obtain ⟨_, its, n, rL, getL⟩ := J1.hok L _ atL
  cases refs_of rL
  have full := Heap.get?_update_self (Obj.mapSeq (·.push (.ref h1.objs.size))) getL rfl
  have other : ∀ b o, b ≠ L → h'.get? b = some o → (h'.update L (Obj.mapSeq (·.push (.ref h1.objs.size)))).get? b = some o := fun b o nb q => (Heap.get?_update_other _ _ (Ne.symm nb)).trans q
  have lenTs : (Ts.map V.ref).length = i := (List.length_map ..).trans en.len
  have J4 := J1.write (t' := tk + 1) (x := L) (o := .lst (Ts.map V.ref ++ [.ref h1.objs.size])) (by rw [atL]; trivial) (.inl rfl) other ⟨_, full⟩
    ⟨by simp only [List.length_append, lenTs, List.length_singleton]; omega, Ts.map Value.ref ++ [.ref h1.objs.size], n + 1, rL.append (.cons (show RelV (.ref h1.objs.size) (.ref h1.objs.size) from rfl) .nil), by rw [full]; simp [Obj.mapSeq]⟩
  refine k _ ⟨h', s.gens, s.drawn, tk + 1, s.os⟩ n getL ⟨_, Ts ++ [h1.objs.size], by simp, J4, ⟨fun b o q => ?_, by simp [en.len], by rw [upd_same]; simp, fun j x T hj hT => ?_⟩, ?_, itK_at it2 fun o q => other it o nL (st2 it o (by simp [Ne.symm ne]) q), fun b hb => ?_⟩
  · have nbL : b ≠ L := fun z => by rw [z, hL0] at q; cases q
    have q2 := en.keep _ _ q
    rw [upd_ne nbL, upd_ne fun z => by rw [z, J2] at q2; cases q2]
    exact q2
  · rcases Nat.lt_or_ge j i with old | young
    · rw [List.getElem?_append_left (by rw [en.len]; exact old)] at hT
      have q2 := en.tup j x T hj hT
      rw [upd_ne (fun z => by rw [z, en.at'] at q2; cases q2), upd_ne (fun z => by rw [z, J2] at q2; cases q2)]
      exact q2
    · have jl := (List.getElem?_eq_some_iff.mp hT).1
      simp only [List.length_append, en.len, List.length_singleton] at jl
      obtain rfl : j = i := by omega
      rw [List.getElem?_append_right (by rw [en.len]; exact Nat.le.refl), en.len, Nat.sub_self] at hT
      cases hT
      cases hx.symm.trans hj
      rw [upd_ne (Ne.symm LT), upd_same]
  · have e2 : EnumAt h' e it ((i : Int) + 1) := ea'
    rw [← Int.natCast_succ] at e2
    exact e2.kept fun o q => other e o neL q
  · have nbL : b ≠ L := by
      rw [List.mem_cons, List.mem_singleton] at hb
      rcases hb with rfl | rfl <;> assumption
    obtain ⟨⟨_, f1⟩, f2⟩ := fresh b hb
    refine ⟨⟨(upd_ne nbL).trans (J3 b hb), f1⟩, ?_⟩
    obtain ⟨o, q⟩ : ∃ o, h'.get? b = some o := by
      rw [List.mem_cons, List.mem_singleton] at hb
      rcases hb with rfl | rfl
      · exact ea'.obj.imp fun _ z => z.1
      · obtain ⟨o, q, _⟩ := itK_obj it2
        exact ⟨o, st2 _ o (by simp [Ne.symm ne]) q⟩
    exact Heap.lt_size (other b o nbL q)
theorem en_last (hh : X.A.in1.handled = none) (na : a ≠ it) (sq : SqK X.K t H0 a xs) {vs : List Value} {s : Shared} {Q : Option Value → Shared → Prop} {E : Value → Shared → Prop} (m : EnTurn X pins σ a e it L t xs H0 xs.length vs s)
    (k : ∀ s1, (∃ H Ts, Inv X pins σ H s1 ∧ EnH H0 xs L xs.length Ts H) → Q none s1) : wpAny (model X.prog X.w) X.A.in1.in1 (pyNext (.ref e)) Q E s := by
  obtain ⟨H, Ts, rfl, inv, en, ea, it1, fresh⟩ := m
  obtain ⟨us, ru, pu, _⟩ := seqK inv (en.sq sq)
  obtain ⟨oe, he, ce, _⟩ := ea.obj
  have sz : us.toArray.size = xs.length := by simp [ru.length]
  refine next_by ⟨oe, he, ce⟩ F.slot_enumerate_next F.entry_enumerate_next (F.args_enumerate_next_1 _) (enum_last ea fun {Q'} => (drawsK (prog := X.prog) (w := X.w) (A := X.A.in1.in1.in1) hh it a na t us.toArray).done s Q' _ (by rw [sz]; exact ⟨it1, pu⟩) ?_)
  exact fun h' x eb ⟨o, ho, hc⟩ => ⟨⟨x, o, rfl, ho, hc⟩, k _ ⟨H, Ts, inv.turnedL (t' := s.toks) (ch := [e, it]) (fun b o nb q => eb b o (fun z => nb (by simp [z])) q) fun b hb => (fresh b hb).1, en⟩⟩
end
section
variable {X : Cx} {W : WX} {x : Expr} {p p2 pos pos2 : Pos} {mas : MA}
def tListE (X : Cx) (ta : TA) : TE := fun σ H Q => ta σ H fun vs H1 => ∃ a t xs, vs = [.ref a] ∧ SqK X.K t H1 a xs ∧ xs.length ≤ sizeLine ∧ ∀ L H2 Ts, H1 L = none → EnH H1 xs L xs.length Ts H2 → Q (.ref L) H2
theorem pe_listE {ta : TA} (hc : X.calm = true) (hg : Gl X "list") (hm : X.mg "list" = none) (hg2 : Gl X "enumerate") (hm2 : X.mg "enumerate" = none) (ha : PA X [x] ta) (hs : starEach (x :: []) X.env = (false, eval x X.env) :: starEach [] X.env)
    (he : starEach [.Call (.Name "enumerate" p2) [x] [] pos2] X.env = (false, eval (.Call (.Name "enumerate" p2) [x] [] pos2) X.env) :: starEach [] X.env) : PE X (.Call (.Name "list" p) [.Call (.Name "enumerate" p2) [x] [] pos2] [] pos) (tListE X ta) where
  run pins s σ H Q inv h := by
    refine Call_ (ld_blt inv hg hm bt_list (callWith_type1 (args_cons (Call_ (ld_blt inv hg2 hm2 boot_enumerate (callWith_type1 (thn (ha.run pos2 pins s σ H _ inv h) ?_) hs rfl))) he) he rfl))
    rintro us s1 ⟨_, H1, inv1, r, a, t, xs, rfl, sq, hz, q⟩
    cases refs_of (as := [a]) r
    obtain ⟨ua, _, pa, la⟩ := seqK inv1 sq
    refine enum_call (iterK pa) (args_nil ?_)
    have nf : (obK t a).isFreed = false := by cases t <;> rfl
    have sz : (s1.heap.push (obK t a)).objs.size = s1.heap.objs.size + 1 := Heap.size_push ..
    have oe : IsEnum ((s1.heap.push (obK t a)).push (enumOb (.ref s1.heap.objs.size))) (s1.heap.push (obK t a)).objs.size s1.heap.objs.size 0 .none := Heap.get?_push_size _ rfl
    have oi : ((s1.heap.push (obK t a)).push (enumOb (.ref s1.heap.objs.size))).get? s1.heap.objs.size = some (obK t a) := Heap.get?_push_of_some _ (Heap.get?_push_size _ nf)
    have old : ∀ b o, s1.heap.get? b = some o → ((s1.heap.push (obK t a)).push (enumOb (.ref s1.heap.objs.size))).get? b = some o := fun b o q => Heap.get?_push_of_some _ (Heap.get?_push_of_some _ q)
    have sz2 : ((s1.heap.push (obK t a)).push (enumOb (.ref s1.heap.objs.size))).objs.size = s1.heap.objs.size + 2 := by rw [Heap.size_push, sz]
    rw [sz] at oe ⊢
    generalize (s1.heap.push (obK t a)).push (enumOb (.ref s1.heap.objs.size)) = h2 at oe oi old sz2
    have ea : EnumAt h2 (s1.heap.objs.size + 1) s1.heap.objs.size ((0 : Nat) : Int) := ⟨.none, false, .none, .inl rfl, oe⟩
    refine list_call (s := { s1 with heap := h2 }) ⟨_, oe, rfl⟩ no_len no_hint (by decide) (by decide) (fun {A' h' Q' E'} same q => enum_self (s := { s1 with heap := h' }) (ea.kept fun o z => same.trans z) q) fun h' c atL kept => ?_
    have hLn : H1 h2.objs.size = none := inv1.hok.fresh (by omega)
    have nL : ∀ b, b ≤ s1.heap.objs.size + 1 → b ≠ h2.objs.size := fun b l z => by omega
    refine extend_by (n := xs.length) (M := EnTurn X pins σ a (s1.heap.objs.size + 1) s1.heap.objs.size h2.objs.size t xs H1) (Z := fun _ st => ∃ H Ts, Inv X pins σ H st ∧ EnH H1 xs h2.objs.size xs.length Ts H) hz ?_
      (fun i vs st Q' E' lt m k => en_more (inv1.ok.hd hc) (Nat.ne_of_lt la) (Nat.succ_ne_self _) (Nat.ne_of_gt (Nat.lt_succ_of_lt la)) (nL _ Nat.le.refl) (nL _ (Nat.le_succ _)) hLn sq hz lt m k) (fun vs st Q' E' m k => en_last (inv1.ok.hd hc) (Nat.ne_of_lt la) sq m fun s' z => k s' z)
      ?_ xs.length 0 [] _ (Nat.zero_add _) ⟨upd H1 h2.objs.size (.lst []), [], rfl, ?_, ?_, ea.kept fun o z => kept _ o z, itK_new (kept _ _ oi), ?_⟩
    · rintro i vs st ⟨_, Ts, rfl, _, en, _⟩
      rw [List.length_map]; exact en.len
    · rintro vs st ⟨H2, Ts, inv2, en⟩
      exact ⟨rfl, .ref h2.objs.size, H2, inv2, rfl, q _ H2 Ts hLn en⟩
    · exact inv1.laid (t' := s1.toks) (fun b o z => kept b o (old b o z)) (by omega) ⟨Nat.zero_le _, [], c, .nil, atL⟩
    · exact ⟨fun b o z => by rw [upd_ne fun y => by rw [y, hLn] at z; cases z]; exact z, rfl, upd_same, fun j y T _ hT => by simp at hT⟩
    · intro b hb
      have two : s1.heap.objs.size ≤ b ∧ b ≤ s1.heap.objs.size + 1 := by
        rw [List.mem_cons, List.mem_singleton] at hb
        rcases hb with rfl | rfl <;> (constructor <;> first | exact Nat.le.refl | exact Nat.le_succ _)
      obtain ⟨_, f1⟩ := inv1.fpOk two.1 (inv1.hok.fresh two.1)
      refine ⟨⟨(upd_ne (nL b two.2)).trans (inv1.hok.fresh two.1), f1⟩, ?_⟩
      have here : ∃ o, h'.get? b = some o := by
        rw [List.mem_cons, List.mem_singleton] at hb
        rcases hb with rfl | rfl
        · exact ⟨_, kept _ _ oe⟩
        · exact ⟨_, kept _ _ oi⟩
      exact here.elim fun o z => Heap.lt_size z
def lstE : List MV → Sto → R MV
  | [d], S => match seqOf S d with
    | some xs => if xs.length ≤ sizeLine then .ok (.lst (enmI 0 xs)) S else .stk
    | none => .stk
  | _, _ => .stk
theorem enm_rep {C : RC} {H : Hp} {K : PySem.W.Frag} (hK : C.K = K) : ∀ {ds : List MV} {vs : List V} (k : Nat) (Ts : List Addr), RepVs C ds vs → Ts.length = ds.length → (∀ (j : Nat) (x : V) (T : Addr), vs[j]? = some x → Ts[j]? = some T → C.H T = some (.tup [.int ((k + j : Nat) : Int), x])) → RepVs C (enmI k ds) (Ts.map V.ref)
  | [], vs, k, Ts, t, l, h => by
    cases Ts with
    | nil => exact .nil
    | cons T Ts => simp at l
  | d :: ds, vs, k, Ts, t, l, h => by
    obtain ⟨v, vr, rfl, h1, h2⟩ := t.cons_inv
    cases Ts with
    | nil => simp at l
    | cons T Ts =>
      rw [enmI]
      refine .cons (repTup (h 0 v T rfl rfl) (.cons (repI _) (.cons h1 .nil))) (enm_rep hK (H := H) (k + 1) Ts h2 (by simpa using l) fun j x T' e1 e2 => ?_)
      have := h (j + 1) x T' (by simpa using e1) (by simpa using e2)
      rw [show k + 1 + j = k + (j + 1) by omega]; exact this
theorem Grow.keepH {C : RC} {H' : Hp} (k : ∀ b o, C.H b = some o → H' b = some o) : Grow C { C with H := H' } :=
  ⟨rfl, rfl, fun _ h => .inl h, fun _ h => h, fun a u _ e => .inl (k a u e), fun a m => .inl m, rfl, Nat.le_refl _, Nat.le_refl _⟩
theorem RepS.keepH {C : RC} {S : Sto} {H' : Hp} (r : RepS C S) (k : ∀ b o, C.H b = some o → H' b = some o) : RepS { C with H := H' } S := by
  refine ⟨r.len, r.nd, fun a m => ⟨(r.bad a m).1, ?_⟩, fun n mo a e1 e2 => ?_⟩
  · cases e : C.H a with
    | none => exact absurd e (r.bad a m).2
    | some o => show H' a ≠ none; rw [k a o e]; simp
  · have ro := r.ob n mo a e1 e2
    refine ro.grow (Grow.keepH k) r ?_
    obtain ⟨u, hu, _⟩ := ro.kind
    rw [hu]; exact k a u hu
theorem se_listE (hc : X.calm = true) (hg : Gl X "list") (hm : X.mg "list" = none) (hg2 : Gl X "enumerate") (hm2 : X.mg "enumerate" = none) (ha : SA X W [x] mas) (hs : starEach (x :: []) X.env = (false, eval x X.env) :: starEach [] X.env := by rfl)
    (he : starEach [.Call (.Name "enumerate" p2) [x] [] pos2] X.env = (false, eval (.Call (.Name "enumerate" p2) [x] [] pos2) X.env) :: starEach [] X.env := by rfl) :
    SE X W (.Call (.Name "list" p) [.Call (.Name "enumerate" p2) [x] [] pos2] [] pos) (mCallF (lstE) mas) :=
  (pe_listE hc hg hm hg2 hm2 ha hs he).imp fun σ H Q ⟨C, ρ, S, e, s, q⟩ => by
    subst e
    refine tA.bind s q fun ds S1 C1 vs s1 g1 r1 q1 => ?_
    unfold lstE at q1
    split at q1
    · split at q1
      · rename_i xs e1
        split at q1
        · rename_i hsz
          obtain ⟨v, rfl, rv⟩ := one_of r1
          obtain ⟨a, vs, rfl, sq, t⟩ := seqK_of s1.rs rv e1
          rw [s1.K] at sq
          have hl := t.length
          refine ⟨a, _, vs, rfl, sq, by omega, fun L H2 Ts hL en => ?_⟩
          have hLn := s1.rs.notin hL
          have hLb : L ∉ C1.bad := fun m => (s1.rs.bad L m).2 hL
          have t2 : RepVs { C1 with H := H2 } (enmI 0 xs) (Ts.map V.ref) := by
            refine enm_rep (C := { C1 with H := H2 }) (K := X.K) (H := H2) s1.K 0 Ts (t.grow (Grow.keepH en.keep) s1.rs) (by rw [en.len]; omega) fun j x T e1 e2 => ?_
            rw [Nat.zero_add]
            exact en.tup j x T e1 e2
          exact q1 _ (Grow.keepH en.keep) (s1.rs.keepH en.keep) (.ref L) (repLst ⟨hLn, hLb⟩ en.at' t2)
        · exact q1.elim
      · exact q1.elim
    · exact q1.elim
end
end Mi
set_option Elab.async false
set_option linter.all false
set_option maxRecDepth 100000
set_option maxHeartbeats 4000000
namespace Mi
open PySem PySem.Spec PyProof.Rows L2
def truW (d : MV) (S : Sto) : R Bool := match d with
  | .bl b => .ok b S
  | .non => .ok false S
  | .int i => .ok (i != 0) S
  | .str x => if x.length ≤ sizeLine then .ok ((x.length : Int) != 0) S else .stk
  | d => (match seqOf S d with
    | some xs => .ok (!xs.isEmpty) S
    | none => (match d with
      | .ref n => (match S[n]? with
        | some (.dct ks _) => .ok (!ks.isEmpty) S
        | _ => .stk)
      | _ => .stk))
def mTruth (a : ME) : MT := fun ρ S => (a ρ S).bind truW
theorem isE_of {C : RC} {xs : List MV} {vs : List V} (t : RepVs C xs vs) : (!xs.isEmpty) = !vs.isEmpty := by
  cases xs with
  | nil => rw [t.nil_inv]; rfl
  | cons d ds => obtain ⟨v, vr, rfl, _, _⟩ := t.cons_inv; rfl
theorem truW_rep {C : RC} {S S' : Sto} {d : MV} {v : V} {b : Bool} (r : RepS C S) (h : RepV C d v) (e : truW d S = .ok b S') : TruV C.K v C.H b ∧ S' = S := by
  have seqs : ∀ d xs, RepV C d v → seqOf S d = some xs → TruV C.K v C.H (!xs.isEmpty) := fun d xs h e => by
    obtain ⟨a, vs, rfl, sq, t⟩ := seqOf_rep r h e
    rcases sq with sq | sq
    · exact .inl ⟨vs, sq, isE_of t⟩
    · exact .inr (.inl ⟨vs, sq, isE_of t⟩)
  have rest : ∀ d : MV, RepV C d v → (match seqOf S d with
    | some xs => R.ok (!xs.isEmpty) S
    | none => (match d with
      | .ref n => (match S[n]? with
        | some (.dct ks _) => R.ok (!ks.isEmpty) S
        | _ => R.stk)
      | _ => R.stk)) = .ok b S' → TruV C.K v C.H b ∧ S' = S := fun d h e => by
    cases q : seqOf S d with
    | some xs => rw [q] at e; cases e; exact ⟨seqs d xs h q, rfl⟩
    | none =>
      rw [q] at e
      cases d with
      | ref n =>
        dsimp only at e
        cases q2 : S[n]? with
        | none => rw [q2] at e; cases e
        | some o =>
          rw [q2] at e
          cases o with
          | dct ks ds =>
            cases e
            rw [RepV] at h
            obtain ⟨a, e1, e2⟩ := h
            obtain ⟨vs, h1, l, nd, h2⟩ := r.ob n _ a q2 e2
            subst e1
            refine ⟨.inr (.inr ⟨_, h1, ?_⟩), rfl⟩
            cases ks with
            | nil => rfl
            | cons k ks => cases vs with
              | nil => simp at l
              | cons v vs => rfl
          | _ => cases e
      | _ => cases e
  cases d with
  | bl x => cases e; rw [RepV] at h; subst h; exact ⟨rfl, rfl⟩
  | non => cases e; rw [RepV] at h; subst h; exact ⟨rfl, rfl⟩
  | int i => cases e; rw [RepV] at h; subst h; exact ⟨rfl, rfl⟩
  | str x =>
    rw [RepV] at h; subst h
    unfold truW at e
    dsimp only at e
    split at e
    · rename_i hl; cases e; exact ⟨⟨hl, rfl⟩, rfl⟩
    · cases e
  | tup xs => exact rest _ h e
  | lst xs => exact rest _ h e
  | dct ks xs => exact rest _ h e
  | dcT ks xs => exact rest _ h e
  | obj c f xs => exact rest _ h e
  | ref n => exact rest _ h e
  | kls xs => exact rest _ h e
theorem truW_noexc {d : MV} {S : Sto} {c : Str} {x : MV} {S' : Sto} : truW d S ≠ .exc c x S' := by
  intro h
  unfold truW at h
  split at h <;> (first | (cases h; done) | skip)
  · split at h <;> cases h
  · split at h
    · cases h
    · split at h
      · split at h <;> cases h
      · cases h
section
variable {X : Cx} {W : WX} {e : Expr} {ma : ME}
theorem st_truth (h : SE X W e ma) (he : ∀ whole, isTrue e X.env whole = (do let v ← whole; standAt e.pos; holding [v] (truthy v)) := by intro _; rfl) : ST X W e (mTruth ma) :=
  (pt_truth h he).imp fun σ H Q ⟨C, ρ, S, e, s, q⟩ => by
    subst e
    refine tE.bind s q fun d S1 C1 v s1 g1 r1 q1 => ?_
    cases e1 : truW d S1 with
    | ok b S2 =>
      rw [e1] at q1
      obtain ⟨t, rfl⟩ := truW_rep s1.rs r1 e1
      rw [s1.K] at t
      exact ⟨b, t, q1.now s1.rs⟩
    | exc c x S2 => exact absurd e1 truW_noexc
    | stk => rw [e1] at q1; exact q1.elim
end
structure X0 (K : PySem.W.Frag) (C : Addr) : Prop where
  e : PySem.W.excIn K C He.veBase "ValueError.__new__" = true
  k : PySem.W.keepIn K (.ref C) = true
  s : PySem.W.subIn K (.ref C) (.type "BaseException") = some true
  t : PySem.W.typeIn K (.ref C) = some (.type "type")
theorem pmk_own0 {X : Cx} {pos : Pos} {C : Addr} {bmB : List Value} {B newId initId : String} {x : Str} {p : Pos} (F : ExcBaseFacts B newId initId bmB) (q : PySem.W.excIn X.K C bmB newId = true) (gC : X.mg x = some (.ref C))
    (kC : PySem.W.keepIn X.K (.ref C) = true) (r : Raises X (.ref C)) (hg : Gl X x) (hdb : (x == ("__debug__" : Str)) = false := by decide) :
    PMk X (.Call (.Name x p) [] [] pos) (fun σ H Q => Q (.ref C) none H) := by
  intro pins s σ H Q I h
  refine wpAny_Call_Name_kw (ld_glob I hg gC (PySem.W.callWith_K0 (first := []) I.kIn kC ?_) hdb)
  obtain ⟨bm, N, nm, qn, bs, hdct, sn, sub, ab, col, dd, k0, k1, k2, k3, k5, mN, hC, hN, hni, T⟩ := exc_obj I.kIn q
  refine wpAny_call_exc_subT F T hC hN hni (fun h' e hm => ?_) (Nat.zero_le _)
  exact mk_of I hm r h (I.hok.gone hm.new)
def mRaise0 (c : Str) : MS := fun ρ S => .exc c .non ρ S
theorem ss_raise0 {X : Cx} {W : WX} {p pos rpos : Pos} {x c : Str} (hcalm : X.calm = true) (tk : Takes X W) (F : X0 X.K (He.ga X.K c)) (hg : Gl X x) (hm : X.mg x = some (.ref (He.ga X.K c))) (hdb : (x == ("__debug__" : Str)) = false := by decide) :
    SS X W (.Raise (some (.Call (.Name x p) [] [] pos)) none rpos) (mRaise0 c) :=
  (ps_raise hcalm tk (pmk_own0 PySem.F.excBase_ValueError F.e hm F.k (raises_own F.s F.t) hg hdb)).imp fun D σ H ⟨C, ρ, S, e, s, q⟩ => by
    subst e
    exact q C σ _ _ Grow.refl s.rs s.ev s.ln ⟨by show _ = Value.ref (He.ga C.K c); rw [s.K], .inl ⟨rfl, rfl⟩⟩
end Mi
set_option Elab.async false
set_option linter.all false
set_option maxRecDepth 100000
set_option maxHeartbeats 4000000
namespace Mi
open PySem PySem.Spec PyProof.Rows L2
theorem Tr.wrG {C : RC} {S : Sto} {D : Addr} {u o : HO} (r : RepS C S) (hb : D ∈ C.bad) (h : C.H D = some u) (h1 : ∀ xs, u ≠ .tup xs) (h2 : ∀ ob x, u ≠ .frz ob x) : Tr C.ι.length C (C.put D o) where
  w := rfl
  K := rfl
  seqT := fun a ws q => by
    rcases q with (q | ⟨o', q⟩) | q
    · exact .inl (.inl (by show upd C.H D o a = _; rw [upd_ne (fun z => by subst z; rw [h] at q; exact h1 _ (Option.some.inj q))]; exact q))
    · exact .inl (.inr ⟨o', by show upd C.H D o a = _; rw [upd_ne (fun z => by subst z; rw [h] at q; exact h2 _ _ (Option.some.inj q))]; exact q⟩)
    · exact .inr q
  froz := fun a u n q => ⟨n, .inl (by show upd C.H D o a = _; rw [upd_ne (fun z => n.2 (by rw [z]; exact hb))]; exact q)⟩
  frz := fun a o' u' q => by show upd C.H D o a = _; rw [upd_ne (fun z => by subst z; rw [h] at q; exact h2 _ _ (Option.some.inj q))]; exact q
  ref := fun n a _ q => q
theorem RepS.wrG {C : RC} {S : Sto} {D : Addr} {u o : HO} (r : RepS C S) (hb : D ∈ C.bad) (h : C.H D = some u) (h1 : ∀ xs, u ≠ .tup xs) (h2 : ∀ ob x, u ≠ .frz ob x) : RepS (C.put D o) S := by
  refine ⟨r.len, r.nd, fun a m => ⟨(r.bad a m).1, ?_⟩, fun n mo a e1 e2 => ?_⟩
  · show upd C.H D o a ≠ none
    by_cases q : a = D
    · subst q; rw [upd_same]; simp
    · rw [upd_ne q]; exact (r.bad a m).2
  · refine (r.ob n mo a e1 e2).trn (Tr.wrG r hb h h1 h2) ?_
    show upd C.H D o a = C.H a
    exact upd_ne fun z => (r.bad D hb).1 (by rw [← z]; exact List.mem_of_getElem? e2)
def RC.fillO (C : RC) (D : Addr) (o : HO) : RC := { C.put D o with bad := D :: C.bad }
theorem Grow.fillO {C : RC} {D : Addr} {o : HO} (h : C.H D = none) : Grow C (C.fillO D o) where
  w := rfl
  K := rfl
  bad := fun a m => by
    rcases List.mem_cons.mp (show a ∈ D :: C.bad from m) with z | z
    · subst z; exact .inr (.inr h)
    · exact .inl z
  bad' := fun a m => List.mem_cons_of_mem _ m
  kp := fun a o na e => .inl (by show upd C.H D _ a = _; rw [upd_ne (ne_of_none e h)]; exact e)
  new := fun a m => .inl m
  pre := rfl
  le := Nat.le_refl _
  le' := Nat.le_refl _
theorem RepS.fillO {C : RC} {S : Sto} {D : Addr} {o : HO} (r : RepS C S) (h : C.H D = none) : RepS (C.fillO D o) S := by
  refine ⟨r.len, r.nd, fun a m => ?_, fun n mo a e1 e2 => ?_⟩
  · rcases List.mem_cons.mp (show a ∈ D :: C.bad from m) with z | z
    · subst z; exact ⟨r.notin h, by show upd C.H a _ a ≠ none; rw [upd_same]; simp⟩
    · refine ⟨(r.bad a z).1, ?_⟩
      show upd C.H D _ a ≠ none
      rw [upd_ne (fun q => (r.bad a z).2 (by rw [q]; exact h))]
      exact (r.bad a z).2
  · refine (r.ob n mo a e1 e2).trn ((Grow.fillO h).tr r) ?_
    show upd C.H D _ a = C.H a
    exact upd_ne fun z => r.notin h (by rw [← z]; exact List.mem_of_getElem? e2)
theorem adopt_ok {C0 C : RC} {S0 S : Sto} {D : Addr} {mo : MO} (r0 : RepS C0 S0) (hD : C0.H D = none) (g : Grow C0 (C.rb C0)) (hb : ∀ a ∈ C0.bad, a ∈ C.bad) (rs : RepS C S) (hbD : D ∈ C.bad)
    (hmo : ∀ C', Tr C.ι.length C C' → C'.H D = C.H D → RepO C' D mo) : Grow C0 ((C.rb C0).adopt D) ∧ RepS ((C.rb C0).adopt D) (S ++ [mo]) ∧ RepV ((C.rb C0).adopt D) (.ref S.length) (.ref D) := by
  have nD : D ∉ C.ι := (rs.bad D hbD).1
  have nb : D ∉ C0.bad := fun m => (r0.bad D m).2 hD
  have tr : Tr C.ι.length C ((C.rb C0).adopt D) := by
    refine ⟨rfl, rfl, fun _ _ q => q, fun a u n q => ⟨⟨fun m => ?_, fun m => n.2 (hb a m)⟩, .inl q⟩, fun _ _ _ q => q, fun n a hn q => ?_⟩
    · rcases List.mem_append.mp (show a ∈ C.ι ++ [D] from m) with m | m
      · exact n.1 m
      · have e : a = D := by simpa using m
        exact n.2 (by rw [e]; exact hbD)
    · show (C.ι ++ [D])[n]? = some a
      rw [List.getElem?_append_left (by exact hn)]; exact q
  refine ⟨⟨g.w, g.K, fun a m => .inl m, fun a m => m, g.kp, fun a m => ?_, ?_, g.le, ?_⟩, ⟨by show (C.ι ++ [D]).length = _; simp [rs.len], ?_, fun a m => ⟨fun m2 => ?_, (rs.bad a (hb a m)).2⟩, fun n mo' a e1 e2 => ?_⟩, ?_⟩
  · rcases List.mem_append.mp (show a ∈ C.ι ++ [D] from m) with m | m
    · exact g.new a m
    · have e : a = D := by simpa using m
      exact .inr (by rw [e]; exact hD)
  · show (C.ι ++ [D]).take C0.ι.length = _
    rw [List.take_append_of_le_length (show C0.ι.length ≤ C.ι.length from g.le')]; exact g.pre
  · show C0.ι.length ≤ (C.ι ++ [D]).length
    rw [List.length_append]
    exact Nat.le_trans g.le' (Nat.le_add_right _ _)
  · show (C.ι ++ [D]).Nodup
    rw [List.nodup_append]
    refine ⟨rs.nd, by simp, fun a ha b hb => ?_⟩
    have e : b = D := by simpa using hb
    subst e
    intro e; subst e
    exact nD ha
  · rcases List.mem_append.mp (show a ∈ C.ι ++ [D] from m2) with m2 | m2
    · exact (rs.bad a (hb a m)).1 m2
    · have e : a = D := by simpa using m2
      subst e; exact nb m
  · have e2 : (C.ι ++ [D])[n]? = some a := e2
    by_cases hn : n < S.length
    · rw [List.getElem?_append_left hn] at e1
      rw [List.getElem?_append_left (by rw [rs.len]; exact hn)] at e2
      exact (rs.ob n mo' a e1 e2).trn tr rfl
    · rw [List.getElem?_append_right (by omega)] at e1
      rw [List.getElem?_append_right (by rw [rs.len]; omega), rs.len] at e2
      cases hz : n - S.length with
      | zero =>
        rw [hz] at e1 e2
        simp at e1 e2
        subst e1; subst e2
        exact hmo _ tr rfl
      | succ k => rw [hz] at e1; simp at e1
  · rw [RepV]
    exact ⟨D, rfl, by show (C.ι ++ [D])[S.length]? = some D; rw [← rs.len]; simp⟩
def mkD (fr : Bool) (ks : List Key) (ds : List MV) (S : Sto) : R MV := if fr then .ok (.dct ks ds) S else .ok (.ref S.length) (S ++ [.dct ks ds])
theorem repDct {C : RC} {p : Addr} {ks : List Key} {ds : List MV} {vs : List V} (n : Froz C p) (h : C.H p = some (.dK (ks.zip vs))) (l : ks.length = vs.length) (nd : ks.Nodup) (t : RepVs C ds vs) : RepV C (.dct ks ds) (.ref p) := by
  rw [RepV]; exact ⟨p, vs, rfl, n, .inl h, l, nd, t⟩
/-- the filled dict, told -/
theorem dict_end {W : WX} {σ : L2.St} {C0 C : RC} {S0 S : Sto} {D : Addr} {Q : VK} {fr : Bool} {ks : List Key} {ds : List MV} {vs : List V} (r0 : RepS C0 S0) (hD : C0.H D = none) (g : Grow C0 (C.rb C0)) (hb : ∀ a ∈ C0.bad, a ∈ C.bad) (rs : RepS C S) (hbD : D ∈ C.bad)
    (hv : C.H D = some (.dK (ks.zip vs))) (l : ks.length = vs.length) (nd : ks.Nodup) (rv : RepVs C ds vs) (h : Wants W σ C0 (mkD fr ks ds S) (fun d _ C' => ∀ v, RepV C' d v → Q v C'.H)) : Q (.ref D) C.H := by
  have nD : D ∉ C.ι := (rs.bad D hbD).1
  have nb : D ∉ C0.bad := fun m => (r0.bad D m).2 hD
  cases fr with
  | true =>
    have h : Wants W σ C0 (.ok (.dct ks ds) S) (fun d _ C' => ∀ v, RepV C' d v → Q v C'.H) := h
    exact h (C.rb C0) g (rs.rb hb) (.ref D) (repDct ⟨nD, nb⟩ hv l nd (rv.trn (Tr.rb (C0 := C0) hb)))
  | false =>
    have h : Wants W σ C0 (.ok (.ref S.length) (S ++ [.dct ks ds])) (fun d _ C' => ∀ v, RepV C' d v → Q v C'.H) := h
    obtain ⟨g2, rs2, rv2⟩ := adopt_ok (mo := .dct ks ds) r0 hD g hb rs hbD fun C' tr e => ⟨vs, by rw [e]; exact hv, l, nd, rv.trn tr⟩
    exact h _ g2 rs2 _ rv2
section
variable {X : Cx} {W : WX} {k v : Expr} {keys : List (Option Expr)} {values : List Expr} {ks : List Key} {mas : MA} {ma : ME} {pos : Pos}
def mDct (fr : Bool) (ks : List Key) (m : MA) : ME := fun ρ S => (m ρ S).bind fun ds S1 => mkD fr ks ds S1
/-- {} -/
theorem se_dnew {fr : Bool} : SE X W (.Dict [] [] pos) (fun _ S => mkD fr [] [] S) :=
  pe_dnewK.imp fun σ H Q ⟨C, ρ, S, e, s, q⟩ p hp => by
    subst e
    exact dict_end (C := C.fillO p (.dK [])) (fr := fr) (ks := []) (ds := []) (vs := []) s.rs hp (rb_step (Grow.refl (C := C)) (fun _ m => m) (Grow.fillO hp)) (fun a m => List.mem_cons_of_mem _ m) (s.rs.fillO hp) List.mem_cons_self upd_same rfl List.nodup_nil .nil q
end
end Mi
set_option Elab.async false
set_option linter.all false
set_option maxRecDepth 100000
set_option maxHeartbeats 4000000
namespace Mi
open PySem PySem.Spec PyProof.Rows L2
def dcGo (ok : Sto → Bool) (g : Tg) (tt : MT) (tk tv : ME) (ρ : Ev) : List MV → List Key → List MV → Sto → R (List Key × List MV)
  | [], ks, ds, S => if ok S then .ok (ks, ds) S else .stk
  | x :: xs, ks, ds, S => if ok S then (match g.f x ρ with
    | some ρ1 => (tt ρ1 S).calm.bind fun b S1 => if b then (tk ρ1 S1).calm.bind fun kd S2 => (match keyV kd with
        | some k => (tv ρ1 S2).calm.bind fun y S3 => dcGo ok g tt tk tv ρ xs (dput ks ds k y).1 (dput ks ds k y).2 S3
        | none => .stk) else dcGo ok g tt tk tv ρ xs ks ds S1
    | none => .stk) else .stk
def mDc (fr : Bool) (vs : List Nat) (mi : Ev → Sto → R Src) (g : Tg) (tt : MT) (tk tv : ME) : ME := fun ρ S => (mi ρ S).bind fun src S1 =>
  if src.items.length ≤ sizeLine then (dcGo (fun S => src.ok S) g tt tk tv (wipeE ρ vs) src.items [] [] S1).bind fun p S2 => mkD fr p.1 p.2 S2 else .stk
/-- what is wanted of the filled dict -/
def DW (D : Addr) (Q : VK) (C0 : RC) : R (List Key × List MV) → Prop
  | .ok p S => ∀ C, Grow C0 (C.rb C0) → (∀ a ∈ C0.bad, a ∈ C.bad) → RepS C S → D ∈ C.bad → ∀ vs, C.H D = some (.dK (p.1.zip vs)) → p.1.length = vs.length → p.1.Nodup → RepVs C p.2 vs → Q (.ref D) C.H
  | _ => False
theorem dcGo_noexc {ok : Sto → Bool} {g : Tg} {tt : MT} {tk tv : ME} {ρ : Ev} : ∀ (xs : List MV) (ks : List Key) (acc : List MV) (S : Sto) (c : Str) (d : MV) (S' : Sto), dcGo ok g tt tk tv ρ xs ks acc S ≠ .exc c d S'
  | [], ks, acc, S, c, d, S', h => by
    unfold dcGo at h
    split at h <;> cases h
  | x :: xs, ks, acc, S, c, d, S', h => by
    unfold dcGo at h
    split at h
    · split at h
      · rename_i ρ1 e1
        cases e : tt ρ1 S with
        | ok b S1 =>
          rw [e] at h
          simp only [R.calm_ok, R.bind_ok] at h
          split at h
          · cases e2 : tk ρ1 S1 with
            | ok y S2 =>
              rw [e2] at h
              simp only [R.calm_ok, R.bind_ok] at h
              split at h
              · cases e3 : tv ρ1 S2 with
                | ok z S3 =>
                  rw [e3] at h
                  simp only [R.calm_ok, R.bind_ok] at h
                  exact dcGo_noexc xs _ _ S3 c d S' h
                | exc c' d' S2 => rw [e3] at h; cases h
                | stk => rw [e3] at h; cases h
              · cases h
            | exc c' d' S2 => rw [e2] at h; cases h
            | stk => rw [e2] at h; cases h
          · exact dcGo_noexc xs _ _ S1 c d S' h
        | exc c' d' S1 => rw [e] at h; cases h
        | stk => rw [e] at h; cases h
      · cases h
    · cases h
theorem dw_end {W : WX} {σ : L2.St} {C0 : RC} {D : Addr} {Q : VK} {fr : Bool} {S0 : Sto} {r : R (List Key × List MV)} (r0 : RepS C0 S0) (hD : C0.H D = none) (hr : ∀ c d S, r ≠ .exc c d S) (h : Wants W σ C0 (r.bind fun p S2 => mkD fr p.1 p.2 S2) (fun d _ C' => ∀ v, RepV C' d v → Q v C'.H)) : DW D Q C0 r := by
  cases r with
  | exc c d S => exact absurd rfl (hr c d S)
  | stk => exact h
  | ok p S => exact fun C g hb rs hbD vs hv l nd rv => dict_end r0 hD g hb rs hbD hv l nd rv h
section
variable {X : Cx} {W : WX} {tg iter kx vx : Expr} {ifs : List Expr} {scope : Scope} {own : List (Str × Nat)} {mi : Ev → Sto → R Src} {g : Tg} {tt : MT} {tk tv : ME} {pos : Pos} {fr : Bool}
theorem dc_imp {σ : L2.St} {H : Hp} {Q : VK} {vs : List Nat} (hix : ∀ i ∈ g.ix, i ∈ vs) (h : tE X W (mDc fr vs mi g tt tk tv) σ H Q) : tDc (tI X W mi) (tG X g) (tT X WNo tt) (tE X WNo tk) (tE X WNo tv) vs σ H Q := by
  obtain ⟨C, ρ, S, e, s, q⟩ := h
  subst e
  refine ⟨C, ρ, S, rfl, s, (Wants.bind q).mono fun src S1 C0 g0 r0 _ q0 J sw D hD => ?_⟩
  have q0 := q0.1
  split at q0
  case isFalse => exact q0.elim
  rename_i hsz
  have lw : DW D Q C0 (dcGo (fun S => src.ok S) g tt tk tv (wipeE ρ vs) src.items [] [] S1) := dw_end r0 hD (dcGo_noexc _ _ _ _) q0
  have s0 : Sv X ρ σ S1 C0 := s.grow g0 r0
  refine ⟨fun i m H' => m = src.items.length - i ∧ i ≤ src.items.length ∧ ∃ C' S' ks acc accv, C'.H = H' ∧ Tr C0.ι.length C0 C' ∧ Grow C0 (C'.rb C0) ∧ (∀ a ∈ C0.bad, a ∈ C'.bad) ∧ RepS C' S' ∧ D ∈ C'.bad ∧ C'.H D = some (.dK (ks.zip accv)) ∧ ks.length = accv.length ∧ ks.Nodup ∧ RepVs C' acc accv ∧ ks.length ≤ i ∧
      DW D Q C0 (dcGo (fun S => src.ok S) g tt tk tv (wipeE ρ vs) (src.items.drop i) ks acc S'), ⟨src.items.length, by simp, Nat.zero_le _, C0.fillO D (.dK []), S1, [], [], [], rfl, (Grow.fillO hD).tr r0, ?_, fun a m => List.mem_cons_of_mem _ m, r0.fillO hD, List.mem_cons_self, (show (C0.fillO D (HO.dK [])).H D = some (.dK (([] : List Key).zip ([] : List V))) from upd_same), rfl, List.nodup_nil, .nil, Nat.le_refl _, lw⟩, ?_⟩
  · exact rb_wr Grow.refl hD
  rintro i m H' ⟨rfl, hi, C1, S', ks, acc, accv, rfl, tr, gr, hb, rs, hbD, hv, hkl, hnd, rv, hl, w⟩
  by_cases hlt : i < src.items.length
  · have ed : src.items.drop i = src.items[i] :: src.items.drop (i + 1) := List.drop_eq_getElem_cons hlt
    rw [ed, dcGo] at w
    by_cases hok : src.ok S' = true
    · rw [if_pos hok] at w
      obtain ⟨k1, k2, k3⟩ := sw C1 S' tr rs hok
      refine .inr ⟨k1 i hlt, fun H'' => (fun i m H' => m = src.items.length - i ∧ i ≤ src.items.length ∧ ∃ C' S' ks acc accv, C'.H = H' ∧ Tr C0.ι.length C0 C' ∧ Grow C0 (C'.rb C0) ∧ (∀ a ∈ C0.bad, a ∈ C'.bad) ∧ RepS C' S' ∧ D ∈ C'.bad ∧ C'.H D = some (.dK (ks.zip accv)) ∧ ks.length = accv.length ∧ ks.Nodup ∧ RepVs C' acc accv ∧ ks.length ≤ i ∧
        DW D Q C0 (dcGo (fun S => src.ok S) g tt tk tv (wipeE ρ vs) (src.items.drop i) ks acc S')) (i + 1) (src.items.length - (i + 1)) H'', fun H'' h => ⟨_, by omega, h⟩, fun x H'' y => ?_⟩
      obtain ⟨C2, d, rfl, g2, r2, e2, rd⟩ := k3 i x H'' hlt y
      rw [List.getElem?_eq_getElem hlt] at e2
      have e3 : src.items[i] = d := Option.some.inj e2
      have g01 : C0.ι.length ≤ C1.ι.length := gr.le'
      have tr2 : Tr C0.ι.length C0 C2 := tr.trans (g2.tr rs) g01
      have ew : EnvR C2 (wipeE ρ vs) (wipe σ vs) := (env_wipe s0.ev s0.ln vs).trn tr2
      have sv2 : Sv X (wipeE ρ vs) (wipe σ vs) S' C2 := ⟨tr2.w.trans s0.w, tr2.K.trans s0.K, r2, ew, by rw [wipeE_len, wipe_length]; exact s0.ln⟩
      have hvn : ∀ {Ca Cb : RC} {Sa : Sto} {us : List (Key × V)}, Grow Ca Cb → RepS Ca Sa → D ∈ Ca.bad → Ca.H D = some (.dK us) → Cb.H D = some (.dK us) ∧ D ∈ Cb.bad := fun {Ca Cb Sa us} x r hb h => ⟨(x.kp _ _ (r.bad D hb).1 h).exact (.inr hb), x.bad' D hb⟩
      cases e4 : g.f src.items[i] (wipeE ρ vs) with
      | none => rw [e4] at w; exact w.elim
      | some ρ1 =>
        rw [e4] at w
        dsimp only at w
        refine ⟨C2, wipeE ρ vs, S', d, ρ1, rfl, sv2, rd, by rw [← e3]; exact e4, fun σ1 ev1 l1 l1' w1 => ⟨by rw [w1 vs hix, wipe_wipe], ?_⟩⟩
        have sv3 : Sv X ρ1 σ1 S' C2 := ⟨sv2.w, sv2.K, r2, ev1, l1⟩
        refine ⟨C2, ρ1, S', rfl, sv3, ?_⟩
        cases e5 : tt ρ1 S' with
        | exc c d S2 => rw [e5] at w; exact w.elim
        | stk => rw [e5] at w; exact w.elim
        | ok b S2 =>
          rw [e5] at w
          simp only [R.calm_ok, R.bind_ok] at w
          intro C3 g3 r3
          have sv4 := sv3.grow g3 r3
          have gr3 : Grow C0 (C3.rb C0) := rb_step (rb_step gr hb g2) (fun a m => g2.bad' a (hb a m)) g3
          have hb3 : ∀ a ∈ C0.bad, a ∈ C3.bad := fun a m => g3.bad' a (g2.bad' a (hb a m))
          have z2 := hvn g2 rs hbD hv
          have z3 := hvn g3 r2 z2.2 z2.1
          have tr3 : Tr C0.ι.length C0 C3 := tr2.trans (g3.tr r2) (Nat.le_trans g01 g2.le')
          have rv3 : RepVs C3 acc accv := (rv.grow g2 rs).grow g3 r2
          cases b with
          | false =>
            rw [if_neg (by decide)] at w
            dsimp only
            rw [if_neg (by decide)]
            exact ⟨rfl, hlt, C3, S2, ks, acc, accv, rfl, tr3, gr3, hb3, r3, z3.2, z3.1, hkl, hnd, rv3, by omega, w⟩
          | true =>
            rw [if_pos rfl] at w
            dsimp only
            rw [if_pos rfl]
            refine ⟨C3, ρ1, S2, rfl, sv4, ?_⟩
            cases e6 : tk ρ1 S2 with
            | exc c d S2 => rw [e6] at w; exact w.elim
            | stk => rw [e6] at w; exact w.elim
            | ok kd S3 =>
              rw [e6] at w
              simp only [R.calm_ok, R.bind_ok] at w
              intro C4 g4 r4 v rvk
              have sv5 := sv4.grow g4 r4
              have z4 := hvn g4 r3 z3.2 z3.1
              have gr4 := rb_step gr3 hb3 g4
              have hb4 : ∀ a ∈ C0.bad, a ∈ C4.bad := fun a m => g4.bad' a (hb3 a m)
              have tr4 : Tr C0.ι.length C0 C4 := tr3.trans (g4.tr r3) (Nat.le_trans g01 (Nat.le_trans g2.le' g3.le'))
              have rv4 : RepVs C4 acc accv := rv3.grow g4 r3
              cases e7 : keyV kd with
              | none => rw [e7] at w; exact w.elim
              | some k =>
                rw [e7] at w
                dsimp only at w
                have ek := keyV_rep rvk e7
                refine ⟨C4, ρ1, S3, rfl, sv5, ?_⟩
                cases e8 : tv ρ1 S3 with
                | exc c d S2 => rw [e8] at w; exact w.elim
                | stk => rw [e8] at w; exact w.elim
                | ok yv S4 =>
                  rw [e8] at w
                  simp only [R.calm_ok, R.bind_ok] at w
                  intro C5 g5 r5 v5 rvv
                  have z5 := hvn g5 r4 z4.2 z4.1
                  have hb5 : ∀ a ∈ C0.bad, a ∈ C5.bad := fun a m => g5.bad' a (hb4 a m)
                  have tr5 : Tr C0.ι.length C0 C5 := tr4.trans (g5.tr r4) (Nat.le_trans g01 (Nat.le_trans g2.le' (Nat.le_trans g3.le' g4.le')))
                  have l5 : C0.ι.length ≤ C5.ι.length := Nat.le_trans g01 (Nat.le_trans g2.le' (Nat.le_trans g3.le' (Nat.le_trans g4.le' g5.le')))
                  have rv5 : RepVs C5 acc accv := rv4.grow g5 r4
                  have wr := Tr.wrG (o := .dK (putK (ks.zip accv) k v5)) r5 z5.2 z5.1 (by simp) (by simp)
                  obtain ⟨accv', ep, hl', nd', rv'⟩ := dput_rep (ks' := (dput ks acc k yv).1) (ds' := (dput ks acc k yv).2) (rv5.trn wr) hkl hnd (rvv.trn wr) rfl
                  have hlp := dput_len (C := C5) (ks := ks) (ds := acc) (k := k) (d := yv) (ks' := (dput ks acc k yv).1) (ds' := (dput ks acc k yv).2) rfl
                  refine ⟨ks.zip accv, k, ek, z5.1, by rw [List.length_zip]; omega, rfl, hlt, C5.put D (.dK (putK (ks.zip accv) k v5)), S4, (dput ks acc k yv).1, (dput ks acc k yv).2, accv', rfl, tr5.trans wr l5, rb_wr (rb_step gr4 hb4 g5) hD, hb5, r5.wrG z5.2 z5.1 (by simp) (by simp), z5.2, by rw [put_same, ep], hl', nd', rv', by omega, w⟩
    · rw [if_neg hok] at w; exact w.elim
  · have e : i = src.items.length := by omega
    subst e
    rw [List.drop_length, dcGo] at w
    by_cases hok : src.ok S' = true
    · rw [if_pos hok] at w
      obtain ⟨k1, k2, k3⟩ := sw C1 S' tr rs hok
      exact .inl ⟨k2, w C1 gr hb rs hbD accv hv hkl hnd rv⟩
    · rw [if_neg hok] at w; exact w.elim
theorem se_dc (hc : X.calm = true) (hN : X.N.Nodup) (hi : SI X W tg iter mi) (ok : BlkOk X.N X.env.scope scope own)
    (hg : ∀ (s : Shared) (H : Hp) (C : Addr) (cl : List (Str × Addr)) (fp : List Addr), SG (X.blk s H scope (compEnvC scope cl C X.env) fp) tg g) (ht : ∀ (s : Shared) (H : Hp) (C : Addr) (cl : List (Str × Addr)) (fp : List Addr), STs (X.blk s H scope (compEnvC scope cl C X.env) fp) WNo ifs tt)
    (hk : ∀ (s : Shared) (H : Hp) (C : Addr) (cl : List (Str × Addr)) (fp : List Addr), SE (X.blk s H scope (compEnvC scope cl C X.env) fp) WNo kx tk)
    (he : ∀ (s : Shared) (H : Hp) (C : Addr) (cl : List (Str × Addr)) (fp : List Addr), SE (X.blk s H scope (compEnvC scope cl C X.env) fp) WNo vx tv) (hix : ∀ i ∈ g.ix, i ∈ own.map (·.2)) (hs : ∀ x, foldedSetIterable iter X.env x = pure x := by intro _; rfl) :
    SE X W (.DictComp kx vx [⟨tg, iter, ifs, 0⟩] scope pos) (mDc fr (own.map (·.2)) mi g tt tk tv) :=
  (pe_dc hc hN hi ok (g := tG X g) (fun s H C cl fp => (hg s H C cl fp).imp fun v σ H Q h => tG.blk h) (fun s H C cl fp => (ht s H C cl fp).imp fun σ H Q h => tT.blk h) (fun s H C cl fp => (hk s H C cl fp).imp fun σ H Q h => tE.blk h) (fun s H C cl fp => (he s H C cl fp).imp fun σ H Q h => tE.blk h) hs).imp fun σ H Q h => dc_imp hix h
end
def lc2Go (ok : Sto → Bool) (g : Tg) (tt : MT) (mi1 : Ev → Sto → R Src) (vs1 : List Nat) (g1 : Tg) (tt1 : MT) (te : ME) (ρ : Ev) : List MV → List MV → Sto → R (List MV)
  | [], acc, S => if ok S then .ok acc S else .stk
  | x :: xs, acc, S => if ok S then (match g.f x ρ with
    | some ρ1 => (tt ρ1 S).calm.bind fun b S1 => if b then (mi1 ρ1 S1).calm.bind fun src1 S2 =>
        if acc.length + src1.items.length ≤ sizeLine then (lcGo (fun S => src1.ok S) g1 tt1 te (wipeE ρ1 vs1) src1.items acc S2).bind fun acc' S3 => lc2Go ok g tt mi1 vs1 g1 tt1 te ρ xs acc' S3 else .stk
      else lc2Go ok g tt mi1 vs1 g1 tt1 te ρ xs acc S1
    | none => .stk) else .stk
def mLc2 (fr : Bool) (vs vs1 : List Nat) (mi : Ev → Sto → R Src) (g : Tg) (tt : MT) (mi1 : Ev → Sto → R Src) (g1 : Tg) (tt1 : MT) (te : ME) : ME := fun ρ S => (mi ρ S).bind fun src S1 =>
  (lc2Go (fun S => src.ok S) g tt mi1 vs1 g1 tt1 te (wipeE ρ vs) src.items [] S1).bind (mkL fr)
theorem lc2Go_noexc {ok : Sto → Bool} {g : Tg} {tt : MT} {mi1 : Ev → Sto → R Src} {vs1 : List Nat} {g1 : Tg} {tt1 : MT} {te : ME} {ρ : Ev} : ∀ (xs acc : List MV) (S : Sto) (c : Str) (d : MV) (S' : Sto), lc2Go ok g tt mi1 vs1 g1 tt1 te ρ xs acc S ≠ .exc c d S'
  | [], acc, S, c, d, S', h => by
    unfold lc2Go at h
    split at h <;> cases h
  | x :: xs, acc, S, c, d, S', h => by
    unfold lc2Go at h
    split at h
    · split at h
      · rename_i ρ1 e1
        cases e : tt ρ1 S with
        | ok b S1 =>
          rw [e] at h
          simp only [R.calm_ok, R.bind_ok] at h
          split at h
          · cases e2 : mi1 ρ1 S1 with
            | ok src S2 =>
              rw [e2] at h
              simp only [R.calm_ok, R.bind_ok] at h
              split at h
              · cases e3 : lcGo (fun S => src.ok S) g1 tt1 te (wipeE ρ1 vs1) src.items acc S2 with
                | ok acc' S3 =>
                  rw [e3] at h
                  exact lc2Go_noexc xs _ S3 c d S' h
                | exc c' d' S3 => exact lcGo_noexc _ _ _ _ _ _ e3
                | stk => rw [e3] at h; cases h
              · cases h
            | exc c' d' S2 => rw [e2] at h; cases h
            | stk => rw [e2] at h; cases h
          · exact lc2Go_noexc xs _ S1 c d S' h
        | exc c' d' S1 => rw [e] at h; cases h
        | stk => rw [e] at h; cases h
      · cases h
    · cases h
theorem Tr.le {C C' : RC} (x : Tr C.ι.length C C') : C.ι.length ≤ C'.ι.length := by
  by_cases h : C.ι.length = 0
  · omega
  · have hl : C.ι.length - 1 < C.ι.length := by omega
    have := (List.getElem?_eq_some_iff.mp (x.ref (C.ι.length - 1) _ hl (List.getElem?_eq_getElem hl))).1
    omega
/-- the list D is being filled, C0 the state at its start -/
structure Fl (C0 : RC) (D : Addr) (C : RC) (S : Sto) (acc : List MV) (accv : List V) : Prop where
  tr : Tr C0.ι.length C0 C
  gr : Grow C0 (C.rb C0)
  hb : ∀ a ∈ C0.bad, a ∈ C.bad
  rs : RepS C S
  hbD : D ∈ C.bad
  hv : C.H D = some (.lst accv)
  rv : RepVs C acc accv
theorem Fl.grow {C0 C C' : RC} {D : Addr} {S S' : Sto} {acc : List MV} {accv : List V} (f : Fl C0 D C S acc accv) (g : Grow C C') (r : RepS C' S') : Fl C0 D C' S' acc accv where
  tr := f.tr.trans (g.tr f.rs) f.gr.le'
  gr := rb_step f.gr f.hb g
  hb := fun a m => g.bad' a (f.hb a m)
  rs := r
  hbD := g.bad' D f.hbD
  hv := (g.kp _ _ (f.rs.bad D f.hbD).1 f.hv).exact (.inr f.hbD)
  rv := f.rv.grow g f.rs
theorem Fl.app {C0 C : RC} {D : Addr} {S : Sto} {acc : List MV} {accv : List V} {d : MV} {v : V} (f : Fl C0 D C S acc accv) (hD : C0.H D = none) (rv : RepV C d v) : Fl C0 D (C.put D (.lst (accv ++ [v]))) S (acc ++ [d]) (accv ++ [v]) := by
  have wr := Tr.wr (vs := accv ++ [v]) f.rs f.hbD f.hv
  exact ⟨f.tr.trans wr f.gr.le', rb_wr f.gr hD, f.hb, f.rs.wr f.hbD f.hv, f.hbD, put_same, (f.rv.trn wr).append (.cons (rv.trn wr) .nil)⟩
theorem Fl.le {C0 C : RC} {D : Addr} {S : Sto} {acc : List MV} {accv : List V} (f : Fl C0 D C S acc accv) : C0.ι.length ≤ C.ι.length := f.gr.le'
section
variable {X : Cx} {W : WX} {tg iter tg1 iter1 elt : Expr} {ifs ifs1 : List Expr} {scope : Scope} {own : List (Str × Nat)} {mi mi1 : Ev → Sto → R Src} {g g1 : Tg} {tt tt1 : MT} {te : ME} {pos : Pos} {fr : Bool} {vs1 : List Nat}
/-- the inner loop: C0 the state at the list's start, Cb that at this loop's -/
theorem in_imp {C0 Cb : RC} {D : Addr} {ρ1 : Ev} {σ1 : L2.St} {src : Src} {J : It} {S2 : Sto} {acc : List MV} {accv : List V} {Nx : Hp → Prop} (sw : SrcW X src J Cb) (sb : Sv X ρ1 σ1 S2 Cb) (f : Fl C0 D Cb S2 acc accv) (hD : C0.H D = none)
    (hsz : acc.length + src.items.length ≤ sizeLine) (hix : ∀ i ∈ g1.ix, i ∈ vs1)
    (w : match lcGo (fun S => src.ok S) g1 tt1 te (wipeE ρ1 vs1) src.items acc S2 with
      | .ok acc' S' => ∀ C' accv', Fl C0 D C' S' acc' accv' → acc'.length ≤ sizeLine → Nx C'.H
      | _ => False) :
    ∃ W1 : Nat → Nat → Hp → Prop, (∃ m, W1 0 m Cb.H) ∧ ∀ j k H, W1 j k H → (J.stop j H ∧ Nx H) ∨ (J.go j H ∧ ∃ Nx1 : Hp → Prop, (∀ H', Nx1 H' → ∃ k', k' < k ∧ W1 (j + 1) k' H') ∧ ∀ x H', J.yld j H x H' → tG X g1 x (wipe σ1 vs1) H' fun σ3 H5 => wipe σ3 vs1 = wipe σ1 vs1 ∧ tT X WNo tt1 σ3 H5 fun b H6 =>
      if b = true then tE X WNo te σ3 H6 fun y H7 => ∃ acc, H7 D = some (.lst acc) ∧ acc.length < sizeLine ∧ Nx1 (upd H7 D (.lst (acc ++ [y]))) else Nx1 H6) := by
  refine ⟨fun i m H' => m = src.items.length - i ∧ i ≤ src.items.length ∧ ∃ C' S' acc' accv', C'.H = H' ∧ Tr Cb.ι.length Cb C' ∧ Fl C0 D C' S' acc' accv' ∧ acc'.length ≤ acc.length + i ∧
      (match lcGo (fun S => src.ok S) g1 tt1 te (wipeE ρ1 vs1) (src.items.drop i) acc' S' with
        | .ok acc' S' => ∀ C' accv', Fl C0 D C' S' acc' accv' → acc'.length ≤ sizeLine → Nx C'.H
        | _ => False), ⟨src.items.length, by simp, Nat.zero_le _, Cb, S2, acc, accv, rfl, Tr.refl, f, Nat.le_refl _, w⟩, ?_⟩
  rintro i m H' ⟨rfl, hi, C1, S', acc', accv', rfl, tr, f1, hl, w⟩
  by_cases hlt : i < src.items.length
  · have ed : src.items.drop i = src.items[i] :: src.items.drop (i + 1) := List.drop_eq_getElem_cons hlt
    rw [ed, lcGo] at w
    by_cases hok : src.ok S' = true
    · rw [if_pos hok] at w
      obtain ⟨k1, k2, k3⟩ := sw C1 S' tr f1.rs hok
      refine .inr ⟨k1 i hlt, fun H'' => (fun i m H' => m = src.items.length - i ∧ i ≤ src.items.length ∧ ∃ C' S' acc' accv', C'.H = H' ∧ Tr Cb.ι.length Cb C' ∧ Fl C0 D C' S' acc' accv' ∧ acc'.length ≤ acc.length + i ∧
        (match lcGo (fun S => src.ok S) g1 tt1 te (wipeE ρ1 vs1) (src.items.drop i) acc' S' with
          | .ok acc' S' => ∀ C' accv', Fl C0 D C' S' acc' accv' → acc'.length ≤ sizeLine → Nx C'.H
          | _ => False)) (i + 1) (src.items.length - (i + 1)) H'', fun H'' h => ⟨_, by omega, h⟩, fun x H'' y => ?_⟩
      obtain ⟨C2, d, rfl, g2, r2, e2, rd⟩ := k3 i x H'' hlt y
      rw [List.getElem?_eq_getElem hlt] at e2
      have e3 : src.items[i] = d := Option.some.inj e2
      have f2 := f1.grow g2 r2
      have l01 : Cb.ι.length ≤ C1.ι.length := tr.le
      have tr2 : Tr Cb.ι.length Cb C2 := tr.trans (g2.tr f1.rs) l01
      have ew : EnvR C2 (wipeE ρ1 vs1) (wipe σ1 vs1) := (env_wipe sb.ev sb.ln vs1).trn tr2
      have sv2 : Sv X (wipeE ρ1 vs1) (wipe σ1 vs1) S' C2 := ⟨tr2.w.trans sb.w, tr2.K.trans sb.K, r2, ew, by rw [wipeE_len, wipe_length]; exact sb.ln⟩
      cases e4 : g1.f src.items[i] (wipeE ρ1 vs1) with
      | none => rw [e4] at w; exact w.elim
      | some ρ2 =>
        rw [e4] at w
        dsimp only at w
        refine ⟨C2, wipeE ρ1 vs1, S', d, ρ2, rfl, sv2, rd, by rw [← e3]; exact e4, fun σ2 ev2 l2 l2' w2 => ⟨by rw [w2 vs1 hix, wipe_wipe], ?_⟩⟩
        have sv3 : Sv X ρ2 σ2 S' C2 := ⟨sv2.w, sv2.K, r2, ev2, l2⟩
        refine ⟨C2, ρ2, S', rfl, sv3, ?_⟩
        cases e5 : tt1 ρ2 S' with
        | exc c d S2 => rw [e5] at w; exact w.elim
        | stk => rw [e5] at w; exact w.elim
        | ok b S2 =>
          rw [e5] at w
          simp only [R.calm_ok, R.bind_ok] at w
          intro C3 g3 r3
          have sv4 := sv3.grow g3 r3
          have f3 := f2.grow g3 r3
          have tr3 : Tr Cb.ι.length Cb C3 := tr2.trans (g3.tr r2) (Nat.le_trans l01 g2.le')
          cases b with
          | false =>
            rw [if_neg (by decide)] at w
            dsimp only
            rw [if_neg (by decide)]
            exact ⟨rfl, hlt, C3, S2, acc', accv', rfl, tr3, f3, by omega, w⟩
          | true =>
            rw [if_pos rfl] at w
            dsimp only
            rw [if_pos rfl]
            refine ⟨C3, ρ2, S2, rfl, sv4, ?_⟩
            cases e6 : te ρ2 S2 with
            | exc c d S2 => rw [e6] at w; exact w.elim
            | stk => rw [e6] at w; exact w.elim
            | ok yv S3 =>
              rw [e6] at w
              simp only [R.calm_ok, R.bind_ok] at w
              intro C4 g4 r4 v rvv
              have f4 := f3.grow g4 r4
              have tr4 : Tr Cb.ι.length Cb C4 := tr3.trans (g4.tr r3) (Nat.le_trans l01 (Nat.le_trans g2.le' g3.le'))
              have wr := Tr.wr (vs := accv' ++ [v]) f4.rs f4.hbD f4.hv
              refine ⟨accv', f4.hv, by rw [← f4.rv.length]; omega, rfl, hlt, C4.put D (.lst (accv' ++ [v])), S3, acc' ++ [yv], accv' ++ [v], rfl, tr4.trans wr (Nat.le_trans l01 (Nat.le_trans g2.le' (Nat.le_trans g3.le' g4.le'))), f4.app hD rvv, by simp; omega, w⟩
    · rw [if_neg hok] at w; exact w.elim
  · have e : i = src.items.length := by omega
    subst e
    rw [List.drop_length, lcGo] at w
    by_cases hok : src.ok S' = true
    · rw [if_pos hok] at w
      obtain ⟨k1, k2, k3⟩ := sw C1 S' tr f1.rs hok
      exact .inl ⟨k2, w C1 accv' f1 (by omega)⟩
    · rw [if_neg hok] at w; exact w.elim
theorem tI.blk {s0 : Shared} {H0 : Hp} {sc : Scope} {ce : Env} {fp : List Addr} {m : Ev → Sto → R Src} {σ : L2.St} {H : Hp} {Q : It → Hp → Prop} (h : tI X W m σ H Q) : tI (X.blk s0 H0 sc ce fp) W m σ H Q := by
  obtain ⟨C, ρ, S, e, s, q⟩ := h
  exact ⟨C, ρ, S, e, ⟨s.w, s.K, s.rs, s.ev, s.ln⟩, q⟩
theorem lc2_imp {σ : L2.St} {H : Hp} {Q : VK} {vs : List Nat} (hix : ∀ i ∈ g.ix, i ∈ vs) (hix1 : ∀ i ∈ g1.ix, i ∈ vs1) (h : tE X W (mLc2 fr vs vs1 mi g tt mi1 g1 tt1 te) σ H Q) : tLc2 (tI X W mi) (tG X g) (tT X WNo tt) (tI X WNo mi1) (tG X g1) (tT X WNo tt1) (tE X WNo te) vs vs1 σ H Q := by
  obtain ⟨C, ρ, S, e, s, q⟩ := h
  subst e
  refine ⟨C, ρ, S, rfl, s, (Wants.bind q).mono fun src S1 C0 g0 r0 _ q0 J sw D hD => ?_⟩
  have q0 := q0.1
  have lw : LW D Q fr C0 (lc2Go (fun S => src.ok S) g tt mi1 vs1 g1 tt1 te (wipeE ρ vs) src.items [] S1) := lw_end r0 hD (lc2Go_noexc _ _ _) q0
  have s0 : Sv X ρ σ S1 C0 := s.grow g0 r0
  refine ⟨fun i m H' => m = src.items.length - i ∧ i ≤ src.items.length ∧ ∃ C' S' acc accv, C'.H = H' ∧ Fl C0 D C' S' acc accv ∧ acc.length ≤ sizeLine ∧
      LW D Q fr C0 (lc2Go (fun S => src.ok S) g tt mi1 vs1 g1 tt1 te (wipeE ρ vs) (src.items.drop i) acc S'), ⟨src.items.length, by simp, Nat.zero_le _, C0.fill D, S1, [], [], rfl, ⟨(Grow.fill hD).tr r0, ?_, fun a m => List.mem_cons_of_mem _ m, r0.fill hD, List.mem_cons_self, upd_same, .nil⟩, Nat.zero_le _, lw⟩, ?_⟩
  · exact rb_wr Grow.refl hD
  rintro i m H' ⟨rfl, hi, C1, S', acc, accv, rfl, f1, hl, w⟩
  by_cases hlt : i < src.items.length
  · have ed : src.items.drop i = src.items[i] :: src.items.drop (i + 1) := List.drop_eq_getElem_cons hlt
    rw [ed, lc2Go] at w
    by_cases hok : src.ok S' = true
    · rw [if_pos hok] at w
      obtain ⟨k1, k2, k3⟩ := sw C1 S' f1.tr f1.rs hok
      refine .inr ⟨k1 i hlt, fun H'' => (fun i m H' => m = src.items.length - i ∧ i ≤ src.items.length ∧ ∃ C' S' acc accv, C'.H = H' ∧ Fl C0 D C' S' acc accv ∧ acc.length ≤ sizeLine ∧
        LW D Q fr C0 (lc2Go (fun S => src.ok S) g tt mi1 vs1 g1 tt1 te (wipeE ρ vs) (src.items.drop i) acc S')) (i + 1) (src.items.length - (i + 1)) H'', fun H'' h => ⟨_, by omega, h⟩, fun x H'' y => ?_⟩
      obtain ⟨C2, d, rfl, g2, r2, e2, rd⟩ := k3 i x H'' hlt y
      rw [List.getElem?_eq_getElem hlt] at e2
      have e3 : src.items[i] = d := Option.some.inj e2
      have f2 := f1.grow g2 r2
      have ew : EnvR C2 (wipeE ρ vs) (wipe σ vs) := (env_wipe s0.ev s0.ln vs).trn f2.tr
      have sv2 : Sv X (wipeE ρ vs) (wipe σ vs) S' C2 := ⟨f2.tr.w.trans s0.w, f2.tr.K.trans s0.K, r2, ew, by rw [wipeE_len, wipe_length]; exact s0.ln⟩
      cases e4 : g.f src.items[i] (wipeE ρ vs) with
      | none => rw [e4] at w; exact w.elim
      | some ρ1 =>
        rw [e4] at w
        dsimp only at w
        refine ⟨C2, wipeE ρ vs, S', d, ρ1, rfl, sv2, rd, by rw [← e3]; exact e4, fun σ1 ev1 l1 l1' w1 => ⟨by rw [w1 vs hix, wipe_wipe], ?_⟩⟩
        have sv3 : Sv X ρ1 σ1 S' C2 := ⟨sv2.w, sv2.K, r2, ev1, l1⟩
        refine ⟨C2, ρ1, S', rfl, sv3, ?_⟩
        cases e5 : tt ρ1 S' with
        | exc c d S2 => rw [e5] at w; exact w.elim
        | stk => rw [e5] at w; exact w.elim
        | ok b S2 =>
          rw [e5] at w
          simp only [R.calm_ok, R.bind_ok] at w
          intro C3 g3 r3
          have sv4 := sv3.grow g3 r3
          have f3 := f2.grow g3 r3
          cases b with
          | false =>
            rw [if_neg (by decide)] at w
            dsimp only
            rw [if_neg (by decide)]
            exact ⟨rfl, hlt, C3, S2, acc, accv, rfl, f3, hl, w⟩
          | true =>
            rw [if_pos rfl] at w
            dsimp only
            rw [if_pos rfl]
            refine ⟨C3, ρ1, S2, rfl, sv4, ?_⟩
            cases e6 : mi1 ρ1 S2 with
            | exc c d S2 => rw [e6] at w; exact w.elim
            | stk => rw [e6] at w; exact w.elim
            | ok src1 S3 =>
              rw [e6] at w
              simp only [R.calm_ok, R.bind_ok] at w
              intro C4 g4 r4 J1 sw1
              have f4 := f3.grow g4 r4
              have sv5 := sv4.grow g4 r4
              by_cases hsz : acc.length + src1.items.length ≤ sizeLine
              · rw [if_pos hsz] at w
                refine in_imp sw1 sv5 f4 hD hsz hix1 ?_
                cases e7 : lcGo (fun S => src1.ok S) g1 tt1 te (wipeE ρ1 vs1) src1.items acc S3 with
                | exc c d S2 => exact absurd e7 (lcGo_noexc _ _ _ _ _ _)
                | stk => rw [e7] at w; exact w.elim
                | ok acc' S4 =>
                  rw [e7] at w
                  simp only [R.bind_ok] at w
                  exact fun C' accv' f' hl' => ⟨rfl, hlt, C', S4, acc', accv', rfl, f', hl', w⟩
              · rw [if_neg hsz] at w; exact w.elim
    · rw [if_neg hok] at w; exact w.elim
  · have e : i = src.items.length := by omega
    subst e
    rw [List.drop_length, lc2Go] at w
    by_cases hok : src.ok S' = true
    · rw [if_pos hok] at w
      obtain ⟨k1, k2, k3⟩ := sw C1 S' f1.tr f1.rs hok
      exact .inl ⟨k2, w C1 f1.gr f1.hb f1.rs f1.hbD accv f1.hv f1.rv⟩
    · rw [if_neg hok] at w; exact w.elim
theorem se_lc2 (hc : X.calm = true) (hN : X.N.Nodup) (hi : SI X W tg iter mi) (ok : BlkOk X.N X.env.scope scope own) (hv : ∀ i ∈ vs1, i ∈ own.map (·.2))
    (hg : ∀ (s : Shared) (H : Hp) (C : Addr) (cl : List (Str × Addr)) (fp : List Addr), SG (X.blk s H scope (compEnvC scope cl C X.env) fp) tg g) (ht : ∀ (s : Shared) (H : Hp) (C : Addr) (cl : List (Str × Addr)) (fp : List Addr), STs (X.blk s H scope (compEnvC scope cl C X.env) fp) WNo ifs tt)
    (hi1 : ∀ (s : Shared) (H : Hp) (C : Addr) (cl : List (Str × Addr)) (fp : List Addr), SI (X.blk s H scope (compEnvC scope cl C X.env) fp) WNo tg1 iter1 mi1)
    (hg1 : ∀ (s : Shared) (H : Hp) (C : Addr) (cl : List (Str × Addr)) (fp : List Addr), SG (X.blk s H scope (compEnvC scope cl C X.env) fp) tg1 g1) (ht1 : ∀ (s : Shared) (H : Hp) (C : Addr) (cl : List (Str × Addr)) (fp : List Addr), STs (X.blk s H scope (compEnvC scope cl C X.env) fp) WNo ifs1 tt1)
    (he : ∀ (s : Shared) (H : Hp) (C : Addr) (cl : List (Str × Addr)) (fp : List Addr), SE (X.blk s H scope (compEnvC scope cl C X.env) fp) WNo elt te) (hix : ∀ i ∈ g.ix, i ∈ own.map (·.2)) (hix1 : ∀ i ∈ g1.ix, i ∈ vs1) (hs : ∀ x, foldedSetIterable iter X.env x = pure x := by intro _; rfl) (hs1 : ∀ env x, foldedSetIterable iter1 env x = pure x := by intro _ _; rfl) :
    SE X W (.ListComp elt [⟨tg, iter, ifs, 0⟩, ⟨tg1, iter1, ifs1, 0⟩] scope pos) (mLc2 fr (own.map (·.2)) vs1 mi g tt mi1 g1 tt1 te) :=
  (pe_lc2 hc hN hi ok hv (g := tG X g) (g1 := tG X g1) (wi1 := tI X WNo mi1) (fun s H C cl fp => (hg s H C cl fp).imp fun v σ H Q h => tG.blk h) (fun s H C cl fp => (ht s H C cl fp).imp fun σ H Q h => tT.blk h)
    (fun s H C cl fp => (hi1 s H C cl fp).imp fun σ H Q h => tI.blk h) (fun s H C cl fp => (hg1 s H C cl fp).imp fun v σ H Q h => tG.blk h) (fun s H C cl fp => (ht1 s H C cl fp).imp fun σ H Q h => tT.blk h) (fun s H C cl fp => (he s H C cl fp).imp fun σ H Q h => tE.blk h) hs hs1).imp fun σ H Q h => lc2_imp hix hix1 h
end
end Mi
set_option Elab.async false
set_option linter.all false
set_option maxRecDepth 100000
set_option maxHeartbeats 4000000
namespace Mi
open PySem PySem.Spec PyProof.Rows L2
theorem x0_of {K : PySem.W.Frag} {x : Str} (c : (He.Fa.exc x).ok K = true) : X0 K (He.ga K x) :=
  let ⟨a, b, c, d⟩ := He.exc_ok c
  ⟨a, b, c, d⟩
theorem pu_over {f : List Bool → Bool} : Pure1 (overBl f) := by
  intro ds S c d S' h
  unfold overBl at h
  split at h
  · split at h
    · split at h
      · cases h
      · cases h
    · cases h
  · cases h
theorem pu_any : Pure1 anyM := pu_over
theorem pu_all : Pure1 allM := pu_over
theorem pu_sum : Pure1 sumM := by
  intro ds S c d S' h
  unfold sumM at h
  split at h
  · split at h
    · split at h
      · cases h
      · cases h
    · cases h
  · cases h
end Mi
set_option Elab.async false
set_option linter.all false
set_option maxRecDepth 100000
set_option maxHeartbeats 2000000
namespace Mi
open PySem PySem.Spec PyProof.Rows L2
end Mi
set_option Elab.async false
set_option linter.all false
set_option maxRecDepth 100000
set_option maxHeartbeats 2000000
namespace Mi
open PySem PySem.Spec PyProof.Rows L2
mutual
def nk : MV → NestedKey
  | .bl b => .num (if b then 1 else 0)
  | .int i => .num i
  | .str x => .text x
  | .tup xs => .tup (nks xs)
  | _ => .none
def nks : List MV → List NestedKey
  | [] => []
  | x :: xs => nk x :: nks xs
end
theorem nks_map : ∀ xs : List MV, nks xs = xs.map nk
  | [] => rfl
  | x :: xs => by rw [nks, nks_map xs]; rfl
mutual
def unk : NestedKey → MV
  | .none => .non
  | .num i => .int i
  | .text x => .str x
  | .tup ks => .tup (unks ks)
def unks : List NestedKey → List MV
  | [] => []
  | x :: xs => unk x :: unks xs
end
mutual
theorem unk_nk : ∀ k : MV, keyOk k = true → unk (nk k) = canon k
  | .non, _ => rfl
  | .bl _, _ => rfl
  | .int _, _ => rfl
  | .str _, _ => rfl
  | .tup xs, h => by rw [nk, unk, canon, unks_nks xs (by simpa [keyOk] using h)]
  | .lst _, h => by simp [keyOk] at h
  | .dct _ _, h => by simp [keyOk] at h
  | .dcT _ _, h => by simp [keyOk] at h
  | .obj _ _ _, h => by simp [keyOk] at h
  | .ref _, h => by simp [keyOk] at h
  | .kls _, h => by simp [keyOk] at h
theorem unks_nks : ∀ ks : List MV, keyOks ks = true → unks (nks ks) = canons ks
  | [], _ => rfl
  | k :: ks, h => by
    rw [keyOks, Bool.and_eq_true] at h
    rw [nks, unks, canons, unk_nk k h.1, unks_nks ks h.2]
end
mutual
theorem nk_canon : ∀ k : MV, nk (canon k) = nk k
  | .bl _ => rfl
  | .non => rfl
  | .int _ => rfl
  | .str _ => rfl
  | .tup xs => by rw [canon, nk, nk, nks_canons xs]
  | .lst _ => rfl
  | .dct _ _ => rfl
  | .dcT _ _ => rfl
  | .obj _ _ _ => rfl
  | .ref _ => rfl
  | .kls _ => rfl
theorem nks_canons : ∀ ks : List MV, nks (canons ks) = nks ks
  | [] => rfl
  | k :: ks => by rw [canons, nks, nks, nk_canon k, nks_canons ks]
end
theorem nk_eq {a b : MV} (ha : keyOk a = true) (hb : keyOk b = true) : nk a = nk b ↔ canon a = canon b := by
  constructor
  · intro h; rw [← unk_nk a ha, ← unk_nk b hb, h]
  · intro h; rw [← nk_canon a, ← nk_canon b, h]
mutual
theorem hash_nk (w : World) : ∀ k : MV, keyOk k = true → hashK w k = (nk k).hash w
  | .non, _ => by show hashK w .non = NestedKey.hash w .none; rfl
  | .bl _, _ => rfl
  | .int _, _ => rfl
  | .str _, _ => rfl
  | .tup xs, h => by rw [hashK, nk, NestedKey.hash, hashes_nks w xs (by simpa [keyOk] using h)]
  | .lst _, h => by simp [keyOk] at h
  | .dct _ _, h => by simp [keyOk] at h
  | .dcT _ _, h => by simp [keyOk] at h
  | .obj _ _ _, h => by simp [keyOk] at h
  | .ref _, h => by simp [keyOk] at h
  | .kls _, h => by simp [keyOk] at h
theorem hashes_nks (w : World) : ∀ ks : List MV, keyOks ks = true → hashKs w ks = NestedKey.hashes w (nks ks)
  | [], _ => rfl
  | k :: ks, h => by
    rw [keyOks, Bool.and_eq_true] at h
    rw [hashKs, nks, NestedKey.hashes, hash_nk w k h.1, hashes_nks w ks h.2]
end
mutual
theorem dep_nk : ∀ k : MV, (nk k).depth = kdep k
  | .bl _ => rfl
  | .non => rfl
  | .int _ => rfl
  | .str _ => rfl
  | .tup xs => by rw [nk, NestedKey.depth, kdep, deps_nks xs]
  | .lst _ => rfl
  | .dct _ _ => rfl
  | .dcT _ _ => rfl
  | .obj _ _ _ => rfl
  | .ref _ => rfl
  | .kls _ => rfl
theorem deps_nks : ∀ ks : List MV, NestedKey.depthAll (nks ks) = kdeps ks
  | [] => rfl
  | k :: ks => by rw [nks, NestedKey.depthAll, kdeps, dep_nk k, deps_nks ks]
end
section
variable {X : Cx} {pins : List (Addr × Obj)} {s : Shared} {σ : L2.St} {C : RC}
mutual
theorem nis_of (I : Inv X pins σ C.H s) (hK : C.K = X.K) : ∀ (k : MV) (v : V) (u : Value), keyOk k = true → RepV C k v → RelV v u → NestedIs s.heap (nk k) u
  | .non, v, u, _, h, r => by rw [RepV] at h; subst h; cases r; exact .none
  | .bl b, v, u, _, h, r => by rw [RepV] at h; subst h; cases r; exact .bool rfl
  | .int i, v, u, _, h, r => by
    rw [RepV] at h; subst h
    obtain ⟨t, rfl⟩ := r
    exact .int i t
  | .str x, v, u, _, h, r => by
    rw [RepV] at h; subst h
    obtain ⟨t, rfl⟩ := r
    exact .text x t
  | .tup xs, v, u, hk, h, r => by
    rw [RepV] at h
    obtain ⟨a, vs, rfl, hq, t⟩ := h
    cases r
    rw [hK] at hq
    obtain ⟨its, rv, ht, _⟩ := I.tuple hq
    obtain ⟨o, ho, hc, n, hd⟩ := (show s.heap.IsTuple a its.toArray from ht)
    rw [nk]
    exact .tup ho hc hd (by simpa using nall_of I hK xs vs its (by simpa [keyOk] using hk) t rv)
  | .lst _, _, _, h, _, _ => by simp [keyOk] at h
  | .dct _ _, _, _, h, _, _ => by simp [keyOk] at h
  | .dcT _ _, _, _, h, _, _ => by simp [keyOk] at h
  | .obj _ _ _, _, _, h, _, _ => by simp [keyOk] at h
  | .ref _, _, _, h, _, _ => by simp [keyOk] at h
  | .kls _, _, _, h, _, _ => by simp [keyOk] at h
theorem nall_of (I : Inv X pins σ C.H s) (hK : C.K = X.K) : ∀ (ks : List MV) (vs : List V) (us : List Value), keyOks ks = true → RepVs C ks vs → Vals vs us → NestedAll s.heap (nks ks) us
  | [], vs, us, _, h, r => by rw [h.nil_inv] at r; cases r; exact .nil
  | k :: ks, vs, us, hk, h, r => by
    obtain ⟨v, vr, rfl, h1, h2⟩ := h.cons_inv
    cases r with
    | cons r rr =>
      rw [keyOks, Bool.and_eq_true] at hk
      exact .cons (nis_of I hK k v _ hk.1 h1 r) (nall_of I hK ks vr _ hk.2 h2 rr)
end
end
def zipH : List MV → List Addr → List Value → List (NestedKey × Addr × Value)
  | k :: ks, p :: ps, u :: us => (nk k, p, u) :: zipH ks ps us
  | _, _, _ => []
theorem ents_zip {P : Program} {w : World} : ∀ (ks : List MV) (ps : List Addr) (us : List Value), keyOks ks = true → entsOf w ks ps us = (zipH ks ps us).map (entryOfKey (nestedKind P w))
  | [], ps, us, _ => rfl
  | _ :: _, [], us, _ => rfl
  | _ :: _, _ :: _, [], _ => rfl
  | k :: ks, p :: ps, u :: us, h => by
    rw [keyOks, Bool.and_eq_true] at h
    rw [entsOf, zipH, List.map_cons, ents_zip ks ps us h.2, hash_nk w k h.1]; rfl
theorem zip_keys : ∀ (ks : List MV) (ps : List Addr) (us : List Value), ks.length = ps.length → ks.length = us.length → (zipH ks ps us).map (·.1) = nks ks
  | [], ps, us, _, _ => by cases ps <;> rfl
  | _ :: _, [], us, h, _ => by simp at h
  | _ :: _, _ :: _, [], _, h => by simp at h
  | k :: ks, p :: ps, u :: us, h, h' => by
    rw [zipH, List.map_cons, nks, zip_keys ks ps us (by simpa using h) (by simpa using h')]
theorem nodup_nks {ks : List MV} (h : keyOks ks = true) (nd : (canons ks).Nodup) : (nks ks).Nodup := by
  have : ∀ ks : List MV, keyOks ks = true → (canons ks).Nodup → (nks ks).Nodup := by
    intro ks
    induction ks with
    | nil => intro _ _; exact List.nodup_nil
    | cons k ks ih =>
      intro h nd
      rw [keyOks, Bool.and_eq_true] at h
      rw [canons, List.nodup_cons] at nd
      rw [nks, List.nodup_cons]
      refine ⟨fun hm => nd.1 ?_, ih h.2 nd.2⟩
      rw [nks_map, List.mem_map] at hm
      obtain ⟨x, hx, e⟩ := hm
      have hxk : keyOk x = true := by
        have : ∀ ks : List MV, keyOks ks = true → ∀ x ∈ ks, keyOk x = true := by
          intro ks
          induction ks with
          | nil => intro _ x hx; cases hx
          | cons y ys ih =>
            intro h x hx
            rw [keyOks, Bool.and_eq_true] at h
            obtain e | e := List.mem_cons.mp hx
            · rw [e]; exact h.1
            · exact ih h.2 x e
        exact this ks h.2 x hx
      rw [← (nk_eq hxk h.1).mp e, canons_map]
      exact List.mem_map_of_mem hx
  exact this ks h nd
section
variable {X : Cx} {pins : List (Addr × Obj)} {s : Shared} {σ : L2.St} {C : RC}
theorem is_zip (I : Inv X pins σ C.H s) (hK : C.K = X.K) : ∀ (ks : List MV) (ps : List Addr) (us : List Value), keyOks ks = true → kdeps ks ≤ 8 → RepVs C ks (ps.map V.ref) → ∀ x ∈ zipH ks ps us, (nestedKind X.prog X.w).is s.heap x.1 x.2.1
  | [], ps, us, _, _, _, x, hx => by cases hx
  | _ :: _, [], us, _, _, _, x, hx => by cases hx
  | _ :: _, _ :: _, [], _, _, _, x, hx => by cases hx
  | k :: ks, p :: ps, u :: us, h, hd, r, x, hx => by
    rw [keyOks, Bool.and_eq_true] at h
    rw [kdeps] at hd
    obtain ⟨v, vr, e, r1, r2⟩ := r.cons_inv
    rw [List.map_cons] at e
    cases e
    obtain e | e := List.mem_cons.mp hx
    · subst e
      exact ⟨nis_of I hK k (.ref p) (.ref p) h.1 r1 rfl, by show (nk k).depth ≤ 8; rw [dep_nk]; omega⟩
    · exact is_zip I hK ks ps us h.2 (by omega) r2 x e
/-- the dict as the kit's rules see it -/
theorem dct_H {a : Addr} {ob : Obj} {es : Array DictEntry} {ep : Nat} {ks : List MV} {ps : List Addr} {us : List Value} (I : Inv X pins σ C.H s) (hw : C.w = X.w) (hK : C.K = X.K) (ha : C.H a = some (.ext fun h => h.get? a = some ob)) (ex : ob.ExactDict) (hd : ob.data = .dict es ep)
    (he : es.toList = entsOf C.w ks ps us) (ko : keyTs ks = true) (nd : (canons ks).Nodup) (rk : RepVs C ks (ps.map V.ref)) (lu : ks.length = us.length) : s.heap.DictOfH (nestedKind X.prog X.w) a (zipH ks ps us) := by
  rw [keyTs, Bool.and_eq_true] at ko
  have hg : s.heap.get? a = some ob := (I.hok a _ ha).1
  have lp : ks.length = ps.length := by have := rk.length; simpa using this
  refine ⟨ob, es, ep, hg, ex, hd, by rw [he, hw, ents_zip (P := X.prog) ks ps us ko.1], is_zip I hK ks ps us ko.1 (of_decide_eq_true ko.2) rk, ?_⟩
  rw [zip_keys ks ps us lp lu]
  exact nodup_nks ko.1 nd
end
theorem at_cons {K : Type} [DecidableEq K] {x : K × Addr × Value} {xs : List (K × Addr × Value)} {k : K} : atKey (x :: xs) k = if x.1 = k then some x.2 else atKey xs k := by
  unfold atKey
  rw [List.find?_cons]
  by_cases h : x.1 = k <;> simp [h]
theorem at_zip {C : RC} {k : MV} (hk : keyOk k = true) : ∀ (ks : List MV) (ps : List Addr) (us : List Value) (ds : List MV) (vs : List V), keyOks ks = true → ks.length = ps.length → RepVs C ds vs → Vals vs us → ks.length = ds.length →
    (match dlook (canons ks) ds (canon k) with
      | some d => ∃ p u v, atKey (zipH ks ps us) (nk k) = some (p, u) ∧ RelV v u ∧ RepV C d v
      | none => atKey (zipH ks ps us) (nk k) = none)
  | [], ps, us, ds, vs, _, _, _, _, _ => by
    have : zipH [] ps us = [] := by cases ps <;> rfl
    rw [this]; rfl
  | _ :: _, [], us, ds, vs, _, h, _, _, _ => by simp at h
  | k' :: ks, p :: ps, us, ds, vs, h, lp, r, rv, ld => by
    cases ds with
    | nil => simp at ld
    | cons d ds =>
      obtain ⟨v, vr, rfl, r1, r2⟩ := r.cons_inv
      cases rv with
      | cons q qq =>
        rename_i u us
        rw [keyOks, Bool.and_eq_true] at h
        rw [canons, dlook, zipH, at_cons]
        by_cases e : canon k' = canon k
        · have e' : nk k' = nk k := (nk_eq h.1 hk).mpr e
          simp only [e, if_true, e']
          exact ⟨p, u, v, rfl, q, r1⟩
        · have e' : ¬ nk k' = nk k := fun z => e ((nk_eq h.1 hk).mp z)
          have e2 : ¬ canon k' = canon k := e
          simp only [e', if_false]
          rw [if_neg (by exact e2)]
          exact at_zip hk ks ps us ds vr h.2 (by simpa using lp) r2 qq (by simpa using ld)
end Mi
set_option Elab.async false
set_option linter.all false
set_option maxRecDepth 100000
set_option maxHeartbeats 2000000
namespace Mi
open PySem PySem.Spec PyProof.Rows L2
def dcTOf (S : Sto) : MV → Option (List MV × List MV)
  | .dcT ks vs => some (ks, vs)
  | .ref n => (match S[n]? with
    | some (.dcT ks vs) => some (ks, vs)
    | _ => none)
  | _ => none
/-- a dict with tuple keys, and what stands for it -/
def RepT (C : RC) (a : Addr) (ks ds : List MV) : Prop := (a == sysModules) = false ∧ keyTs ks = true ∧ ((canons ks).Nodup) ∧ ks.length = ds.length ∧ ks.length ≤ sizeLine ∧
  ∃ (ob : Obj) (es : Array DictEntry) (ep : Nat) (ps : List Addr) (us : List Value) (kvs vs : List V),
    C.H a = some (.ext fun h => h.get? a = some ob) ∧ ob.ExactDict ∧ ob.data = .dict es ep ∧ es.toList = entsOf C.w ks ps us ∧ kvs = ps.map V.ref ∧ RepVs C ks kvs ∧ Vals vs us ∧ RepVs C ds vs
theorem dcTOf_rep {C : RC} {S : Sto} {d : MV} {v : V} {ks ds : List MV} (r : RepS C S) (h : RepV C d v) (e : dcTOf S d = some (ks, ds)) : ∃ a, v = .ref a ∧ RepT C a ks ds := by
  cases d with
  | dcT ks' ds' =>
    cases e
    rw [RepV] at h
    obtain ⟨a, rfl, fz, rest⟩ := h
    exact ⟨a, rfl, rest⟩
  | ref n =>
    rw [RepV] at h
    obtain ⟨a, rfl, ha⟩ := h
    have e : (match S[n]? with
      | some (.dcT ks vs) => some (ks, vs)
      | _ => none) = some (ks, ds) := e
    cases e0 : S[n]? with
    | none => rw [e0] at e; cases e
    | some mo =>
      rw [e0] at e
      have ro := r.ob n mo a e0 ha
      cases mo with
      | dcT ks' ds' => cases e; exact ⟨a, rfl, ro⟩
      | _ => cases e
  | _ => cases e
/-- a key of such a dict -/
def keyT : MV → Bool
  | .tup xs => keyOks xs && decide (kdeps xs + 1 ≤ 8)
  | _ => false
theorem keyT_ok {k : MV} (h : keyT k = true) : keyOk k = true ∧ kdep k ≤ 8 ∧ ∃ xs, k = .tup xs := by
  cases k with
  | tup xs =>
    rw [keyT, Bool.and_eq_true] at h
    exact ⟨h.1, of_decide_eq_true h.2, xs, rfl⟩
  | _ => cases h
section
variable {X : Cx}
theorem room_n {A : Around} (hu : A.units + 65 < cLine) : (nestedKind P w).room A.in1 := by
  show A.units + 1 + 8 < cLine
  omega
/-- the key and the dict in the heap -/
theorem look_T {pins : List (Addr × Obj)} {s : Shared} {σ : L2.St} {C : RC} {S : Sto} {x y : V} {v u : Value} {d1 d2 : MV} {ks ds : List MV} (I : Inv X pins σ C.H s) (rx : RelV x v) (ry : RelV y u) (hw : C.w = X.w) (hK : C.K = X.K) (r : RepS C S) (h1 : RepV C d1 x) (h2 : RepV C d2 y) (e : dcTOf S d2 = some (ks, ds)) (hk : keyT d1 = true) :
    ∃ (a b : Addr) (ps : List Addr) (us : List Value) (vs : List V), v = .ref a ∧ u = .ref b ∧ x = .ref a ∧ y = .ref b ∧ (b == sysModules) = false ∧ (nestedKind X.prog X.w).is s.heap (nk d1) a ∧ s.heap.DictOfH (nestedKind X.prog X.w) b (zipH ks ps us) ∧
      (match dlook (canons ks) ds (canon d1) with
        | some d => ∃ p u v, atKey (zipH ks ps us) (nk d1) = some (p, u) ∧ RelV v u ∧ RepV C d v
        | none => atKey (zipH ks ps us) (nk d1) = none) := by
  obtain ⟨k1, k2, xs, rfl⟩ := keyT_ok hk
  obtain ⟨b, rfl, sm, ko, nd, ll, lz, ob, es, ep, ps, us, kvs, vs, ha, ex, hd, he, hkv, rk, rv, rd⟩ := dcTOf_rep r h2 e
  have h1' := h1
  rw [RepV] at h1'
  obtain ⟨a, ws, rfl, _⟩ := h1'
  cases rx
  cases ry
  subst hkv
  have lu : ks.length = us.length := by rw [ll, rd.length, rv.length]
  refine ⟨a, b, ps, us, vs, rfl, rfl, rfl, rfl, sm, ⟨nis_of I hK _ _ _ k1 h1 rfl, by show (nk (MV.tup xs)).depth ≤ 8; rw [dep_nk]; exact k2⟩, dct_H I hw hK ha ex hd he ko nd rk lu, ?_⟩
  rw [keyTs, Bool.and_eq_true] at ko
  exact at_zip k1 ks ps us ds vs ko.1 (by have := rk.length; simpa using this) rd rv ll
/-- d[k] -/
def idxTM (c x : MV) (S : Sto) : R MV := match dcTOf S c with
  | some (ks, ds) => if keyT x then (match dlook (canons ks) ds (canon x) with
    | some d => .ok d S
    | none => .stk) else .stk
  | none => .stk
theorem pu_ixT : Pure2 idxTM := by
  intro a b S c d S' h
  unfold idxTM at h
  split at h
  · split at h
    · split at h <;> cases h
    · cases h
  · cases h
theorem ixTM (hu : X.A.units + 65 < cLine) : IxR X (rOf X idxTM) := by
  intro value slice pins s σ H x y v u Q I rx ry rof hs
  obtain ⟨C, S, d1, d2, rfl, hw, hK, r, h1, h2, a, S', e, q⟩ := rof
  unfold idxTM at e
  split at e
  · rename_i ks ds e0
    split at e
    · rename_i hk
      split at e
      · rename_i d ed
        cases e
        obtain ⟨a, b, ps, us, vs, rfl, rfl, rfl, rfl, sm, ik, hm, at'⟩ := look_T I ry rx hw hK r h2 h1 e0 hk
        rw [ed] at at'
        obtain ⟨p, u, w', hp, rw', rd⟩ := at'
        exact tail_any hm.typeIs PySem.F.slot_dict_getitem.lookup (wpAny_getItem_heap (room_n hu) ik hm hp ⟨w', C.H, I.tok _, rw', q C Grow.refl r w' rd⟩) hs
      · cases e
    · cases e
  · cases e
end
end Mi
set_option Elab.async false
set_option linter.all false
set_option maxRecDepth 100000
set_option maxHeartbeats 2000000
namespace Mi
open PySem PySem.Spec PyProof.Rows L2
theorem zip_app {k : MV} {a : Addr} {u : Value} : ∀ (ks : List MV) (ps : List Addr) (us : List Value), ks.length = ps.length → ks.length = us.length → zipH ks ps us ++ [(nk k, a, u)] = zipH (ks ++ [k]) (ps ++ [a]) (us ++ [u])
  | [], ps, us, h, h' => by
    have : ps = [] := List.eq_nil_of_length_eq_zero (by simpa using h.symm)
    have : us = [] := List.eq_nil_of_length_eq_zero (by simpa using h'.symm)
    subst_vars; rfl
  | _ :: _, [], us, h, _ => by simp at h
  | _ :: _, _ :: _, [], _, h => by simp at h
  | k' :: ks, p :: ps, u' :: us, h, h' => by
    rw [zipH, List.cons_append, zip_app ks ps us (by simpa using h) (by simpa using h')]; rfl
theorem keyOks_app : ∀ (ks : List MV) (k : MV), keyOks (ks ++ [k]) = (keyOks ks && keyOk k)
  | [], k => by simp [keyOks]
  | x :: ks, k => by rw [List.cons_append, keyOks, keyOks_app ks k, keyOks, Bool.and_assoc]
theorem kdeps_app : ∀ (ks : List MV) (k : MV), kdeps (ks ++ [k]) = max (kdeps ks) (kdep k)
  | [], k => by simp [kdeps]
  | x :: ks, k => by rw [List.cons_append, kdeps, kdeps_app ks k, kdeps]; omega
theorem canons_app (ks : List MV) (k : MV) : canons (ks ++ [k]) = canons ks ++ [canon k] := by rw [canons_map, canons_map, List.map_append]; rfl
theorem canons_len (ks : List MV) : (canons ks).length = ks.length := by rw [canons_map, List.length_map]
theorem dlook_mem {κ : Type} [DecidableEq κ] {k : κ} : ∀ (ks : List κ) (ds : List MV), ks.length = ds.length → ((dlook ks ds k).isSome ↔ k ∈ ks)
  | [], ds, _ => by cases ds <;> simp [dlook]
  | _ :: _, [], bad => by simp at bad
  | k' :: ks, d :: ds, h => by
    rw [dlook]
    by_cases e : k' = k
    · rw [if_pos e]; simp [e]
    · rw [if_neg e, dlook_mem ks ds (by simpa using h)]; simp [Ne.symm e]
end Mi
set_option Elab.async false
set_option linter.all false
set_option maxRecDepth 100000
set_option maxHeartbeats 4000000
namespace Mi
open PySem PySem.Spec PyProof.Rows L2
end Mi
set_option Elab.async false
set_option linter.all false
set_option maxRecDepth 100000
set_option maxHeartbeats 4000000
namespace Mi
open PySem PySem.Spec PyProof.Rows L2
def mkDT (fr : Bool) (ks ds : List MV) (S : Sto) : R MV := if fr then .ok (.dcT ks ds) S else .ok (.ref S.length) (S ++ [.dcT ks ds])
def ob0 : Obj := { cls := .type "dict", data := .dict #[] }
/-- the filled dict, told -/
theorem dictT_end {W : WX} {σ : L2.St} {C0 C : RC} {S0 S : Sto} {D : Addr} {Q : VK} {fr : Bool} {ks ds : List MV} (r0 : RepS C0 S0) (hD : C0.H D = none) (g : Grow C0 (C.rb C0)) (hb : ∀ a ∈ C0.bad, a ∈ C.bad) (rs : RepS C S) (hbD : D ∈ C.bad)
    (rt : RepT C D ks ds) (h : Wants W σ C0 (mkDT fr ks ds S) (fun d _ C' => ∀ v, RepV C' d v → Q v C'.H)) : Q (.ref D) C.H := by
  have nD : D ∉ C.ι := (rs.bad D hbD).1
  have nb : D ∉ C0.bad := fun m => (r0.bad D m).2 hD
  obtain ⟨sm, ko, nd, l, z, ob, es, ep, ps, us, kvs, vs, q, ex, hd, he, hk, tk, rv, t⟩ := rt
  cases fr with
  | true =>
    have h : Wants W σ C0 (.ok (.dcT ks ds) S) (fun d _ C' => ∀ v, RepV C' d v → Q v C'.H) := h
    refine h (C.rb C0) g (rs.rb hb) (.ref D) ?_
    rw [RepV]
    exact ⟨D, rfl, ⟨nD, nb⟩, sm, ko, nd, l, z, ob, es, ep, ps, us, kvs, vs, q, ex, hd, he, hk, tk.trn (Tr.rb (C0 := C0) hb), rv, t.trn (Tr.rb (C0 := C0) hb)⟩
  | false =>
    have h : Wants W σ C0 (.ok (.ref S.length) (S ++ [.dcT ks ds])) (fun d _ C' => ∀ v, RepV C' d v → Q v C'.H) := h
    obtain ⟨g2, rs2, rv2⟩ := adopt_ok (mo := .dcT ks ds) r0 hD g hb rs hbD fun C' tr e =>
      ⟨sm, ko, nd, l, z, ob, es, ep, ps, us, kvs, vs, e.trans q, ex, hd, by rw [tr.w]; exact he, hk, tk.trn tr, rv, t.trn tr⟩
    exact h _ g2 rs2 _ rv2
theorem ext0 {P : Program} {w : World} {H : Hp} {h : Heap} {p : Addr} {ob : Obj} (e : h.get? p = some ob) : ObjOk P w H h p (.ext fun h => h.get? p = some ob) := ⟨e, ⟨_, e⟩, fun _ _ q k => k _ q⟩
section
variable {X : Cx} {W : WX} {k v : Expr} {mk mv : ME} {pos : Pos}
/-- {}, to be a dict with tuple keys -/
theorem se_dnewT {fr : Bool} : SE X W (.Dict [] [] pos) (fun _ S => mkDT fr [] [] S) := by
  refine ⟨fun pins s σ H Q I ⟨C, ρ, S, e, sv, q⟩ => ?_⟩
  subst e
  have hn : C.H s.heap.objs.size = none := I.hok.fresh Nat.le.refl
  have hg : (s.heap.push ob0).get? s.heap.objs.size = some ob0 := Heap.get?_push_size _ rfl
  refine wpAny_Dict_empty ⟨.ref s.heap.objs.size, _, I.laid (a := s.heap.objs.size) (o := .ext fun h => h.get? s.heap.objs.size = some ob0) (t' := s.toks) (fun _ _ q => Heap.get?_push_of_some _ q) (Nat.le_refl _) (ext0 hg), rfl, ?_⟩
  refine dictT_end (C := C.fillO s.heap.objs.size (.ext fun h => h.get? s.heap.objs.size = some ob0)) (fr := fr) (ks := []) (ds := []) sv.rs hn (rb_step (Grow.refl (C := C)) (fun _ m => m) (Grow.fillO hn)) (fun a m => List.mem_cons_of_mem _ m) (sv.rs.fillO hn) List.mem_cons_self ?_ q
  exact ⟨beq_eq_false_iff_ne.mpr (Ne.symm (Nat.ne_of_lt I.big)), rfl, List.nodup_nil, rfl, Nat.zero_le _, ob0, #[], 0, [], [], [], [], upd_same, ⟨rfl, rfl, rfl⟩, rfl, rfl, rfl, .nil, .nil, .nil⟩
end
end Mi
set_option Elab.async false
set_option linter.all false
set_option maxRecDepth 100000
set_option maxHeartbeats 4000000
namespace Mi
open PySem PySem.Spec PyProof.Rows L2
section
variable {X : Cx} {W : WX} {a b e : Expr} {ma mb me : ME} {pos : Pos} {x : Str}
theorem se_ixT (hu : X.A.units + 65 < cLine) (hs : PlainIx b) (ha : SE X W a ma) (hb : SE X W b mb) (hf : Pure2 idxTM) : SE X W (.Subscript a b pos) (mOp idxTM ma mb) :=
  (pe_ix (ixTM hu) ha hb hs).imp fun σ H Q h => op_imp hf h
end
end Mi
set_option Elab.async false
set_option linter.all false
set_option maxRecDepth 100000
set_option maxHeartbeats 4000000
namespace Mi
open PySem PySem.Spec PyProof.Rows L2
end Mi
set_option Elab.async false
set_option linter.all false
set_option maxRecDepth 100000
set_option maxHeartbeats 4000000
namespace Mi
open PySem PySem.Spec PyProof.Rows L2
end Mi
set_option Elab.async false
set_option linter.all false
set_option maxRecDepth 100000
set_option maxHeartbeats 4000000
namespace Mi
open PySem PySem.Spec PyProof.Rows L2
end Mi
set_option Elab.async false
set_option linter.all false
set_option maxRecDepth 100000
set_option maxHeartbeats 4000000
namespace Mi
open PySem PySem.Spec PyProof.Rows L2
end Mi
set_option Elab.async false
set_option linter.all false
set_option maxRecDepth 100000
set_option maxHeartbeats 4000000
namespace Mi
open PySem PySem.Spec PyProof.Rows L2
end Mi
set_option Elab.async false
set_option linter.all false
set_option maxRecDepth 100000
set_option maxHeartbeats 4000000
namespace Mi
open PySem PySem.Spec PyProof.Rows L2
end Mi
set_option Elab.async false
set_option linter.all false
set_option maxRecDepth 100000
set_option maxHeartbeats 4000000
namespace Mi
open PySem PySem.Spec PyProof.Rows L2
mutual
def imm : MV → Bool
  | .non | .bl _ | .int _ | .str _ => true
  | .tup xs => imms xs
  | _ => false
def imms : List MV → Bool
  | [] => true
  | x :: xs => imm x && imms xs
end
def immX : MV → Bool
  | .obj _ _ xs => imms xs
  | .non => true
  | _ => false
def viewF (m : MF) : MF := fun ds S => match ds.mapM (frz 0 S 8) with
  | some es => (match m es [] with
    | .ok d _ => if imm d then .ok d S else .stk
    | .exc c d _ => if immX d then .exc c d S else .stk
    | .stk => .stk)
  | none => .stk
/-- what was locked meanwhile is as it was -/
def fixH (C : RC) (H : Hp) : Hp := fun a => if a ∈ C.ι then C.H a else H a
def RC.fix (C C0 : RC) : RC := { C with H := fixH C0 C.H, ι := C0.ι, bad := C0.bad }
theorem RepS.cut0 {C : RC} {S : Sto} (r : RepS C S) : RepS (C.cut 0) [] := by
  refine ⟨rfl, List.nodup_nil, fun a m => ⟨(by intro z; cases z), (r.bad a m).2⟩, fun n o a e _ => by simp at e⟩
theorem fixH_in {C : RC} {H : Hp} {a : Addr} (h : a ∈ C.ι) : fixH C H a = C.H a := if_pos h
theorem fixH_out {C : RC} {H : Hp} {a : Addr} (h : a ∉ C.ι) : fixH C H a = H a := if_neg h
/-- cells: kept, or locked -/
theorem kp_cell {C C' : RC} (g : Grow (C.cut 0) C') {a : Addr} {o : HO} (h : C.H a = some o) : C'.H a = some o ∨ (∃ kvs, o = .dK kvs) ∧ ∃ ob, C'.H a = some (.frz ob o) := by
  rcases g.kp a o (by intro m; cases m) h with k | ⟨_, k1, k2⟩
  · exact .inl k
  · exact .inr ⟨k1, k2⟩
theorem fix_back {C C' : RC} {S S' : Sto} (r : RepS C S) (g : Grow (C.cut 0) C') (r' : RepS C' S') : Grow C (C'.fix C) ∧ RepS (C'.fix C) S := by
  have kk : ∀ a o, a ∉ C.ι → C.H a = some o → Kp C (C'.fix C) a o := fun a o n e => by
    have h : (C'.fix C).H a = C'.H a := fixH_out n
    rcases g.kp a o (by intro m; cases m) e with k | ⟨nb, k1, ob, k2⟩
    · exact .inl (h.trans k)
    · exact .inr ⟨nb, k1, ob, h.trans k2⟩
  have kx : ∀ a o, a ∉ C.ι → C.H a = some o → (∀ kvs, o ≠ .dK kvs) → (C'.fix C).H a = some o := fun a o n e h => (kk a o n e).exact (.inl h)
  have na : ∀ {a u}, C.H a = some u → ((∃ xs, u = .tup xs) ∨ ∃ ob y, u = .frz ob y) → a ∉ C.ι := fun {a u} e k m => by
    obtain ⟨u', e', k1, k2, _⟩ := r.kind m
    rw [e] at e'; cases e'
    rcases k with ⟨xs, k⟩ | ⟨ob, y, k⟩
    · exact k1 _ k
    · exact k2 _ _ k
  have tr : Tr C.ι.length C (C'.fix C) := by
    refine ⟨g.w, g.K, fun a vs q => ?_, fun a u n q => ⟨n, kk a u n.1 q⟩, fun a o u q => kx a _ (na q (.inr ⟨_, _, rfl⟩)) q (fun _ z => by cases z), fun n a hn q => q⟩
    rw [show (C'.fix C).K = C.K from g.K]
    rcases q with (q | ⟨o, q⟩) | q
    · exact .inl (.inl (kx a _ (na q (.inl ⟨_, rfl⟩)) q (fun _ z => by cases z)))
    · exact .inl (.inr ⟨o, kx a _ (na q (.inr ⟨_, _, rfl⟩)) q (fun _ z => by cases z)⟩)
    · exact .inr q
  refine ⟨⟨g.w, g.K, fun a m => .inl m, fun a m => m, kk, fun a m => .inl m, rfl, Nat.le_refl _, Nat.le_refl _⟩, ⟨r.len, r.nd, fun a m => ⟨(r.bad a m).1, ?_⟩, fun n o a e1 e2 => ?_⟩⟩
  · cases e : C.H a with
    | none => exact absurd e (r.bad a m).2
    | some o => exact (kk a o (r.bad a m).1 e).nix
  · refine (r.ob n o a e1 e2).trn tr ?_
    obtain ⟨u, hu, _⟩ := (r.ob n o a e1 e2).kind
    exact fixH_in (List.mem_of_getElem? e2)
mutual
theorem imm_fix {C C' : RC} {S : Sto} (r : RepS C S) (g : Grow (C.cut 0) C') : ∀ (d : MV) (v : V), imm d = true → RepV C' d v → RepV (C'.fix C) d v
  | .non, v, _, h => by rw [RepV] at h ⊢; exact h
  | .bl _, v, _, h => by rw [RepV] at h ⊢; exact h
  | .int _, v, _, h => by rw [RepV] at h ⊢; exact h
  | .str _, v, _, h => by rw [RepV] at h ⊢; exact h
  | .tup xs, v, hi, h => by
    rw [RepV] at h ⊢
    obtain ⟨a, vs, e, q, t⟩ := h
    refine ⟨a, vs, e, ?_, imms_fix r g xs vs (by simpa [imm] using hi) t⟩
    have out : ∀ u, C'.H a = some u → ((∃ xs, u = .tup xs) ∨ ∃ ob ys, u = .frz ob (.tup ys)) → a ∉ C.ι := fun u e k m => by
      obtain ⟨u', e', k1, k2, _⟩ := r.kind m
      rcases kp_cell g e' with z | ⟨⟨kvs, z1⟩, ob, z2⟩
      · rw [z] at e; cases e
        rcases k with ⟨_, k⟩ | ⟨_, _, k⟩
        · exact k1 _ k
        · exact k2 _ _ k
      · rw [z2] at e; cases e
        rcases k with ⟨_, k⟩ | ⟨_, _, k⟩
        · cases k
        · cases k; cases z1
    rcases q with (q | ⟨o, q⟩) | q
    · exact .inl (.inl ((fixH_out (out _ q (.inl ⟨_, rfl⟩))).trans q))
    · exact .inl (.inr ⟨o, (fixH_out (out _ q (.inr ⟨_, _, rfl⟩))).trans q⟩)
    · exact .inr q
  | .lst _, _, hi, _ => by simp [imm] at hi
  | .dct _ _, _, hi, _ => by simp [imm] at hi
  | .dcT _ _, _, hi, _ => by simp [imm] at hi
  | .obj _ _ _, _, hi, _ => by simp [imm] at hi
  | .ref _, _, hi, _ => by simp [imm] at hi
  | .kls _, _, hi, _ => by simp [imm] at hi
theorem imms_fix {C C' : RC} {S : Sto} (r : RepS C S) (g : Grow (C.cut 0) C') : ∀ (ds : List MV) (vs : List V), imms ds = true → RepVs C' ds vs → RepVs (C'.fix C) ds vs
  | [], vs, _, h => by rw [h.nil_inv]; exact .nil
  | d :: ds, vs, hi, h => by
    obtain ⟨v, vr, rfl, h1, h2⟩ := h.cons_inv
    rw [imms, Bool.and_eq_true] at hi
    exact .cons (imm_fix r g d v hi.1 h1) (imms_fix r g ds vr hi.2 h2)
end
/-- the heap behind: the same state, held -/
theorem hok_fix {P : Program} {w : World} {C C' : RC} {S : Sto} {h : Heap} (r : RepS C S) (g : Grow (C.cut 0) C') (ok : HOk P w C'.H h) : HOk P w (fixH C C'.H) h := by
  have own : ∀ b a, C'.H b = some (.own a) → fixH C C'.H b = some (.own a) := fun b a q => by
    refine (fixH_out fun m => ?_).trans q
    obtain ⟨u, hu, _, _, k3, _⟩ := r.kind m
    rcases kp_cell g hu with z | ⟨_, ob, z⟩
    · rw [q] at z; cases z; exact k3 _ rfl
    · rw [q] at z; cases z
  have tup : ∀ b xs, C'.H b = some (.tup xs) → fixH C C'.H b = some (.tup xs) := fun b xs q => by
    refine (fixH_out fun m => ?_).trans q
    obtain ⟨u, hu, k1, _⟩ := r.kind m
    rcases kp_cell g hu with z | ⟨_, ob, z⟩
    · rw [q] at z; cases z; exact k1 _ rfl
    · rw [q] at z; cases z
  intro a o e
  by_cases m : a ∈ C.ι
  · rw [fixH_in m] at e
    rcases kp_cell g e with z | ⟨_, ob, z⟩
    · exact (ok a o z).stay (fun _ _ _ q => q) (fun b q => own b a q) tup
    · exact (ok a _ z).2.stay (fun _ _ _ q => q) (fun b q => own b a q) tup
  · rw [fixH_out m] at e
    exact (ok a o e).stay (fun _ _ _ q => q) (fun b q => own b a q) tup
theorem un_fix {fs : List Addr} {C C' : RC} {S : Sto} {h h' : Heap} (r : RepS C S) (u : Un fs [] C.H C'.H h h') : Un fs [] C.H (fixH C C'.H) h h' := by
  have out : ∀ b, C.H b = none → b ∉ C.ι := fun b e m => by
    obtain ⟨x, hx, _⟩ := r.kind m
    rw [e] at hx; cases hx
  refine ⟨u.keep, u.slot, fun b o e n hx => (fixH_out (out b n)).trans (u.free b o e n hx), u.there, fun b xs e => ?_, fun b o x e => ?_, fun b ps e => ?_⟩
  · by_cases m : b ∈ C.ι
    · exact (fixH_in m).trans e
    · exact (fixH_out m).trans (u.tups b xs e)
  · by_cases m : b ∈ C.ι
    · exact (fixH_in m).trans e
    · exact (fixH_out m).trans (u.frzs b o x e)
  · by_cases m : b ∈ C.ι
    · exact ⟨#[], by rw [Array.append_empty]; exact (fixH_in m).trans e⟩
    · obtain ⟨more, q⟩ := u.tbls b ps e
      exact ⟨more, (fixH_out m).trans q⟩
theorem ub_fix {fs : List Addr} {C C' : RC} {S : Sto} {h B h' : Heap} (r : RepS C S) (u : UB fs C.H C'.H h B h') : UB fs C.H (fixH C C'.H) h B h' := by
  have out : ∀ b, C.H b = none → b ∉ C.ι := fun b e m => by
    obtain ⟨x, hx, _⟩ := r.kind m
    rw [e] at hx; cases hx
  refine ⟨u.keep, u.slot, fun b o e n => (fixH_out (out b n)).trans (u.free b o e n), u.there, fun b xs e => ?_, fun b o x e => ?_, fun b ps e => ?_⟩
  · by_cases m : b ∈ C.ι
    · exact (fixH_in m).trans e
    · exact (fixH_out m).trans (u.tups b xs e)
  · by_cases m : b ∈ C.ι
    · exact (fixH_in m).trans e
    · exact (fixH_out m).trans (u.frzs b o x e)
  · by_cases m : b ∈ C.ι
    · exact ⟨#[], by rw [Array.append_empty]; exact (fixH_in m).trans e⟩
    · obtain ⟨more, q⟩ := u.tbls b ps e
      exact ⟨more, (fixH_out m).trans q⟩
theorem view_ok {P : Program} {w : World} {K : PySem.W.Frag} {mg : Str → Option Value} {base : Heap} {k n : Nat} {f : Addr} {fd : FuncData} {ps : List Str} {m : MF} (F : FnOk P w K mg base (L2.CX P w) k f fd ps (spM w K n m)) :
    FnOk P w K mg base (L2.CX P w) k f fd ps (spM w K n (viewF m)) := by
  have key : ∀ vs H Q E, spM w K n (viewF m) vs H Q E → ∃ (C : RC) (S : Sto), C.H = H ∧ RepS C S ∧
      spM w K n m vs H (fun v H' => ∃ (C' : RC) (S' : Sto), C'.H = H' ∧ Grow (C.cut 0) C' ∧ RepS C' S' ∧ Q v (fixH C H')) (fun cls dx H' => ∃ (C' : RC) (S' : Sto), C'.H = H' ∧ Grow (C.cut 0) C' ∧ RepS C' S' ∧ (∀ a, H' a = none → fixH C H' a = none) ∧ E cls dx (fixH C H')) := by
    rintro vs H Q E ⟨hl, C, S, ds, e, hw, hK, r, t, q⟩
    refine ⟨C, S, e, r, hl, C.cut 0, [], ?_⟩
    unfold viewF at q
    cases e0 : ds.mapM (frz 0 S 8) with
    | none => rw [e0] at q; exact q.elim
    | some es =>
      rw [e0] at q
      refine ⟨es, e, hw, hK, r.cut0, mapM_rep (fun d v d' h1 h2 => frz_rep r 8 d v d' h1 h2) t e0, ?_⟩
      dsimp only at q
      cases e1 : m es [] with
      | stk => rw [e1] at q; exact q
      | ok d S' =>
        rw [e1] at q
        dsimp only at q
        intro C' g r' v rv
        split at q
        · rename_i hi
          obtain ⟨h1, h2⟩ := fix_back r g r'
          exact ⟨C', S', rfl, g, r', q (C'.fix C) h1 h2 v (imm_fix r g d v hi rv)⟩
        · exact q.elim
      | exc c d S' =>
        rw [e1] at q
        dsimp only at q
        intro C' cls dx g r' xr
        split at q
        · rename_i hi
          obtain ⟨h1, h2⟩ := fix_back r g r'
          refine ⟨C', S', rfl, g, r', fun a ha => ?_, q (C'.fix C) cls dx h1 h2 ⟨xr.1.trans (by rw [show (C'.fix C).K = C'.K from rfl]), ?_⟩⟩
          · refine (fixH_out fun m => ?_).trans ha
            obtain ⟨u, hu, _⟩ := r.kind m
            rcases kp_cell g hu with z | ⟨_, ob, z⟩ <;> (rw [ha] at z; cases z)
          · rcases xr.2 with z | ⟨a, f, d', v, ed, e2, q2, t2⟩
            · exact .inl z
            · subst ed
              have hi' : imm d' = true := by simpa [immX, imms] using hi
              refine .inr ⟨a, f, d', v, rfl, e2, (fixH_out fun m => ?_).trans q2, imm_fix r g d' v hi' t2⟩
              obtain ⟨u, hu, _, _, _, k4⟩ := r.kind m
              rcases kp_cell g hu with z | ⟨_, ob, z⟩
              · rw [q2] at z; cases z; exact k4 _ rfl
              · rw [q2] at z; cases z
        · exact q.elim
  refine ⟨fun vs H Q E q => ?_, fun A outer s H args us vs Q E hr he hb hv hs => ?_⟩
  · obtain ⟨C, S, _, _, q'⟩ := key vs H Q E q
    exact F.len vs H _ _ q'
  · obtain ⟨C, S, eC, r, q'⟩ := key vs H Q E hs
    subst eC
    refine codeAny_mono (F.run A outer s C.H args us vs _ _ hr he hb hv q') fun res s' h => ?_
    cases res with
    | error x =>
      obtain ⟨a, B, H', cls, d, e1, fl, ok, ub, hn, os, gb, C', S', eH, g, r', fr, e⟩ := h
      subst eH
      exact ⟨a, B, fixH C C'.H, cls, d, e1, fl, hok_fix r g ok, ub_fix r ub, fr a hn, os, gb, e⟩
    | ok fin =>
      cases fin with
      | ret u =>
        obtain ⟨v, H', os, gb, un, ok, rv, C', S', eH, g, r', e⟩ := h
        subst eH
        exact ⟨v, fixH C C'.H, os, gb, un_fix r un, hok_fix r g ok, rv, e⟩
      | _ => exact h.elim
end Mi
set_option Elab.async false
set_option linter.all false
set_option maxRecDepth 100000
set_option maxHeartbeats 4000000
namespace Mi
open PySem PySem.Spec PyProof.Rows L2
/-- of that type, with no dict of its own -/
def IsX (X : Cx) (H : Hp) (x : V) (T : String) : Prop := ∀ (pins : List (Addr × Obj)) (s : Shared) (σ : L2.St) (v : Value), Inv X pins σ H s → RelV x v → s.TypeIs v T ∧ ∀ b, v = .ref b → ∃ ob, s.heap.get? b = some ob ∧ ob.dict = none
def tBx0 (X : Cx) (T : String) (r : V → List V → Hp → VK → Prop) (to : TE) : TE := fun σ H Q => to σ H fun x H1 => IsX X H1 x T ∧ r x [] H1 Q
def tBx (X : Cx) (T : String) (r : V → List V → Hp → VK → Prop) (to : TE) (t : TA) : TE := fun σ H Q => to σ H fun x H1 => IsX X H1 x T ∧ t σ H1 fun xs H2 => r x xs H2 Q
/-- the call o.m(..) written plainly -/
structure Mth (X : Cx) (o : Expr) (name : Str) (apos : Pos) (es : List Expr) (cpos : Pos) : Prop where
  base : attributeBase o name X.env (eval o X.env) = eval o X.env
  few : ((backTo cpos (starEach es X.env)).all (fun x => !x.1) && (backToKw cpos (keywordEach [] X.env)).all (fun x => x.1.isSome) &&
    decide (es.length + ([] : List Keyword).length + (if ([] : List Keyword).isEmpty then 0 else 1) < 30)) = true
  line : (apos.endLine == cpos.line : Bool) = true
section
variable {X : Cx} {o e : Expr} {es : List Expr} {to : TE} {t : TA} {name : Str} {apos cpos : Pos} {T id : String} {r : V → List V → Hp → VK → Prop}
theorem pe_bx0 (pa : PlainAttrs T) (slot : Slot T name id) (hty : typeOf (.builtin id) = pure (.type "method_descriptor")) (hm : MtR X id r) (ho : PE X o to) (M : Mth X o name apos [] cpos) :
    PE X (.Call (.Attribute o name apos) [] [] cpos) (tBx0 X T r to) := by
  refine ⟨fun pins s σ H Q J g => ?_⟩
  refine wpAny_Call_method0_late M.base M.line (thn (ho.run pins s σ H _ J g) fun v s1 q => ?_)
  obtain ⟨x, H1, I1, r1, ix, q1⟩ := q
  have k := ix pins s1 σ v I1 r1
  exact ⟨T, id, pa, slot, hty, k.1, k.2, Calls.callWith_builtin rfl (PySem.evalArgs_none (hm pins s1 σ H1 x [] v [] Q I1 r1 .nil q1))⟩
theorem pe_bx (pa : PlainAttrs T) (slot : Slot T name id) (hty : typeOf (.builtin id) = pure (.type "method_descriptor")) (hm : MtR X id r) (ho : PE X o to) (ha : PA X (e :: es) t) (M : Mth X o name apos (e :: es) cpos)
    (hs : starEach (e :: es) X.env = (false, eval e X.env) :: starEach es X.env) (hp : (backTo cpos (starEach es X.env)).any (·.1) = false) :
    PE X (.Call (.Attribute o name apos) (e :: es) [] cpos) (tBx X T r to t) := by
  refine ⟨fun pins s σ H Q J g => ?_⟩
  refine wpAny_Call_method_late M.base M.few M.line rfl (thn (ho.run pins s σ H _ J g) fun v s1 q => ?_)
  obtain ⟨x, H1, I1, r1, ix, q1⟩ := q
  have k := ix pins s1 σ v I1 r1
  refine ⟨T, id, pa, slot, hty, k.1, k.2, ?_⟩
  have run := ha.run cpos pins s1 σ H1 _ I1 q1
  rw [hs] at run ⊢
  refine Calls.callWith_builtin (by show (false || (backTo cpos (starEach es X.env)).any (·.1)) = false; rw [hp]; rfl) (Calls.evalArgs_plain (thn run fun us s2 q => ?_))
  obtain ⟨vs, H2, I2, r2, q2⟩ := q
  exact hm pins s2 σ H2 x vs v us Q I2 r1 r2 q2
end
/-- a method over data and the store -/
abbrev MM := MV → List MV → Sto → R MV
def rMM (X : Cx) (f : MM) : V → List V → Hp → VK → Prop := fun x xs H Q => ∃ C S d ds, C.H = H ∧ C.w = X.w ∧ C.K = X.K ∧ RepS C S ∧ RepV C d x ∧ RepVs C ds xs ∧ ∃ a S', f d ds S = .ok a S' ∧ ∀ C', Grow C C' → RepS C' S' → ∀ v, RepV C' a v → Q v C'.H
def PureM (f : MM) : Prop := ∀ d ds S c e S', f d ds S ≠ .exc c e S'
/-- the receiver's kind, seen on the data -/
def KindM (X : Cx) (kind : Sto → MV → Bool) (T : String) : Prop := ∀ (C : RC) (S : Sto) (d : MV) (v : V), C.w = X.w → C.K = X.K → RepS C S → RepV C d v → kind S d = true → IsX X C.H v T
def mBM (kind : Sto → MV → Bool) (f : MM) (o : ME) (m : MA) : ME := fun ρ S => (o ρ S).bind fun d S1 => if kind S1 d then (m ρ S1).bind fun ds S2 => f d ds S2 else .stk
section
variable {X : Cx} {W : WX} {o e : Expr} {es : List Expr} {mo : ME} {ma : MA} {name : Str} {apos cpos : Pos} {T id : String} {f : MM} {kind : Sto → MV → Bool}
theorem mm_end {C : RC} {S : Sto} {σ : L2.St} {d : MV} {ds : List MV} {Q : VK} (hf : PureM f) (q : Wants W σ C (f d ds S) fun a _ C' => ∀ v, RepV C' a v → Q v C'.H) :
    ∃ a S', f d ds S = .ok a S' ∧ ∀ C', Grow C C' → RepS C' S' → ∀ v, RepV C' a v → Q v C'.H := by
  cases e : f d ds S with
  | ok a S' => rw [e] at q; exact ⟨a, S', rfl, q⟩
  | exc c x S' => exact absurd e (hf _ _ _ _ _ _)
  | stk => rw [e] at q; exact q.elim
theorem se_bx (pa : PlainAttrs T) (slot : Slot T name id) (hty : typeOf (.builtin id) = pure (.type "method_descriptor")) (hm : MtR X id (rMM X f)) (hf : PureM f) (hk : KindM X kind T) (ho : SE X W o mo) (ha : SA X W (e :: es) ma) (M : Mth X o name apos (e :: es) cpos)
    (hs : starEach (e :: es) X.env = (false, eval e X.env) :: starEach es X.env := by rfl) (hp : (backTo cpos (starEach es X.env)).any (·.1) = false := by rfl) :
    SE X W (.Call (.Attribute o name apos) (e :: es) [] cpos) (mBM kind f mo ma) :=
  (pe_bx pa slot hty hm ho ha M hs hp).imp fun σ H Q ⟨C, ρ, S, e, s, q⟩ => by
    subst e
    refine tE.bind s q fun d S1 C1 v s1 g1 r1 q1 => ?_
    split at q1
    · rename_i hkd
      refine ⟨hk C1 S1 d v s1.w s1.K s1.rs r1 hkd, ?_⟩
      refine tA.bind s1 q1 fun ds S2 C2 vs s2 g2 r2 q2 => ?_
      exact ⟨C2, S2, d, ds, rfl, s2.w, s2.K, s2.rs, r1.grow g2 s1.rs, r2, mm_end hf q2⟩
    · exact q1.elim
theorem se_bx0 (pa : PlainAttrs T) (slot : Slot T name id) (hty : typeOf (.builtin id) = pure (.type "method_descriptor")) (hm : MtR X id (rMM X f)) (hf : PureM f) (hk : KindM X kind T) (ho : SE X W o mo) (M : Mth X o name apos [] cpos) :
    SE X W (.Call (.Attribute o name apos) [] [] cpos) (mBM kind f mo mNil) :=
  (pe_bx0 pa slot hty hm ho M).imp fun σ H Q ⟨C, ρ, S, e, s, q⟩ => by
    subst e
    refine tE.bind s q fun d S1 C1 v s1 g1 r1 q1 => ?_
    split at q1
    · rename_i hkd
      refine ⟨hk C1 S1 d v s1.w s1.K s1.rs r1 hkd, ?_⟩
      have q2 : Wants W σ C1 (f d [] S1) _ := q1
      exact ⟨C1, S1, d, [], rfl, s1.w, s1.K, s1.rs, r1, .nil, mm_end hf q2⟩
    · exact q1.elim
def kLst (S : Sto) (d : MV) : Bool := (lstOf S d).isSome
def kDct (S : Sto) (d : MV) : Bool := (dctOf S d).isSome
def kDcT (S : Sto) (d : MV) : Bool := (dcTOf S d).isSome
def kStr (_ : Sto) : MV → Bool
  | .str _ => true
  | _ => false
theorem kd_lst : KindM X kLst "list" := fun C S d v hw hK r h e pins s σ u I ru => by
  obtain ⟨xs, hx⟩ := Option.isSome_iff_exists.mp e
  obtain ⟨a, vs, rfl, ha, t⟩ := lstOf_rep r h hx
  exact tyV_is I ru (.inl ⟨rfl, vs, .of ha⟩)
theorem kd_str : KindM X kStr "str" := fun C S d v hw hK r h e pins s σ u I ru => by
  cases d with
  | str x => rw [RepV] at h; subst h; exact tyV_is (T := "str") I ru rfl
  | _ => cases e
theorem kd_dct : KindM X kDct "dict" := fun C S d v hw hK r h e pins s σ u I ru => by
  obtain ⟨⟨ks, ds⟩, hx⟩ := Option.isSome_iff_exists.mp e
  obtain ⟨a, vs, rfl, hd, _⟩ := dctOf_rep r h hx
  cases ru
  obtain ⟨k1, k2, _⟩ := isD_at I (.inl ⟨_, hd⟩)
  exact ⟨k1, k2⟩
theorem kd_dcT : KindM X kDcT "dict" := fun C S d v hw hK r h e pins s σ u I ru => by
  obtain ⟨⟨ks, ds⟩, hx⟩ := Option.isSome_iff_exists.mp e
  obtain ⟨b, rfl, sm, ko, nd, ll, lz, ob, es, ep, ps, us, kvs, vs, ha, ex, hd, _⟩ := dcTOf_rep r h hx
  cases ru
  have hg : s.heap.get? b = some ob := (I.hok b _ ha).1
  exact ⟨⟨ob, hg, ex.1⟩, fun c ec => by cases ec; exact ⟨ob, hg, ex.2.1⟩⟩
end
def lpopM : MM := fun d ds S => match d, ds with
  | .ref n, [] => (match S[n]? with
    | some (.lst xs) => (match xs[xs.length - 1]? with
      | some y => .ok y (S.set n (.lst xs.dropLast))
      | none => .stk)
    | _ => .stk)
  | _, _ => .stk
theorem pu_lpop : PureM lpopM := by
  intro d ds S c e S' h
  unfold lpopM at h
  repeat' split at h
  all_goals cases h
theorem RepVs.dropLast {C : RC} {xs : List MV} {vs : List V} (h : RepVs C xs vs) : RepVs C xs.dropLast vs.dropLast := by
  rw [List.dropLast_eq_take, List.dropLast_eq_take, ← h.length]
  exact h.take _
theorem mt_lpop {X : Cx} : MtR X "list.pop" (rMM X lpopM) := by
  intro pins s σ H x xs v us Q I rx rxs rof
  obtain ⟨C, S, d, ds, rfl, hw, hK, r, h1, h2, a, S', e, q⟩ := rof
  unfold lpopM at e
  split at e
  · rename_i n
    split at e
    · rename_i ys e0
      split at e
      · rename_i y ey
        cases e
        rw [RepV] at h1
        obtain ⟨p, rfl, hp⟩ := h1
        obtain ⟨ws, hv, t⟩ := r.ob n _ p e0 hp
        rw [h2.nil_inv] at rxs
        obtain ⟨z, hz, rz⟩ := t.get ey
        rw [t.length] at hz
        refine mt_pop pins s σ C.H (.ref p) [] v us Q I rx rxs ⟨p, ws, z, rfl, rfl, hv, hz, ?_⟩
        have gw : ∀ {o : HO}, Grow C (C.put p o) := Grow.write (List.mem_of_getElem? hp)
        exact write_ok (Q := fun H => Q z H) (mo := .lst ys.dropLast) r hp ⟨_, put_same, t.dropLast.grow gw r⟩ fun C' g r' => q C' g r' z (rz.grow g r)
      · cases e
    · cases e
  · cases e
def dgetM : MM := fun d ds S => match ds with
  | [k, x] => (match dcTOf S d with
    | some (ks, vs) => if keyT k then .ok ((dlook (canons ks) vs (canon k)).getD x) S else .stk
    | none => .stk)
  | _ => .stk
theorem pu_dget : PureM dgetM := by
  intro d ds S c e S' h
  unfold dgetM at h
  repeat' split at h
  all_goals cases h
theorem mt_dget {X : Cx} (hu : X.A.units + 65 < cLine) : MtR X "dict.get" (rMM X dgetM) := by
  intro pins s σ H x xs v us Q I rx rxs rof
  obtain ⟨C, S, d, ds, rfl, hw, hK, r, h1, h2, a, S', e, q⟩ := rof
  unfold dgetM at e
  split at e
  · rename_i k y
    split at e
    · rename_i ks vs e0
      split at e
      · rename_i hk
        cases e
        obtain ⟨vk, vr, rfl, r1, r2⟩ := h2.cons_inv
        obtain ⟨vy, vn, rfl, r3, r4⟩ := r2.cons_inv
        rw [r4.nil_inv] at rxs
        cases rxs with
        | cons ry rt =>
          cases rt with
          | cons rz rn =>
            cases rn
            obtain ⟨a', b, ps, us', vs', rfl, rfl, rfl, rfl, sm, ik, hm, at'⟩ := look_T I ry rx hw hK r r1 h1 e0 hk
            refine getOr_keyed (kvs := pairsH (zipH ks ps us')) (room_n hu) ik sm ⟨_, hm, rfl⟩ ?_
            rw [valueAt_pairsH]
            cases ed : dlook (canons ks) vs (canon k) with
            | none =>
              rw [ed] at at'
              rw [at']
              rw [ed] at q
              exact ⟨vy, C.H, I.tok _, rz, q C Grow.refl r vy r3⟩
            | some d' =>
              rw [ed] at at'
              obtain ⟨p, u, w, hp, rw', rd⟩ := at'
              rw [hp]
              rw [ed] at q
              exact ⟨w, C.H, I.tok _, rw', q C Grow.refl r w rd⟩
      · cases e
    · cases e
  · cases e
def dsetdM : MM := fun d ds S => match d, ds with
  | .ref n, [k, x] => (match S[n]? with
    | some (.dcT ks vs) => if keyT k && decide (ks.length < sizeLine) then (match dlook (canons ks) vs (canon k) with
      | some y => .ok y S
      | none => .ok x (S.set n (.dcT (ks ++ [k]) (vs ++ [x])))) else .stk
    | _ => .stk)
  | _, _ => .stk
theorem pu_dsetd : PureM dsetdM := by
  intro d ds S c e S' h
  unfold dsetdM at h
  repeat' split at h
  all_goals cases h
theorem mt_dsetd {X : Cx} (hu : X.A.units + 65 < cLine) : MtR X "dict.setdefault" (rMM X dsetdM) := by
  intro pins s σ H x xs v us Q I rx rxs rof
  obtain ⟨C, S, d, ds, rfl, hw, hK, r, h1, h2, a, S', e, q⟩ := rof
  unfold dsetdM at e
  split at e
  · rename_i n k y
    split at e
    · rename_i ks vs e0
      split at e
      · rename_i hh
        rw [Bool.and_eq_true] at hh
        obtain ⟨hk, hz⟩ := hh
        have hz : ks.length < sizeLine := of_decide_eq_true hz
        have hd2 : dcTOf S (.ref n) = some (ks, vs) := by
          show (match S[n]? with
            | some (.dcT ks vs) => some (ks, vs)
            | _ => none) = _
          rw [e0]
        obtain ⟨vk, vr, rfl, r1, r2⟩ := h2.cons_inv
        obtain ⟨vy, vn, rfl, r3, r4⟩ := r2.cons_inv
        rw [r4.nil_inv] at rxs
        obtain ⟨k1, k2, kx, ek⟩ := keyT_ok hk
        obtain ⟨b, rfl, sm, ko, nd, ll, lz, ob, es, ep, ps, us', kvs, ws, ha, ex, hd, he, hkv, rk, rvs, rd⟩ := dcTOf_rep r h1 hd2
        subst hkv
        have hb : C.ι[n]? = some b := by
          rw [RepV] at h1
          obtain ⟨b', eb, h⟩ := h1
          cases eb; exact h
        cases rxs with
        | cons ry rt =>
          cases rt with
          | @cons _ u _ _ rz rn =>
            cases rn
            cases rx
            have r1' := r1
            rw [ek, RepV] at r1'
            obtain ⟨p, qs, rfl, _⟩ := r1'
            cases ry
            have lu : ks.length = us'.length := by rw [ll, rd.length, rvs.length]
            have lp : ks.length = ps.length := by have := rk.length; simpa using this
            have ko' := ko
            rw [keyTs, Bool.and_eq_true] at ko'
            have ik : (nestedKind X.prog X.w).is s.heap (nk k) p := ⟨nis_of I hK _ _ _ k1 r1 rfl, by show (nk k).depth ≤ 8; rw [dep_nk]; exact k2⟩
            have hm := dct_H I hw hK ha ex hd he ko nd rk lu
            have lenz : (zipH ks ps us').length = ks.length := by
              have := congrArg List.length (zip_keys ks ps us' lp lu)
              rw [List.length_map, nks_map, List.length_map] at this; exact this
            have at' := at_zip k1 ks ps us' vs ws ko'.1 lp rd rvs ll
            refine call_setdefault_heap (hsz := by rw [lenz]; omega) (room_n hu) ik sm hm (fun pu hp => ?_) fun hn h' hm' hs => ?_
            · cases ed : dlook (canons ks) vs (canon k) with
              | none => rw [ed] at at'; rw [at'] at hp; cases hp
              | some d' =>
                rw [ed] at at' e
                cases e
                obtain ⟨p', u', w', hp', rw', rd'⟩ := at'
                rw [hp'] at hp
                cases hp
                exact ⟨w', C.H, I.tok _, rw', q C Grow.refl r w' rd'⟩
            · cases ed : dlook (canons ks) vs (canon k) with
              | some d' =>
                rw [ed] at at'
                obtain ⟨p', u', w', hp', _⟩ := at'
                rw [hp'] at hn; cases hn
              | none =>
                rw [ed] at at' e
                cases e
                have hmem : canon k ∉ canons ks := fun z => by
                  have := (dlook_mem (canons ks) vs (by rw [canons_len]; exact ll)).mpr z
                  rw [ed] at this; cases this
                obtain ⟨ob', es', ep', ho', ex', hd', he', _, _⟩ := hm'
                have n2 : storedH (zipH ks ps us') (nk k) p u = zipH (ks ++ [k]) (ps ++ [p]) (us' ++ [u]) := by rw [storedH_new at', zip_app ks ps us' lp lu]
                have n3 : keyTs (ks ++ [k]) = true := by
                  rw [keyTs, keyOks_app, ko'.1, k1, kdeps_app]
                  have := of_decide_eq_true ko'.2
                  simp; omega
                have n4 : (canons (ks ++ [k])).Nodup := by
                  rw [canons_app, List.nodup_append]
                  refine ⟨nd, by simp, fun a ha b hb => ?_⟩
                  have e : b = canon k := by simpa using hb
                  subst e
                  intro z; subst z; exact hmem ha
                have n7 : RepVs C (ks ++ [k]) ((ps ++ [p]).map V.ref) := by
                  rw [List.map_append]
                  exact rk.append (.cons r1 .nil)
                have gw : ∀ {o : HO}, Grow C (C.put b o) := Grow.write (List.mem_of_getElem? hb)
                have n3' := n3
                rw [keyTs, Bool.and_eq_true] at n3'
                refine ⟨vy, upd C.H b (.ext fun h => h.get? b = some ob'), I.write (e := b) (by rw [ha]; trivial) (.inl rfl) (fun c u' hc hu' => (hs.2 c hc).trans hu') ⟨ob', ho'⟩ ⟨ho', ⟨ob', ho'⟩, fun h1 h2 p k => k _ p⟩, rz, ?_⟩
                refine write_ok (Q := fun H => Q vy H) (mo := .dcT (ks ++ [k]) (vs ++ [_])) r hb ?_ fun C' g r' => q C' g r' vy (r3.grow g r)
                exact ⟨sm, n3, n4, by simp [ll], by simp; omega, ob', es', ep', ps ++ [p], us' ++ [u], _, ws ++ [vy], put_same, ex', hd', by show es'.toList = entsOf C.w _ _ _; rw [he', n2, hw, ents_zip (P := X.prog) _ _ _ n3'.1], rfl, n7.grow gw r, rvs.append (.cons rz .nil), (rd.append (.cons r3 .nil)).grow gw r⟩
      · cases e
    · cases e
  · cases e
end Mi
set_option Elab.async false
set_option linter.all false
set_option maxRecDepth 100000
set_option maxHeartbeats 4000000
namespace Mi
open PySem PySem.Spec PyProof.Rows L2
def ddel {κ : Type} [DecidableEq κ] : List κ → List MV → κ → List κ × List MV
  | k' :: ks, v :: vs, k => if k' = k then ddel ks vs k else (k' :: (ddel ks vs k).1, v :: (ddel ks vs k).2)
  | _, _, _ => ([], [])
def vdel {κ : Type} [DecidableEq κ] : List κ → List V → κ → List V
  | k' :: ks, v :: vs, k => if k' = k then vdel ks vs k else v :: vdel ks vs k
  | _, _, _ => []
theorem ddel_rep {C : RC} {k : Key} : ∀ {ks : List Key} {ds : List MV} {vs : List V}, ks.length = vs.length → RepVs C ds vs →
    dropK (ks.zip vs) k = (ddel ks ds k).1.zip (vdel ks vs k) ∧ (ddel ks ds k).1.length = (vdel ks vs k).length ∧ RepVs C (ddel ks ds k).2 (vdel ks vs k) ∧ (∀ x ∈ (ddel ks ds k).1, x ∈ ks)
  | [], ds, vs, l, t => by
    have : vs = [] := List.eq_nil_of_length_eq_zero (by simpa using l.symm)
    subst this
    have : ds = [] := List.eq_nil_of_length_eq_zero (by simpa using t.length)
    subst this
    exact ⟨rfl, rfl, .nil, fun x h => by cases h⟩
  | k' :: ks, ds, [], l, t => by simp at l
  | k' :: ks, [], v :: vs, l, t => by cases t.length
  | k' :: ks, d :: ds, v :: vs, l, t => by
    obtain ⟨v', vr, e, t1, t2⟩ := t.cons_inv
    cases e
    obtain ⟨i1, i2, i3, i4⟩ := ddel_rep (k := k) (ks := ks) (by simpa using l) t2
    by_cases h : k' = k
    · rw [ddel, vdel, if_pos h, if_pos h]
      refine ⟨?_, i2, i3, fun x hx => List.mem_cons_of_mem _ (i4 x hx)⟩
      rw [← i1]
      simp [dropK, h]
    · rw [ddel, vdel, if_neg h, if_neg h]
      refine ⟨?_, by simp [i2], .cons t1 i3, fun x hx => ?_⟩
      · show dropK ((k', v) :: ks.zip vs) k = (k', v) :: ((ddel ks ds k).1.zip (vdel ks vs k))
        rw [← i1]
        simp [dropK, h]
      · rcases List.mem_cons.mp hx with e | e
        · rw [e]; exact List.mem_cons_self
        · exact List.mem_cons_of_mem _ (i4 x e)
theorem ddel_nodup {k : Key} : ∀ {ks : List Key} {ds : List MV}, ks.length = ds.length → ks.Nodup → (ddel ks ds k).1.Nodup
  | [], ds, _, _ => by
    have : ddel ([] : List Key) ds k = ([], []) := by cases ds <;> rfl
    rw [this]; exact List.nodup_nil
  | k' :: ks, [], l, _ => by simp at l
  | k' :: ks, d :: ds, l, nd => by
    have nd' := List.nodup_cons.mp nd
    have ih := ddel_nodup (k := k) (ks := ks) (ds := ds) (by simpa using l) nd'.2
    have sub : ∀ (ks : List Key) (ds : List MV), ∀ x ∈ (ddel ks ds k).1, x ∈ ks := by
      intro ks
      induction ks with
      | nil => intro ds x h; simp [ddel] at h
      | cons y ys ih =>
        intro ds x h
        cases ds with
        | nil => simp [ddel] at h
        | cons e es =>
          rw [ddel] at h
          split at h
          · exact List.mem_cons_of_mem _ (ih es x h)
          · rcases List.mem_cons.mp h with z | z
            · rw [z]; exact List.mem_cons_self
            · exact List.mem_cons_of_mem _ (ih es x z)
    rw [ddel]
    split
    · exact ih
    · exact List.nodup_cons.mpr ⟨fun m => nd'.1 (sub _ _ _ m), ih⟩
def dpopM : MM := fun d ds S => match d, ds with
  | .ref n, [k] => (match S[n]? with
    | some (.dct ks vs) => (match keyV k with
      | some j => (match dlook ks vs j with
        | some y => .ok y (S.set n (.dct (ddel ks vs j).1 (ddel ks vs j).2))
        | none => .stk)
      | none => .stk)
    | _ => .stk)
  | _, _ => .stk
theorem pu_dpop : PureM dpopM := by
  intro d ds S c e S' h
  unfold dpopM at h
  repeat' split at h
  all_goals cases h
theorem mt_dpop {X : Cx} : MtR X "dict.pop" (rMM X dpopM) := by
  intro pins s σ H x xs v us Q I rx rxs rof
  obtain ⟨C, S, d, ds, rfl, hw, hK, r, h1, h2, a, S', e, q⟩ := rof
  unfold dpopM at e
  split at e
  · rename_i n k
    split at e
    · rename_i ks vs e0
      split at e
      · rename_i j ej
        split at e
        · rename_i y ey
          cases e
          rw [RepV] at h1
          obtain ⟨p, rfl, hp⟩ := h1
          obtain ⟨ws, hv, l, nd, t⟩ := r.ob n _ p e0 hp
          obtain ⟨vk, vr, rfl, r1, r2⟩ := h2.cons_inv
          rw [r2.nil_inv] at rxs
          have ek := keyV_rep r1 ej
          subst ek
          cases rx
          cases rxs with
          | cons ry rt =>
            cases rt
            obtain ⟨z, hz, rz⟩ := (dlook_rep (k := j) (ks := ks) t).1 _ ey
            obtain ⟨i1, i2, i3, _⟩ := ddel_rep (k := j) l t
            refine d_pop I hv ry hz (.inl rfl) fun w' s' I' rw' => ⟨z, _, I', rw', ?_⟩
            have gw : ∀ {o : HO}, Grow C (C.put p o) := Grow.write (List.mem_of_getElem? hp)
            rw [i1]
            exact write_ok (Q := fun H => Q z H) (mo := .dct (ddel ks vs j).1 (ddel ks vs j).2) r hp ⟨_, put_same, i2, ddel_nodup (l.trans t.length.symm) nd, i3.grow gw r⟩ fun C' g r' => q C' g r' z (rz.grow g r)
        · cases e
      · cases e
    · cases e
  · cases e
end Mi
set_option Elab.async false
set_option linter.all false
set_option maxRecDepth 100000
set_option maxHeartbeats 4000000
namespace Mi
open PySem PySem.Spec PyProof.Rows L2
structure TabK (w : World) (K : PySem.W.Frag) (mg : Str → Option Value) (x : Str) (kvs : List (Str × Int)) : Prop where
  at_ : mg x = some (.ref (He.ga K x))
  dct : ∃ es n, KDict K w (He.ga K x) es n
  hit : ∀ z i, kvs.lookup z = some i → ∃ u, PySem.W.nsIn K (He.ga K x) z = some (some u) ∧ RelV (.int i) u
  mis : ∀ z, kvs.lookup z = none → PySem.W.nsIn K (He.ga K x) z = some none
def inW (neg : Bool) (kvs : List (Str × Int)) (m : ME) : ME := fun ρ S => (m ρ S).bind fun d S1 => match d with
  | .str z => .ok (.bl (xor neg (kvs.lookup z).isSome)) S1
  | _ => .stk
def ixW (kvs : List (Str × Int)) (m : ME) : ME := fun ρ S => (m ρ S).bind fun d S1 => match d with
  | .str z => (match kvs.lookup z with
    | some i => .ok (.int i) S1
    | none => .stk)
  | _ => .stk
section
variable {X : Cx} {W : WX} {e : Expr} {me : ME} {x : Str} {kvs : List (Str × Int)} {pos p apos : Pos}
theorem ns_of (T : TabK X.w X.K X.mg x kvs) (z : Str) : ∃ r, PySem.W.nsIn X.K (He.ga X.K x) z = some r ∧ r.isSome = (kvs.lookup z).isSome := by
  cases h : kvs.lookup z with
  | none => exact ⟨none, T.mis z h, rfl⟩
  | some i =>
    obtain ⟨u, hu, _⟩ := T.hit z i h
    exact ⟨some u, hu, rfl⟩
theorem inW_imp (T : TabK X.w X.K X.mg x kvs) {σ : L2.St} {H : Hp} {Q : VK} {r : R2} (neg : Bool)
    (hr : ∀ (z : Str) (o : Option Value) (H : Hp), PySem.W.nsIn X.K (He.ga X.K x) z = some o → Q (.bl (xor neg o.isSome)) H → r (.str z) (.ref (He.ga X.K x)) H Q)
    (h : tE X W (inW neg kvs me) σ H Q) : tOp r (tE X W me) (tC (.ref (He.ga X.K x))) σ H Q := by
  obtain ⟨C, ρ, S, rfl, s, q⟩ := h
  refine tE.bind s q fun d S1 C1 v s1 g1 r1 q1 => ?_
  cases d with
  | str z =>
    rw [RepV] at r1
    subst r1
    obtain ⟨o, e1, e2⟩ := ns_of T z
    refine hr z o C1.H e1 ?_
    rw [e2]
    exact q1.now s1.rs _ (repB _)
  | _ => exact q1.elim
theorem st_ninW (T : TabK X.w X.K X.mg x kvs) (hg : Gl X x) (he : SE X W e me) (hm : behindInMarks .NotIn (.Name x p) = false := by with_unfolding_all rfl) (hd : (x == ("__debug__" : Str)) = false := by decide) : ST X W (.Compare e [.NotIn] [.Name x p] pos) (mTest (inW true kvs me)) := by
  obtain ⟨es, n, D⟩ := T.dct
  refine (pt_cmpR (op_notIn_kd D) he (pe_glob (v := .ref (He.ga X.K x)) hg T.at_ rfl hd) hm).imp (tTest_imp fun σ H Q h => inW_imp T true (fun z o H1 e1 q => ⟨z, o, rfl, rfl, e1, ?_⟩) h)
  simpa using q
theorem se_ixW (T : TabK X.w X.K X.mg x kvs) (hg : Gl X x) (hs : PlainIx e) (he : SE X W e me) (hd : (x == ("__debug__" : Str)) = false := by decide) : SE X W (.Subscript (.Name x p) e pos) (ixW kvs me) := by
  obtain ⟨es, n, D⟩ := T.dct
  refine (pe_ix ix_kdict (pe_glob (v := .ref (He.ga X.K x)) hg T.at_ rfl hd) he hs).imp fun σ H Q ⟨C, ρ, S, eH, s, q⟩ => ?_
  subst eH
  unfold tOp tC
  refine tE.bind s q fun d S1 C1 v s1 g1 r1 q1 => ?_
  cases d with
  | str z =>
    rw [RepV] at r1
    subst r1
    dsimp only at q1
    cases h : kvs.lookup z with
    | none => rw [h] at q1; exact q1.elim
    | some i =>
      rw [h] at q1
      obtain ⟨u, hu, ru⟩ := T.hit z i h
      exact ⟨He.ga X.K x, z, .int i, rfl, rfl, ⟨es, n, u, D.at_, D.lit, hu, ru⟩, q1.now s1.rs _ (repI _)⟩
  | _ => exact q1.elim
end
theorem tab_find {z : Str} : ∀ {es : List DictEntry} {kvs : List (Str × Int)}, es.map (fun e => (match e.key with
    | .str y _ => some y
    | _ => none)) = kvs.map (fun p => some p.1) → ((es.zip kvs).all fun q => (match q.1.val with
    | .int j _ => decide (j = q.2.2)
    | _ => false)) = true →
    (match kvs.lookup z with
      | some i => ∃ e, es.find? (fun e => e.key.isStr z) = some e ∧ RelV (.int i) e.val
      | none => es.find? (fun e => e.key.isStr z) = none ∧ es.any (fun e => e.refKey) = false)
  | [], [], _, _ => by simp
  | [], _ :: _, hq, _ => by cases hq
  | _ :: _, [], hq, _ => by cases hq
  | e :: es, p :: kvs, h, h2 => by
    rw [List.map_cons, List.map_cons, List.cons.injEq] at h
    rw [List.zip_cons_cons, List.all_cons, Bool.and_eq_true] at h2
    have ih := tab_find (z := z) h.2 h2.2
    obtain ⟨k, i⟩ := p
    have hk : ∃ t, e.key = .str k t := by
      have h1 := h.1
      split at h1
      · rename_i y t ey
        cases h1
        exact ⟨t, ey⟩
      · cases h1
    obtain ⟨t, hk⟩ := hk
    have hv : RelV (.int i) e.val := by
      have h3 := h2.1
      split at h3
      · rename_i j t ej
        have ej : e.val = .int j t := ej
        have : j = i := of_decide_eq_true h3
        rw [ej, ← this]; exact ⟨t, rfl⟩
      · cases h3
    have is_ : e.key.isStr z = decide (k = z) := by
      rw [hk]
      show (k == z) = _
      by_cases hz : k = z <;> simp [hz]
    rw [List.lookup_cons, List.find?_cons, is_]
    by_cases hz : k = z
    · subst hz
      simp only [beq_self_eq_true, decide_true]
      exact ⟨e, rfl, hv⟩
    · have : (z == k) = false := by simpa using fun e => hz e.symm
      rw [this, decide_eq_false hz]
      dsimp only
      cases hl : kvs.lookup z with
      | some i' =>
        rw [hl] at ih
        exact ih
      | none =>
        rw [hl] at ih
        refine ⟨ih.1, ?_⟩
        rw [List.any_cons, ih.2]
        have : e.refKey = false := by
          unfold DictEntry.refKey
          rw [hk]
        rw [this]; rfl
theorem tab_ok {w : World} {K : PySem.W.Frag} {mg : Str → Option Value} {x : Str} {kvs : List (Str × Int)} (h : tabB K x kvs = true) (a : mg x = some (.ref (He.ga K x))) (d : ∃ es n, KDict K w (He.ga K x) es n) : TabK w K mg x kvs := by
  obtain ⟨es, n, D⟩ := d
  unfold tabB at h
  rw [D.at_] at h
  rw [Bool.and_eq_true] at h
  have h1 := of_decide_eq_true h.1
  refine ⟨a, ⟨es, n, D⟩, fun z i hz => ?_, fun z hz => ?_⟩
  · have := tab_find (z := z) h1 h.2
    rw [hz] at this
    obtain ⟨e, he, hv⟩ := this
    refine ⟨e.val, ?_, hv⟩
    unfold PySem.W.nsIn
    rw [D.at_]
    dsimp only
    rw [he]
  · have := tab_find (z := z) h1 h.2
    rw [hz] at this
    unfold PySem.W.nsIn
    rw [D.at_]
    dsimp only
    rw [this.1]
    dsimp only
    rw [this.2]; rfl
end Mi
set_option Elab.async false
set_option linter.all false
set_option maxRecDepth 100000
set_option maxHeartbeats 4000000
namespace Mi
open PySem PySem.Spec PyProof.Rows L2
end Mi
set_option Elab.async false
set_option linter.all false
set_option maxRecDepth 100000
set_option maxHeartbeats 4000000
namespace Mi
open PySem PySem.Spec PyProof.Rows L2
end Mi
set_option Elab.async false
set_option linter.all false
set_option maxRecDepth 100000
set_option maxHeartbeats 4000000
namespace Mi
open PySem PySem.Spec PyProof.Rows L2
def txtsOf : List MV → Option (List Str)
  | [] => some []
  | .str x :: xs => (txtsOf xs).map (x :: ·)
  | _ :: _ => none
@[simp] theorem txtsOf_map : ∀ ys : List Str, txtsOf (ys.map .str) = some ys
  | [] => rfl
  | y :: ys => by rw [List.map_cons, txtsOf, txtsOf_map ys]; rfl
theorem rep_strs {C : RC} : ∀ ys : List Str, RepVs C (ys.map .str) (ys.map V.str)
  | [] => .nil
  | y :: ys => .cons (repS y) (rep_strs ys)
def splitM : MM := fun d ds S => match d, ds with
  | .str a, [.str b] => if !(b.length == 0) && Nat.ble (a.length + 2) sizeLine then .ok (.lst ((Txt.split a b).map .str)) S else .stk
  | _, _ => .stk
theorem pu_split : PureM splitM := by
  intro d ds S c e S' h
  unfold splitM at h
  repeat' split at h
  all_goals cases h
theorem mt_splitM {X : Cx} : MtR X "str.split" (rMM X splitM) := by
  intro pins s σ H x xs v us Q I rx rxs rof
  obtain ⟨C, S, d, ds, rfl, hw, hK, r, h1, h2, a, S', e, q⟩ := rof
  unfold splitM at e
  split at e
  · rename_i z b
    split at e
    · rename_i hh
      obtain ⟨hb, hz⟩ := Bool.and_eq_true_iff.mp hh
      cases e
      obtain ⟨v2, rfl, h3⟩ := one_of h2
      cases vStr h1; cases vStr h3
      exact mt_split pins s σ C.H _ _ v us Q I rx rxs ⟨z, b, rfl, rfl, by simpa using hb, Nat.le_of_ble_eq_true hz, newLst r (rep_strs _) q⟩
    · cases e
  · cases e
theorem log2_fit {n : Nat} (h : n < 1000000000) : n.log2 < 1920 := by
  by_cases z : n = 0
  · subst z; decide
  · exact Nat.lt_of_lt_of_le ((Nat.log2_lt z).mpr (show n < 2 ^ 30 by omega)) (by decide)
theorem crM_str {X : Cx} : CallR X (.type "str") (rCf X strM) := by
  intro pins s σ H vs us Q I rv h
  obtain ⟨C, S, ds, rfl, hw, hK, r, t, a, S', e, q⟩ := h
  unfold strM at e
  split at e
  · split at e
    · rename_i hf
      cases e
      obtain ⟨v, rfl, h1⟩ := one_of t
      cases vInt h1
      exact call_str_int pins s σ C.H _ us Q I rv ⟨_, rfl, log2_fit hf, q C Grow.refl r _ (repS _)⟩
    · cases e
  · cases e
    obtain ⟨v, rfl, h1⟩ := one_of t
    cases vStr h1
    exact SkE.call_str_str pins s σ C.H _ us Q I rv ⟨_, rfl, q C Grow.refl r _ (repS _)⟩
  · cases e
theorem pu_str : Pure1 strM := by
  intro ds S c d S' h
  unfold strM at h
  repeat' split at h
  all_goals cases h
def intTM : List MV → Sto → R MV
  | [.str a], S => match PySem.intText? a with
    | some n => if Nat.ble a.length 640 then .ok (.int n) S else .stk
    | none => .stk
  | _, _ => .stk
theorem crM_intT {X : Cx} : CallR X (.type "int") (rCf X intTM) := by
  intro pins s σ H vs us Q I rv h
  obtain ⟨C, S, ds, rfl, hw, hK, r, t, a, S', e, q⟩ := h
  unfold intTM at e
  split at e
  · split at e
    · rename_i n hn
      split at e
      · rename_i hl
        cases e
        obtain ⟨v, rfl, h1⟩ := one_of t
        cases vStr h1
        exact call_int_str pins s σ C.H _ us Q I rv ⟨_, n, rfl, hn, Nat.le_of_ble_eq_true hl, q C Grow.refl r _ (repI _)⟩
      · cases e
    · cases e
  · cases e
theorem pu_intT : Pure1 intTM := by
  intro ds S c d S' h
  unfold intTM at h
  repeat' split at h
  all_goals cases h
def inSM : MV → MV → Sto → R MV
  | .str ⟨⟨[c]⟩⟩, .str z, S => .ok (.bl (decide (c ∈ z.cps.toList))) S
  | _, _, _ => .stk
theorem opM_inS {X : Cx} : OpR X (compareOp .In) (rOf X inSM) := by
  intro pins s σ H x y v u Q I rx ry rof
  obtain ⟨C, S, d1, d2, rfl, hw, hK, r, h1, h2, a, S', e, q⟩ := rof
  unfold inSM at e
  split at e
  · cases e
    cases vStr h1; cases vStr h2
    exact op_in_sign pins s σ C.H _ _ v u Q I rx ry ⟨_, _, rfl, rfl, q C Grow.refl r _ (repB _)⟩
  · cases e
theorem pu_inS : Pure2 inSM := by
  intro a b S c d S' h
  unfold inSM at h
  split at h <;> cases h
def signs (x : Str) : List MV := x.cps.toList.map fun c => .str ⟨#[c]⟩
def sgnOf : MV → Sto → R Src
  | .str x, S => .ok (.dkt (signs x)) S
  | _, _ => .stk
def mSigns (m : ME) : Ev → Sto → R Src := fun ρ S => (m ρ S).bind sgnOf
theorem src_sgn {X : Cx} {C0 : RC} {x : Str} : SrcW X (.dkt (signs x)) (Its x) C0 := fun C S _ r _ => by
  have ln : (signs x).length = x.cps.size := by simp [signs]
  refine ⟨fun i hi => ?_, ?_, fun i z H' hi y => ?_⟩
  · show i < x.cps.size
    rw [← ln]; exact hi
  · show x.cps.size ≤ (signs x).length
    rw [ln]; exact Nat.le_refl _
  · obtain ⟨e2, c, e3, e4⟩ := y
    refine ⟨C, .str ⟨#[c]⟩, e2.symm, Grow.refl, r, ?_, by rw [e4]; exact repS _⟩
    show (signs x)[i]? = _
    unfold signs
    rw [List.getElem?_map, Array.getElem?_toList, e3]; rfl
theorem si_sgn {X : Cx} {W : WX} {tg l : Expr} {ml : ME} (hl : SE X W l ml) : SI X W tg l (mSigns ml) :=
  (pi_str hl).imp fun σ H Q ⟨C, ρ, S, e, s, q⟩ => by
    subst e
    refine tE.bind s q fun d S1 C1 v s1 g1 r1 q1 => ?_
    cases d with
    | str x => exact ⟨x, vStr r1, q1.now s1.rs _ src_sgn⟩
    | _ => exact q1.elim
end Mi
set_option Elab.async false
set_option linter.all false
set_option maxRecDepth 100000
set_option maxHeartbeats 4000000
namespace Mi
open PySem PySem.Spec PyProof.Rows L2
/-- the class c, with others told apart -/
def manyC (c : Str) (rest : List Str) : Str → Option Bool := fun c' => if c' = c then some true else if c' ∈ rest then some false else none
theorem manyC_ok {K : PySem.W.Frag} {c : Str} {rest : List Str} (x : PySem.W.exmOne K (.ref (He.ga K c)) (.ref (He.ga K c)) = some true)
    (y : ∀ r ∈ rest, PySem.W.exmOne K (.ref (He.ga K r)) (.ref (He.ga K c)) = some false) : ∀ c' b, manyC c rest c' = some b → PySem.W.exmOne K (.ref (He.ga K c')) (.ref (He.ga K c)) = some b := fun c' b h => by
  unfold manyC at h
  by_cases e : c' = c
  · rw [if_pos e] at h; cases h; rw [e]; exact x
  · rw [if_neg e] at h
    by_cases m : c' ∈ rest
    · rw [if_pos m] at h; cases h; exact y c' m
    · rw [if_neg m] at h; cases h
theorem manyC_is {c : Str} {rest : List Str} : ∀ c', manyC c rest c' = some true → c' = c := fun c' h => by
  unfold manyC at h
  by_cases e : c' = c
  · exact e
  · rw [if_neg e] at h
    by_cases m : c' ∈ rest
    · rw [if_pos m] at h; cases h
    · rw [if_neg m] at h; cases h
def mHds : List ((Str → Option Bool) × MS) → Str → MV → MS
  | [], c, d => fun ρ S => .exc c d ρ S
  | (ct, su) :: r, c, d => fun ρ S => match ct c with
    | some true => (su ρ S).calm
    | some false => mHds r c d ρ S
    | none => .stk
inductive HdsM (X : Cx) : List ExceptHandler → List ((Str → Option Bool) × MS) → Prop
  | nil : HdsM X [] []
  | cons {x : Str} {c : Value} {b₀ : Stmt} {suite : List Stmt} {np pos' : Pos} {hds : List ExceptHandler} {l : List ((Str → Option Bool) × MS)} {ct : Str → Option Bool} {ms : MS} (hc : Names X x c)
      (hct : ∀ c' b, ct c' = some b → PySem.W.exmOne X.K (.ref (He.ga X.K c')) c = some b) (hsu : ∀ (a : Addr) (pn : List (Addr × Obj)), SSs (X.suite a pn) WNo (b₀ :: suite) ms) (r : HdsM X hds l) :
      HdsM X (.ExceptHandler (some (.Name x np)) none (b₀ :: suite) pos' :: hds) ((ct, ms) :: l)
section
variable {X : Cx} {W : WX} {body : List Stmt} {h₀ : ExceptHandler} {hds : List ExceptHandler} {l : List ((Str → Option Bool) × MS)} {pos : Pos} {mb : MS}
theorem HdsM.ok (h : HdsM X hds l) : ∃ L, HdsOk X hds L ∧ ∀ (D : Ends) (C : RC) (ρ : Ev) (S : Sto) (σ : L2.St) (c : Str) (d : MV) (cls : Value) (dx : Option Addr), cls = .ref (He.ga X.K c) → Sv X ρ σ S C → (∀ {r : RS}, WantS W D C r → r = .exc c d ρ S → W cls dx σ C.H) →
    WantS W D C (mHds l c d ρ S) → wMany X.K W D L cls dx σ C.H := by
  induction h with
  | nil =>
    refine ⟨[], .nil, fun D C ρ S σ c d cls dx ec s k q => ?_⟩
    exact k q rfl
  | @cons x c b₀ suite np pos' hds l ct ms hc hct hsu r ih =>
    obtain ⟨L, h1, h2⟩ := ih
    refine ⟨(c, fun _ _ _ => tS X WNo ms) :: L, .cons hc (fun a oe cls d pn _ _ => (hsu a ((a, oe) :: pn)).imp fun D σ H h => tS.to (X := X) (X' := X.suite a ((a, oe) :: pn)) rfl rfl h) h1, fun D C ρ S σ c' d cls dx ec s k q => ?_⟩
    rw [mHds] at q
    cases eb : ct c' with
    | none => rw [eb] at q; exact q.elim
    | some b =>
      rw [eb] at q
      refine ⟨b, by rw [ec]; exact hct c' b eb, fun hb1 a ha => ?_, fun hb0 => ?_⟩
      · subst hb1
        exact ⟨C, ρ, S, rfl, s, WantS.calm q⟩
      · subst hb0
        exact h2 D C ρ S σ c' d cls dx ec s k q
end
end Mi
set_option Elab.async false
set_option linter.all false
set_option maxRecDepth 100000
set_option maxHeartbeats 4000000
namespace Mi
open PySem PySem.Spec PyProof.Rows L2
/-- a text of the module -/
theorem kc_str {mg : Str → Option Value} {K : PySem.W.Frag} {x z : Str} (h : ∃ t, mg x = some (.str z t)) : KC mg K x (.str z) := by
  obtain ⟨t, e⟩ := h
  exact ⟨.str z t, .str z, e, ⟨t, rfl⟩, fun _ _ => repS z⟩
end Mi
set_option Elab.async false
set_option linter.all false
set_option maxRecDepth 100000
set_option maxHeartbeats 4000000
namespace Mi
open PySem PySem.Spec PyProof.Rows L2
/-- an ending behind which the clause's variable is gone -/
def offE : Option Nat → Ends → Ends
  | none, D => D
  | some i, D => ⟨fun σ => D.nx (σ.set i none), D.rt, fun σ => D.bk (σ.set i none), fun σ => D.ct (σ.set i none)⟩
def onS : Option Nat → Addr → L2.St → L2.St
  | none, _, σ => σ
  | some i, a, σ => σ.set i (some (.ref a))
/-- a clause: its class, its variable's slot, what its suite does -/
structure CW where
  c : Value
  i : Option Nat
  ts : Addr → Value → Option Addr → TS
def wMix (K : PySem.W.Frag) (Wo : WX) (D : Ends) : List CW → WX
  | [] => Wo
  | q :: r => fun cls d σ H => ∃ b, PySem.W.exmOne K cls q.c = some b ∧ (b = true → ∀ a, H a = none → q.ts a cls d (offE q.i D) (onS q.i a σ) H) ∧ (b = false → wMix K Wo D r cls d σ H)
/-- the caught one, in the air of X -/
structure Air (X : Cx) (pins : List (Addr × Obj)) (B : Heap) (sI : Shared) (σ : L2.St) (H : Hp) (cls : Value) (d : Option Addr) (a : Addr) (st : Shared) : Prop where
  inv : Inv X pins σ H sI
  nb : ∀ b o, sI.heap.get? b = some o → b ∉ frs X.stack → B.get? b = some o
  up : sI.heap.UpToSlots st.heap
  fl : HandSPX.FlyingZ B (X.env :: X.outer) a (Zc cls d) st.heap
  na : H a = none
  os : st.os = sI.os
  ba : AllBare st.gens
section
variable {X : Cx} {pins : List (Addr × Obj)} {σ : L2.St} {H : Hp} {B : Heap} {sI st : Shared} {cls c : Value} {d : Option Addr} {a : Addr} {D : Ends} {x n : Str} {np pos : Pos} {b₀ : Stmt} {su : List Stmt} {ts : Addr → Value → Option Addr → TS} {i : Nat}
theorem Air.opens (hf : X.env.frame = some X.env.locals) (R : Air X pins B sI σ H cls d a st) :
    ∃ oe vs, st.heap.get? a = some oe ∧ Zc cls d oe ∧ oe.data = .fields vs ∧ Inv (X.suite a ((a, oe) :: (X.pn ++ pins))) [] σ H st := by
  obtain ⟨oe, vs, h1, h2, h3⟩ := R.fl.there
  have out : a ∉ frs (X.env :: X.outer) := fun m => by
    obtain ⟨_, o, e, z⟩ := R.fl.2.2.1.mem m
    rw [h1] at e
    cases e
    exact z _ h3
  refine ⟨oe, vs, h1, h2, h3, (R.inv.landed R.nb R.fl.1 R.up R.os R.ba).suite h1 h3 R.na (fun z => out ?_) fun m => ?_⟩
  · exact List.mem_filterMap.mpr ⟨X.env, List.mem_cons_self, by rw [hf, z]⟩
  · obtain ⟨e, m1, m2⟩ := List.mem_filterMap.mp m
    exact out (List.mem_filterMap.mpr ⟨e, List.mem_cons_of_mem _ m1, m2⟩)
theorem Air.asks (hf : X.env.frame = some X.env.locals) (R : Air X pins B sI σ H cls d a st) (hc : Names X x c) {b : Bool} (hb : PySem.W.exmOne X.K cls c = some b) {T : Result → Shared → Prop}
    (q : T (.ok (if b then .brk else .next)) st) : codeAny (model X.prog X.w) (X.A.mark (some (.ref a))) (.handlers (.ref a) [.ExceptHandler (some (.Name x np)) none [] pos] X.env) T st := by
  obtain ⟨oe, vs, h1, h2, h3, S⟩ := R.opens hf
  have look : PySem.W.Looks (model X.prog X.w) st.heap (typeOf (.ref a)) cls := fun A Q E s k z => wpAny_typeOf_ref (k _ _ h1) (by rw [h2.1]; exact z)
  have lm := PySem.W.exm_one (M := model X.prog X.w) (show X.K.In st.heap from S.kIn) look hb
  refine codeAny_handlers_test ?_
  obtain ⟨g, dbg, m | ⟨m, v, nn⟩⟩ := hc
  · exact ld_glob (X := X.suite a ((a, oe) :: (X.pn ++ pins))) S g m (lm.here q) dbg
  · exact ld_blt (X := X.suite a ((a, oe) :: (X.pn ++ pins))) S g m v (lm.here q) nn dbg
theorem Air.plain (hf : X.env.frame = some X.env.locals) (R : Air X pins B sI σ H cls d a st)
    (hs : ∀ (a : Addr) (oe : Obj) (cls : Value) (d : Option Addr) (pn : List (Addr × Obj)), Zc cls d oe → (∃ vs, oe.data = .fields vs) → PSs (X.suite a ((a, oe) :: pn)) (b₀ :: su) (ts a cls d))
    (w : ts a cls d D σ H) {T : Result → Shared → Prop} (k : ∀ f s, SP X pins D f s → T (.ok f) s) :
    codeAny (model X.prog X.w) (X.A.mark (some (.ref a))) (.handlers (.ref a) [.ExceptHandler none none (b₀ :: su) pos] X.env) T st := by
  have ok := R.inv.ok
  refine codeAny_handlers_suite (HandSPX.lands_againZ R.fl fun h fl up => ?_)
  have R2 : Air X pins B sI σ H cls d a { st with heap := h } := ⟨R.inv, R.nb, R.up.trans up, fl, R.na, R.os, R.ba⟩
  obtain ⟨oe, vs, h1, h2, h3, S⟩ := R2.opens hf
  refine wpAny_mono ((hs a oe cls d (X.pn ++ pins) h2 ⟨vs, h3⟩).run [] _ σ H D S w) (fun f s z => k f s ?_) (fun _ _ z => z.elim)
  cases f with
  | ret u => obtain ⟨v, σ1, H1, S1, r1, q1⟩ := z; exact ⟨v, σ1, H1, S1.unsuite ok, r1, q1⟩
  | next => obtain ⟨σ1, H1, S1, q1⟩ := z; exact ⟨σ1, H1, S1.unsuite ok, q1⟩
  | brk => obtain ⟨σ1, H1, S1, q1⟩ := z; exact ⟨σ1, H1, S1.unsuite ok, q1⟩
  | cont => obtain ⟨σ1, H1, S1, q1⟩ := z; exact ⟨σ1, H1, S1.unsuite ok, q1⟩
theorem Air.named (hf : X.env.frame = some X.env.locals) (hN : X.N.Nodup) (hi : X.N[i]? = some n) (hl : X.env.kindOf n = some .local) (R : Air X pins B sI σ H cls d a st)
    (hs : ∀ (a : Addr) (oe : Obj) (cls : Value) (d : Option Addr) (pn : List (Addr × Obj)), Zc cls d oe → (∃ vs, oe.data = .fields vs) → PSs (X.suite a ((a, oe) :: pn)) (b₀ :: su) (ts a cls d))
    (w : ts a cls d (offE (some i) D) (σ.set i (some (.ref a))) H) {T : Result → Shared → Prop}
    (k : ∀ f s, wpAny (model X.prog X.w) X.A (do bindName X.env n .none; unbindBehindTheSuite X.env n pos) (fun _ s' => SP X pins D f s') X.xe s → T (.ok f) s) :
    codeAny (model X.prog X.w) (X.A.mark (some (.ref a))) (.handlers (.ref a) [.ExceptHandler none (some n) (b₀ :: su) pos] X.env) T st := by
  have ok := R.inv.ok
  refine codeAny_handlers_suite_as (HandSPX.lands_againZ R.fl fun h fl up => ?_)
  have R2 : Air X pins B sI σ H cls d a { st with heap := h } := ⟨R.inv, R.nb, R.up.trans up, fl, R.na, R.os, R.ba⟩
  obtain ⟨oe, vs, h1, h2, h3, S⟩ := R2.opens hf
  refine store_ok (X := X.suite a ((a, oe) :: (X.pn ++ pins))) (v := .ref a) S hN hi (.inl hl) rfl (fun s5 S5 => ?_) (.inr hl)
  refine wpAny_mono ((hs a oe cls d (X.pn ++ pins) h2 ⟨vs, h3⟩).run [] s5 _ H _ S5 w) (fun f s z => k f s ?_) (fun _ _ z => z.elim)
  cases f with
  | ret u => obtain ⟨v, σ1, H1, S1, r1, q1⟩ := z; exact gone_ok (S1.unsuite ok) hN hi hl fun s7 J => ⟨v, _, H1, J, r1, q1⟩
  | next => obtain ⟨σ1, H1, S1, q1⟩ := z; exact gone_ok (S1.unsuite ok) hN hi hl fun s7 J => ⟨_, H1, J, q1⟩
  | brk => obtain ⟨σ1, H1, S1, q1⟩ := z; exact gone_ok (S1.unsuite ok) hN hi hl fun s7 J => ⟨_, H1, J, q1⟩
  | cont => obtain ⟨σ1, H1, S1, q1⟩ := z; exact gone_ok (S1.unsuite ok) hN hi hl fun s7 J => ⟨_, H1, J, q1⟩
/-- no clause takes it -/
theorem Air.out (hs : X.stack = X.env :: X.outer) (hf : X.env.frame = some X.env.locals) {Wo : WX} (tk : Takes X Wo) (R : Air X pins B sI σ H cls d a st) (w : Wo cls d σ H) :
    wpAny (model X.prog X.w) X.A (handleBy (.ref a) X.env []) (SP X pins D) X.xe st := by
  refine wpAny_handleBy_nil ?_
  have fl := R.fl
  obtain ⟨k1, k2, k3, oe, vs, T, oT, t2, he, hz, hd, e1, hr⟩ := fl
  unfold PySem.passOn
  refine wpAny_bind (wpAny_field he hd e1 ?_)
  have no : ¬ ((Value.ref T == Value.none) = true) := by simp
  rw [if_neg no]
  have fin : wpAny (model X.prog X.w) X.A (setFlight (.ref a) X.env.frame)
      (fun _ s4 => wpAny (model X.prog X.w) X.A (throw (.ref a) : Sem Flow) (SP X pins D) X.xe s4) X.xe st := by
    rw [hf]
    refine HandSPX.setFlight_upZ R.fl fun h hh up => wpAny_throw (tk _ _ ?_)
    exact ⟨a, B, sI, pins, σ, H, cls, d, rfl, R.inv, R.nb, R.up.trans up, .inr (.inr (by rw [hs]; exact hh)), R.na, R.os, R.ba, w⟩
  first | exact wpAny_bind (wpAny_pure (wpAny_bind fin)) | exact wpAny_bind fin
end
inductive HdsX (X : Cx) : List ExceptHandler → List CW → Prop
  | nil : HdsX X [] []
  | plain {x : Str} {c : Value} {ts : Addr → Value → Option Addr → TS} {b₀ : Stmt} {su : List Stmt} {np pos : Pos} {hds : List ExceptHandler} {l : List CW} (hc : Names X x c)
      (hs : ∀ (a : Addr) (oe : Obj) (cls : Value) (d : Option Addr) (pn : List (Addr × Obj)), Zc cls d oe → (∃ vs, oe.data = .fields vs) → PSs (X.suite a ((a, oe) :: pn)) (b₀ :: su) (ts a cls d))
      (r : HdsX X hds l) : HdsX X (.ExceptHandler (some (.Name x np)) none (b₀ :: su) pos :: hds) (⟨c, none, ts⟩ :: l)
  | named {x n : Str} {i : Nat} {c : Value} {ts : Addr → Value → Option Addr → TS} {b₀ : Stmt} {su : List Stmt} {np pos : Pos} {hds : List ExceptHandler} {l : List CW} (hi : X.N[i]? = some n) (hl : X.env.kindOf n = some .local) (hc : Names X x c)
      (hs : ∀ (a : Addr) (oe : Obj) (cls : Value) (d : Option Addr) (pn : List (Addr × Obj)), Zc cls d oe → (∃ vs, oe.data = .fields vs) → PSs (X.suite a ((a, oe) :: pn)) (b₀ :: su) (ts a cls d))
      (r : HdsX X hds l) : HdsX X (.ExceptHandler (some (.Name x np)) (some n) (b₀ :: su) pos :: hds) (⟨c, some i, ts⟩ :: l)
section
variable {X : Cx} {pins : List (Addr × Obj)} {σ : L2.St} {H : Hp} {B : Heap} {sI st : Shared} {cls : Value} {d : Option Addr} {a : Addr} {D : Ends} {Wo : WX}
theorem Air.go (hs : X.stack = X.env :: X.outer) (hf : X.env.frame = some X.env.locals) (hN : X.N.Nodup) (tk : Takes X Wo) (R : Air X pins B sI σ H cls d a st) {hds : List ExceptHandler} {l : List CW} (hh : HdsX X hds l) :
    wMix X.K Wo D l cls d σ H → wpAny (model X.prog X.w) X.A (handleBy (.ref a) X.env hds) (SP X pins D) X.xe st := by
  induction hh with
  | nil => exact R.out hs hf tk
  | plain hc hs' r ih =>
    rintro ⟨b, e, yes, no⟩
    refine wpAny_handleBy_cons (R.asks hf hc e ?_) (by intro q; cases q)
    cases b with
    | false => exact ih (no rfl)
    | true => exact R.plain hf hs' (yes rfl a R.na) fun _ _ z => z
  | named hi hl hc hs' r ih =>
    rintro ⟨b, e, yes, no⟩
    refine wpAny_handleBy_cons (R.asks hf hc e ?_) (by intro q; cases q)
    cases b with
    | false => exact ih (no rfl)
    | true => exact R.named hf hN hi hl hs' (yes rfl a R.na) fun _ _ z => z
theorem ps_tryX {body : List Stmt} {h₀ : ExceptHandler} {hds : List ExceptHandler} {l : List CW} {pos : Pos} {tb : WX → TS} (hs : X.stack = X.env :: X.outer) (hf : X.env.frame = some X.env.locals) (hN : X.N.Nodup) (tk : Takes X Wo)
    (hb : ∀ (W : WX) (pn : List (Addr × Obj)) (xe : Value → Shared → Prop), Takes (X.tr pn xe) W → PassesOwn (model X.prog X.w) X.A X.env xe → PSs (X.tr pn xe) body (tb W)) (hh : HdsX X (h₀ :: hds) l) :
    PS X (.Try body (h₀ :: hds) [] [] pos) (fun D σ H => tb (wMix X.K Wo D l) D σ H) := by
  refine ⟨fun pins s σ H D I h => wpAny_Try_except ?_⟩
  have ok := I.ok
  let xe : Value → Shared → Prop := fun e s1 => wpAny (model X.prog X.w) X.A (noteFrame e X.env)
    (fun _ s2 => wpAny (model X.prog X.w) X.A (setFlight e none)
      (fun _ s3 => wpAny (model X.prog X.w) X.A (handleBy e X.env (h₀ :: hds)) (SP X pins D) X.xe s3) X.xe s2) X.xe s1
  have tk2 : Takes (X.tr (X.pn ++ pins) xe) (wMix X.K Wo D l) := by
    rintro u s' ⟨a, B, sI, pins', σ', H', cls, d, rfl, J, nb, up, sky, na, os, ag, w⟩
    refine Sky.land Zc.steady (by rw [ok.frames, hs]) hf (show Sky B (X.env :: X.outer) a _ _ _ by rw [← hs]; exact sky) fun h3 fl3 up3 => ?_
    exact Air.go (st := { s' with heap := h3 }) hs hf hN tk ⟨J.ofTry ok, nb, up.trans up3, fl3, na, os, ag⟩ hh w
  refine wpAny_mono ((hb (wMix X.K Wo D l) (X.pn ++ pins) xe tk2 PassesOwn.looking).run [] s σ H D (I.toTry _) h) (fun f s1 z => ?_) (fun _ _ he => he)
  cases f with
  | next => obtain ⟨σ1, H1, J1, q1⟩ := z; exact wpAny_execs_nil ⟨σ1, H1, J1.ofTry ok, q1⟩
  | ret u => obtain ⟨v, σ1, H1, J1, r1, q1⟩ := z; exact ⟨v, σ1, H1, J1.ofTry ok, r1, q1⟩
  | brk => obtain ⟨σ1, H1, J1, q1⟩ := z; exact ⟨σ1, H1, J1.ofTry ok, q1⟩
  | cont => obtain ⟨σ1, H1, J1, q1⟩ := z; exact ⟨σ1, H1, J1.ofTry ok, q1⟩
end
/-- any of the classes, as a base class of them -/
def baseC (l : List Str) : Str → Option Bool := fun c => if c ∈ l then some true else none
theorem baseC_ok {K : PySem.W.Frag} {c : Value} {l : List Str} (x : ∀ r ∈ l, PySem.W.exmOne K (.ref (He.ga K r)) c = some true) : ∀ c' b, baseC l c' = some b → PySem.W.exmOne K (.ref (He.ga K c')) c = some b := fun c' b h => by
  unfold baseC at h
  by_cases m : c' ∈ l
  · rw [if_pos m] at h; cases h; exact x c' m
  · rw [if_neg m] at h; cases h
/-- a clause without a name -/
def mSu (m : MS) : Str → MV → MS := fun _ _ ρ S => (m ρ S).calm
/-- [k, e.f] of the caught one, kept in the slot j; the name's slot i -/
def mAsF (k : Int) (f : Str) (i j : Nat) : Str → MV → MS := fun _ d ρ S => match d with
  | .obj _ [g] [x] => if g = f ∧ i ≠ j ∧ i < ρ.length then .nx (((ρ.set i none).set j (some (.lst [.int k, x]))).set i none) S else .stk
  | _ => .stk
def mHdX : List ((Str → Option Bool) × (Str → MV → MS)) → Str → MV → MS
  | [], c, d => fun ρ S => .exc c d ρ S
  | (ct, k) :: r, c, d => fun ρ S => match ct c with
    | some true => k c d ρ S
    | some false => mHdX r c d ρ S
    | none => .stk
def mTryX (hs : List ((Str → Option Bool) × (Str → MV → MS))) (body : MS) : MS := fun ρ S => match body ρ S with
  | .exc c d ρ1 S1 => mHdX hs c d ρ1 S1
  | r => r
inductive HdsMX (X : Cx) : List ExceptHandler → List ((Str → Option Bool) × (Str → MV → MS)) → Prop
  | nil : HdsMX X [] []
  | plain {x : Str} {c : Value} {b₀ : Stmt} {su : List Stmt} {np pos : Pos} {hds : List ExceptHandler} {l : List ((Str → Option Bool) × (Str → MV → MS))} {ct : Str → Option Bool} {ms : MS} (hc : Names X x c)
      (hct : ∀ c' b, ct c' = some b → PySem.W.exmOne X.K (.ref (He.ga X.K c')) c = some b) (hsu : ∀ (a : Addr) (pn : List (Addr × Obj)), SSs (X.suite a pn) WNo (b₀ :: su) ms) (r : HdsMX X hds l) :
      HdsMX X (.ExceptHandler (some (.Name x np)) none (b₀ :: su) pos :: hds) ((ct, mSu ms) :: l)
  | named {x n t f c : Str} {i j k0 : Nat} {k : Int} {np np2 tp ap pa pos cp lp : Pos} {hds : List ExceptHandler} {l : List ((Str → Option Bool) × (Str → MV → MS))} {ct : Str → Option Bool} (hi : X.N[i]? = some n)
      (hl : X.env.kindOf n = some .local) (hc : Names X x (.ref (He.ga X.K c))) (hct : ∀ c' b, ct c' = some b → PySem.W.exmOne X.K (.ref (He.ga X.K c')) (.ref (He.ga X.K c)) = some b) (hone : ∀ c', ct c' = some true → c' = c)
      (T : XfC X.K (He.ga X.K c)) (hno : PySem.W.findIn X.K (.ref (He.ga X.K c)) f = some none) (hj : X.N[j]? = some t) (hjl : X.env.scope.names.lookup t = some .local) (hnd : (n == ("__debug__" : Str)) = false) (hnc : (n == ("__classdict__" : Str)) = false)
      (hatt : attributeBase (.Name n np2) f X.env (eval (.Name n np2) X.env) = eval (.Name n np2) X.env)
      (hs1 : starEach [.Constant (.int k) k0 cp, .Attribute (.Name n np2) f ap] X.env = (false, eval (.Constant (.int k) k0 cp) X.env) :: starEach [.Attribute (.Name n np2) f ap] X.env)
      (hs2 : starEach [.Attribute (.Name n np2) f ap] X.env = (false, eval (.Attribute (.Name n np2) f ap) X.env) :: starEach [] X.env)
      (hsw : swapsWith (.List [.Constant (.int k) k0 cp, .Attribute (.Name n np2) f ap] lp) (some (.Name t tp)) pa.line X.env = pure false) (r : HdsMX X hds l) :
      HdsMX X (.ExceptHandler (some (.Name x np)) (some n) [.Assign [.Name t tp] (.List [.Constant (.int k) k0 cp, .Attribute (.Name n np2) f ap] lp) pa] pos :: hds) ((ct, mAsF k f i j) :: l)
section
variable {X : Cx} {W : WX} {body : List Stmt} {h₀ : ExceptHandler} {hds : List ExceptHandler} {l : List ((Str → Option Bool) × (Str → MV → MS))} {pos : Pos} {mb : MS}
theorem HdsMX.ok (hN : X.N.Nodup) (h : HdsMX X hds l) : ∃ L, HdsX X hds L ∧ ∀ (D : Ends) (C : RC) (ρ : Ev) (S : Sto) (σ : L2.St) (c : Str) (d : MV) (cls : Value) (dx : Option Addr), cls = .ref (He.ga X.K c) → Sv X ρ σ S C →
    ExcR C c d cls dx → WantS W D C (mHdX l c d ρ S) → wMix X.K W D L cls dx σ C.H := by
  induction h with
  | nil =>
    refine ⟨[], .nil, fun D C ρ S σ c d cls dx ec s xr q => ?_⟩
    exact q C σ cls dx Grow.refl s.rs s.ev s.ln xr
  | @plain x c b₀ su np pos hds l ct ms hc hct hsu r ih =>
    obtain ⟨L, h1, h2⟩ := ih
    refine ⟨⟨c, none, fun _ _ _ => tS X WNo ms⟩ :: L, .plain hc (fun a oe cls d pn _ _ => (hsu a ((a, oe) :: pn)).imp fun D σ H h => tS.to (X := X) (X' := X.suite a ((a, oe) :: pn)) rfl rfl h) h1, fun D C ρ S σ c' d cls dx ec s xr q => ?_⟩
    rw [mHdX] at q
    cases eb : ct c' with
    | none => rw [eb] at q; exact q.elim
    | some b =>
      rw [eb] at q
      refine ⟨b, by rw [ec]; exact hct c' b eb, fun y a _ => ?_, fun z => ?_⟩
      · subst y
        exact ⟨C, ρ, S, rfl, s, WantS.calm q⟩
      · subst z
        exact h2 D C ρ S σ c' d cls dx ec s xr q
  | @named x n t f c i j k0 k np np2 tp ap pa pos cp lp hds l ct hi hl hc hct hone T hno hj hjl hnd hnc hatt hs1 hs2 hsw r ih =>
    obtain ⟨L, h1, h2⟩ := ih
    refine ⟨⟨.ref (He.ga X.K c), some i, fun a cls d => tAsg (tLst (tCons (tC (.int k)) (tCons (tXf a cls d (He.ga X.K c) f (tVar i)) tNil))) (gName j)⟩ :: L, .named hi hl hc (fun a oe cls d pn hz hf => ?_) h1, fun D C ρ S σ c' d cls dx ec s xr q => ?_⟩
    · refine pss_one (ps_set (X := X.suite a ((a, oe) :: pn)) hN hj (.inl hjl) (pe_lst (pa_cons pe_int (pa_cons (pe_xf T hno hz hf (pe_var (X := X.suite a ((a, oe) :: pn)) hi (.inl hl) hnd hnc) hatt) pa_nil hs2) hs1)) hsw (.inr hjl))
    · rw [mHdX] at q
      cases eb : ct c' with
      | none => rw [eb] at q; exact q.elim
      | some b =>
        rw [eb] at q
        refine ⟨b, by rw [ec]; exact hct c' b eb, fun y a na => ?_, fun z => ?_⟩
        · subst y
          dsimp only [mAsF] at q
          split at q
          · rename_i c2 g x2
            split at q
            · rename_i hh
              obtain ⟨rfl, hij, hil⟩ := hh
              rcases xr.2 with ⟨z, _⟩ | ⟨a2, f2, d2, v2, z, ed, eh, rv⟩
              · cases z
              · cases z
                have hc' := hone c' eb
                subst hc'
                have hit : i < σ.length := by rw [← s.ln]; exact hil
                refine ⟨.ref a, by show (σ.set i (some (.ref a)))[i]? = _; rw [List.getElem?_set_self hit], rfl, ec, a2, _, v2, ed, eh, by simp [List.lookup], by rw [sizeLine_eq]; show 2 ≤ 16777216; decide, fun p hp => ?_⟩
                have g1 := Grow.put (C := C) (o := .lst [V.int k, v2]) hp
                have rl : RepV (C.put p (.lst [V.int k, v2])) (.lst [.int k, x2]) (.ref p) := repLst (.put s.rs hp) put_same (.cons (repI k) (.cons (rv.grow g1 s.rs) .nil))
                refine q _ _ g1 (s.rs.put hp) ?_ (by simp [onS, s.ln])
                have ev1 := s.ev.grow g1 s.rs
                intro m d3 e3
                by_cases hk : m = i
                · subst hk
                  rw [List.getElem?_set] at e3
                  rw [if_pos rfl] at e3
                  split at e3 <;> cases e3
                · rw [List.getElem?_set_ne (Ne.symm hk)] at e3
                  by_cases hkj : m = j
                  · subst hkj
                    have hml : m < σ.length := by
                      have := List.getElem?_eq_some_iff.mp e3
                      obtain ⟨this, _⟩ := this
                      simp [s.ln] at this
                      exact this
                    rw [List.getElem?_set_self (by simpa [s.ln] using hml)] at e3
                    cases e3
                    refine ⟨.ref p, ?_, rl⟩
                    show ((σ.set i (some (.ref a))).set m (some (.ref p)) |>.set i none)[m]? = _
                    rw [List.getElem?_set_ne (Ne.symm hk), List.getElem?_set_self (by simpa using hml)]
                  · rw [List.getElem?_set_ne (Ne.symm hkj), List.getElem?_set_ne (Ne.symm hk)] at e3
                    obtain ⟨u, w1, w2⟩ := ev1 m d3 e3
                    refine ⟨u, ?_, w2⟩
                    show ((σ.set i (some (.ref a))).set j (some (.ref p)) |>.set i none)[m]? = _
                    rw [List.getElem?_set_ne (Ne.symm hk), List.getElem?_set_ne (Ne.symm hkj), List.getElem?_set_ne (Ne.symm hk)]
                    exact w1
            · exact q.elim
          · exact q.elim
        · subst z
          exact h2 D C ρ S σ c' d cls dx ec s xr q
theorem ss_tryX (hs : X.stack = X.env :: X.outer) (hf : X.env.frame = some X.env.locals) (hN : X.N.Nodup) (tk : Takes X W) (hh : HdsMX X (h₀ :: hds) l)
    (hb : ∀ (W : WX) (pn : List (Addr × Obj)) (xe : Value → Shared → Prop), Takes (X.tr pn xe) W → PassesOwn (model X.prog X.w) X.A X.env xe → SSs (X.tr pn xe) W body mb) :
    SS X W (.Try body (h₀ :: hds) [] [] pos) (mTryX l mb) := by
  obtain ⟨L, h1, h2⟩ := hh.ok (W := W) hN
  refine (ps_tryX (tb := fun W => tS X W mb) hs hf hN tk (fun W pn xe t p => (hb W pn xe t p).imp fun D σ H h => tS.to (X := X) (X' := X.tr pn xe) rfl rfl h) h1).imp fun D σ H ⟨C, ρ, S, e, s, q⟩ => ?_
  subst e
  refine ⟨C, ρ, S, rfl, s, ?_⟩
  unfold mTryX at q
  cases e : mb ρ S with
  | nx ρ1 S1 => rw [e] at q; exact q
  | rt d S1 => rw [e] at q; exact q
  | stk => rw [e] at q; exact q
  | exc c' d ρ1 S1 =>
    rw [e] at q
    dsimp only at q
    intro C' σ' cls dx g r ev ln xr
    have hK : C'.K = X.K := g.K.trans s.K
    have ec := xr.1
    rw [hK] at ec
    exact h2 D C' ρ1 S1 σ' c' d cls dx ec ⟨g.w.trans s.w, hK, r, ev, ln⟩ xr (q.grow g)
end
end Mi
set_option Elab.async false
set_option linter.all false
set_option maxRecDepth 100000
set_option maxHeartbeats 4000000
namespace Mi
open PySem PySem.Spec PyProof.Rows L2
def Keeps (h h' : Heap) : Prop := ∀ a o, h.get? a = some o → h'.get? a = some o
theorem Keeps.refl {h : Heap} : Keeps h h := fun _ _ e => e
theorem Keeps.trans {h h1 h2 : Heap} (x : Keeps h h1) (y : Keeps h1 h2) : Keeps h h2 := fun a o e => y a o (x a o e)
/-- v shows as a text of at most n signs -/
def Sh (h₀ : Heap) (k n : Nat) (v : Value) : Prop := ∀ (P : Program) (w : World) (b : Nat) (A : Around) (E : Value → Shared → Prop) (s : Shared) (Q : Str → Shared → Prop), b + n ≤ sizeLine → A.units + k < cLine → Keeps h₀ s.heap →
  (∀ t h' tk, t.length ≤ n → Keeps s.heap h' → Q t { s with heap := h', toks := tk }) → wpAny (model P w) A (pyReprUnder b v) Q E s
theorem Sh.leaf {h₀ : Heap} {k n : Nat} {v : Value} {t : Str} (h : ∀ P w, ReprIs P w v t) (l : t.length ≤ n) : Sh h₀ k n v := fun P w b A E s Q hb _ _ q =>
  h P w b (by omega) A E s Q fun tk => q t s.heap tk l Keeps.refl
section
variable {P : Program} {w : World} {s : Shared} {A : Around} {E : Value → Shared → Prop}
/-- a rule's name, then a short text -/
theorem say {r : String} {x : Str} {Q : PySem.Fin → Shared → Prop} (l : x.length ≤ 10) (h : ∀ u tk, Q (.done (.ret (.str x u))) { s with toks := tk }) : wpAny (model P w) A (do rule r; retStr x) Q E s :=
  wpAny_bind (wpAny_rule (wpAny_bind (wpAny_mkStr (wpAny_pure (h _ _)) (by have := sizeLine_eq; omega))))
/-- whether something is under way: nothing is known of it -/
theorem under {c : Bool} {α : Type} {m1 m2 : Sem α} {Q : α → Shared → Prop} (h1 : wpAny (model P w) A m1 Q E s) (h2 : wpAny (model P w) A m2 Q E s) : wpAny (model P w) A (if c = true then m1 else m2) Q E s := by
  cases c with
  | true => exact h1
  | false => exact h2
theorem no_new {h₀ : Heap} (hk : Keeps h₀ s.heap) : h₀.get? s.heap.objs.size = none := by
  refine Option.eq_none_iff_forall_not_mem.mpr fun o e => Nat.lt_irrefl _ (Heap.lt_size (hk _ o (by simpa using e)))
end
/-- what stands between a list's signs -/
theorem text_len (ts : List Str) {n : Nat} (h : ∀ t ∈ ts, t.length ≤ n) : (textFrom 0 "[" ts ++ "]").length ≤ ts.length * (n + 2) + 2 := by
  have e1 : ∀ x : Str, (x ++ ("]" : String)).length = x.length + 1 := fun x => by rw [strLen_append]; rfl
  rw [e1]
  cases ts with
  | nil => show (("[" : Str)).length + 1 ≤ _; simp; decide +kernel
  | cons t r =>
    have e2 : textFrom 0 "[" (t :: r) = textFrom 1 (("[" : Str) ++ (if (0 : Nat) > 0 then ", " else "" : String) ++ t) r := rfl
    have e3 : ((("[" : Str) ++ (if (0 : Nat) > 0 then ", " else "" : String) ++ t)).length = 1 + t.length := by rw [strLen_append, strLen_append]; rfl
    rw [e2, textFrom_length_pos r 1 _ Nat.one_pos, e3]
    have e4 : ∀ r : List Str, (∀ t ∈ r, t.length ≤ n) → piled r ≤ r.length * (n + 2) := fun r => by
      induction r with
      | nil => intro _; simp [piled]
      | cons x r ih =>
        intro hr
        have := ih fun t m => hr t (List.mem_cons_of_mem _ m)
        have := hr x List.mem_cons_self
        rw [piled_cons, List.length_cons, Nat.add_mul, Nat.one_mul]
        omega
    have := e4 r fun t m => h t (List.mem_cons_of_mem _ m)
    have := h t List.mem_cons_self
    rw [List.length_cons, Nat.add_mul, Nat.one_mul]
    omega
section
variable {P : Program} {w : World} {A : Around} {T : Result → Shared → Prop}
theorem sh_loop {a p : Addr} {its : Array Value} {h₀ : Heap} {k n b : Nat} (ne : a ≠ p) (hx : ∀ x ∈ its.toList, Sh h₀ k n x) (hp0 : h₀.get? p = none) (hu : A.units + (k + 1) < cLine) (hz : b + its.size * (n + 2) + n + 4 ≤ sizeLine) :
    ∀ (m i : Nat) (s : Shared) (oa : Obj) (na : Nat) (acc : Array Value) (c : Nat) (done : List (Str × Tok)) (z : Nat), its.size - i = m → i ≤ its.size → Keeps h₀ s.heap → s.heap.get? a = some oa → oa.data = .seq its na →
    s.heap.get? p = some { cls := .type "list", dict := none, data := .seq acc c, slots := #[] } → acc.toList = strValues done → done.length = i → (∀ q ∈ done, q.1.length ≤ n) → z ≤ b + i * (n + 2) →
    (∀ t h' u tk, t.length ≤ its.size * (n + 2) + 2 → (∀ x o, x ≠ p → s.heap.get? x = some o → h'.get? x = some o) → T (.ok (.ret (.str t u))) { s with heap := h', toks := tk }) →
    codeAny (model P w) A (.builtin "list.__repr__.loop" ⟨[.ref a, rawInt i, .ref p, rawInt (z : Int)], []⟩) T s := by
  intro m
  induction m with
  | zero =>
    intro i s oa na acc c done z hm hi hk ha hd hp hacc hlen hle hzz hT
    have hin : i = its.size := by omega
    refine codeAny_builtin F.entry_list_repr_loop (show wpAny _ _ (Builtin.«list.__repr__.loop» ⟨[.ref a, .int i 0, .ref p, .int (z : Int) 0], []⟩) _ _ s from ?_)
    rw [repr_loop_tree]
    refine wpAny_bind (wpAny_listItems ha hd ?_)
    have no : its[(i : Int).toNat]? = none := by simp [hin]
    simp only [no]
    unfold reprEnd
    refine wpAny_bind (wpAny_listItems hp rfl ?_)
    rw [hacc, repr_fold, pure_bind]
    have tl := text_len (done.map (·.1)) (n := n) fun t mt => by
      obtain ⟨q, mq, e⟩ := List.mem_map.mp mt
      rw [← e]; exact hle q mq
    rw [List.length_map, hlen, hin] at tl
    refine wpAny_bind (wpAny_mkStr (wpAny_pure ?_) (by omega))
    exact hT _ s.heap _ _ tl fun _ _ _ e => e
  | succ m ih =>
    intro i s oa na acc c done z hm hi hk ha hd hp hacc hlen hle hzz hT
    have lt : i < its.size := by omega
    have hz2 : i * (n + 2) + (n + 2) ≤ its.size * (n + 2) := by
      have : (i + 1) * (n + 2) ≤ its.size * (n + 2) := Nat.mul_le_mul_right _ lt
      rw [Nat.add_mul, Nat.one_mul] at this
      exact this
    refine codeAny_builtin F.entry_list_repr_loop (show wpAny _ _ (Builtin.«list.__repr__.loop» ⟨[.ref a, .int i 0, .ref p, .int (z : Int) 0], []⟩) _ _ s from ?_)
    rw [repr_loop_tree]
    refine wpAny_bind (wpAny_listItems ha hd ?_)
    have so : its[(i : Int).toNat]? = some its[i] := by simp [lt]
    simp only [so]
    rw [Int.toNat_natCast]
    refine wpAny_bind (wpAny_holding (hx its[i] (by simp) P w (z + 1) _ _ _ _ (by omega) (by rw [units_under_list_loop]; omega) hk fun t h' tk tl kp => ?_))
    refine wpAny_bind (wpAny_mkStr ?_ (by show t.length ≤ sizeLine; omega))
    refine wpAny_bind ?_
    show wpAny _ _ (updateSeq p _) _ _ _
    have asz : acc.size ≤ sizeLine := by
      have q1 := congrArg List.length hacc
      have q2 : i ≤ i * (n + 2) := Nat.le_mul_of_pos_right _ (by omega)
      simp only [Array.length_toList, strValues, List.length_map, hlen] at q1
      omega
    refine wpAny_updateSeq (kp _ _ hp) rfl (wpAny_pure ⟨F.quiet_list_repr_loop _, ?_⟩) asz
    have next : ((i : Int) + 1) = (((i + 1) : Nat) : Int) := Int.natCast_succ i |>.symm
    have upd : ∀ {x : Addr} {o : Obj} {f : Obj → Obj}, x ≠ p → h'.get? x = some o → (h'.update p f).get? x = some o := fun {x o f} nx e => (Heap.get?_update_other _ _ (fun q : p = x => nx q.symm)).trans e
    rw [next]
    refine ih (i + 1) _ oa na (acc.push (.str t tk)) _ (done ++ [(t, tk)]) _ (by omega) lt (fun x o e => upd (fun q => by rw [q, hp0] at e; cases e) (kp _ _ (hk _ _ e))) (upd ne (kp _ _ ha)) hd (Heap.get?_update_self _ (kp _ _ hp) rfl)
      (by simp [hacc, strValues]) (by simp [hlen]) (fun q mq => ?_) (by rw [Nat.add_mul, Nat.one_mul]; omega) fun t' h'' u tk' tl' kp' => ?_
    · rcases List.mem_append.mp mq with mq | mq
      · exact hle q mq
      · rw [List.mem_singleton.mp mq]; exact tl
    · exact hT t' h'' u tk' tl' fun x o nx e => kp' x o nx (upd nx (kp _ _ e))
end
/-- list.__repr__, taken apart -/
theorem list_tree (b : Nat) (t : Value) : ∃ f : Code × Pos → Bool, Builtin.listReprAt b ⟨[t], []⟩ = (do
    if (← Builtin.List.listItems t).isEmpty then (do rule "list.__repr__.empty"; retStr "[]")
    else (do
      let st ← stack
      if st.tail.any f then (do rule "list.__repr__.in-itself"; retStr "[...]")
      else (do
        let p ← newList []
        again (.builtin "list.__repr__.loop" ⟨[t, rawInt 0, p, rawInt b], []⟩)))) := ⟨_, rfl⟩
section
variable {P : Program} {w : World} {A : Around} {T : Result → Shared → Prop} {s : Shared}
theorem sh_at {a : Addr} {oa : Obj} {its : Array Value} {na k n b : Nat} {h₀ : Heap} (ha : h₀.get? a = some oa) (hd : oa.data = .seq its na) (hx : ∀ x ∈ its.toList, Sh h₀ k n x) (hk : Keeps h₀ s.heap) (hu : A.units + (k + 1) < cLine)
    (hz : b + its.size * (n + 2) + n + 10 ≤ sizeLine) (hT : ∀ t h' u tk, t.length ≤ its.size * (n + 2) + 5 → Keeps s.heap h' → T (.ok (.ret (.str t u))) { s with heap := h', toks := tk }) :
    wpAny (model P w) A.in1 (Builtin.listReprAt b ⟨[.ref a], []⟩)
      (fun fin s' => match fin with | .done f => T (.ok f) s' | .again c' => c'.quiet = true ∧ codeAny (model P w) A c' T s') (fun e s' => T (.error e) s') s := by
  obtain ⟨f, e⟩ := list_tree b (.ref a)
  rw [e]
  refine wpAny_bind (wpAny_listItems (hk _ _ ha) hd ?_)
  have l1 : ("[]" : Str).length ≤ 5 := by decide +kernel
  have l2 : ("[...]" : Str).length ≤ 5 := by decide +kernel
  refine under (say (by omega) fun u tk => hT "[]" s.heap u tk (by omega) Keeps.refl) (wpAny_bind (wpAny_stack_any fun st => under (say (by omega) fun u tk => hT "[...]" s.heap u tk (by omega) Keeps.refl) ?_))
  refine wpAny_bind (wpAny_newObj_type (wpAny_pure ⟨F.quiet_list_repr_loop _, ?_⟩))
  have lt := Heap.lt_size (hk _ _ ha)
  refine sh_loop (p := s.heap.objs.size) (b := b) (Nat.ne_of_lt lt) hx (no_new hk) hu (by omega) its.size 0 _ oa na #[] _ [] b (by omega) (Nat.zero_le _) (fun x o e => Heap.get?_push_of_some _ (hk _ _ e)) (Heap.get?_push_of_some _ (hk _ _ ha)) hd
    (Heap.get?_push_size _ rfl) rfl rfl (fun _ h => nomatch h) (by omega) fun t h' u tk tl kp => ?_
  exact hT t h' u tk (by omega) fun x o e => kp x o (Nat.ne_of_lt (Heap.lt_size e)) (Heap.get?_push_of_some _ e)
end
theorem Sh.list {a : Addr} {oa : Obj} {its : Array Value} {na k n : Nat} {h₀ : Heap} (ha : h₀.get? a = some oa) (hc : oa.cls = .type "list") (hd : oa.data = .seq its na) (hx : ∀ x ∈ its.toList, Sh h₀ k n x) (hs : its.size ≤ 10) :
    Sh h₀ (k + 2) (10 * (n + 2) + n + 20) (.ref a) := fun P w b A E s Q hb hu hk q => by
  have hz : its.size * (n + 2) ≤ 10 * (n + 2) := Nat.mul_le_mul_right _ hs
  refine wpAny_pyReprUnder_ref (by omega) ?_
  refine wpAny_pyReprObjUnder_twin (twin := "list.__repr__.under") ⟨oa, hk _ _ ha, hc⟩ F.slot_list_repr.toG rfl (by omega) ?_
  refine call_twin_plain F.plain_list_repr_under F.entry_list_repr_under F.check_list_repr_under ⟨oa, hk _ _ ha, hc⟩ F.slot_list_repr.toG (F.args_list_repr_1 _) ?_
  exact sh_at ha hd hx hk (by omega) (by omega) fun t h' u tk tl kp => ⟨⟨t, u, rfl⟩, t, u, rfl, q t h' tk (by omega) kp⟩
/-- what str asks of an object -/
structure SB (h₀ : Heap) (n : Nat) (a : Addr) (T idr : String) : Prop where
  r : SlotG T "__repr__" idr
  s : Slot T "__str__" "object.__str__"
  t : ∀ s : Shared, Keeps h₀ s.heap → s.TypeIs (.ref a) T
  c : ∀ (P : Program) (w : World) (A : Around) (E : Value → Shared → Prop) (s : Shared) (Q : Value → Shared → Prop), A.units + 20 < cLine → Keeps h₀ s.heap →
    (∀ x h' u tk, x.length ≤ n → Keeps s.heap h' → Q (.str x u) { s with heap := h', toks := tk }) → wpAny (model P w) A (call (.builtin idr) [.ref a]) Q E s
section
variable {P : Program} {w : World} {A : Around} {E : Value → Shared → Prop} {s : Shared} {Q : Value → Shared → Prop} {h₀ : Heap} {n : Nat} {a : Addr} {T idr : String}
theorem SB.str (S : SB h₀ n a T idr) (hu : A.units + 40 < cLine) (hk : Keeps h₀ s.heap) (hQ : ∀ x h' u tk, x.length ≤ n → Keeps s.heap h' → Q (.str x u) { s with heap := h', toks := tk }) :
    wpAny (model P w) A (call (.type "str") [.ref a]) Q E s := by
  let Sp : PySem.Spec := fun A' R s' => A'.units + 35 < cLine ∧ Keeps h₀ s'.heap ∧ ∀ x h' u tk, x.length ≤ n → Keeps s'.heap h' → R (.ok (.ret (.str x u))) { s' with heap := h', toks := tk }
  refine callType_new F.called_str (by decide) (F.typeCall_str_1 _) (F.newCall_str_1 _) (fun obj => F.args_object_init_2 obj _) F.entry_str_new (meets_str_new (S := Sp) fun P' w' A' R s' h => ?_)
    (show Sp A.in1 _ s from ⟨by show A.units + 1 + 35 < cLine; omega, hk, fun x h' u tk l kp => ⟨typeIs_str _ _ _, hQ x h' u tk l kp⟩⟩)
  obtain ⟨h1, h2, h3⟩ := h
  refine wpAny_strOf_slot rfl (by show A'.units + 1 + 1 < cLine; omega) (S.t s' h2) S.s S.r ?_
  exact S.c P' w' _ _ s' _ (by show A'.units + 1 + 1 + 20 < cLine; omega) h2 fun x h' u tk l kp => ⟨x, u, rfl, h3 x h' u tk l kp⟩
end
theorem SB.ofList {h₀ : Heap} {a : Addr} {oa : Obj} {its : Array Value} {na n : Nat} (ha : h₀.get? a = some oa) (hc : oa.cls = .type "list") (hd : oa.data = .seq its na) (hx : ∀ x ∈ its.toList, Sh h₀ 10 n x) (hs : its.size ≤ 10) (hn : n ≤ 10000) :
    SB h₀ (10 * (n + 2) + 5) a "list" "list.__repr__" where
  r := F.slot_list_repr.toG
  s := F.slot_list_str
  t := fun s hk => ⟨oa, hk _ _ ha, hc⟩
  c := fun P w A E s Q hu hk hQ => by
    have hz : its.size * (n + 2) ≤ 10 * (n + 2) := Nat.mul_le_mul_right _ hs
    have hl := sizeLine_eq
    exact wpAny_call (codeAny_call_builtin F.slot_list_repr.plain F.entry_list_repr (F.slot_list_repr.check _ _ _ _ _ _ _ _ ⟨oa, hk _ _ ha, hc⟩ (F.args_list_repr_1 _)
      (sh_at (b := 0) (T := callEnd Q E) ha hd hx hk (by omega) (by omega) fun t h' u tk tl kp => hQ t h' u tk (by omega) kp)))
theorem SB.ofTup {h₀ : Heap} {a : Addr} {oa : Obj} {its : Array Value} {na : Nat} {ts : List Str} (ha : h₀.get? a = some oa) (hc : oa.cls = .type "tuple") (hd : oa.data = .seq its na) (hx : ∀ P w, ReprAll P w its.toList ts) (hn : (tupleText ts).length ≤ 10000) :
    SB h₀ 11000 a "tuple" "tuple.__repr__" where
  r := F.slot_tuple_repr
  s := F.slot_tuple_str
  t := fun s hk => ⟨oa, hk _ _ ha, hc⟩
  c := fun P w A E s Q hu hk hQ => fmt_tuple_repr (hk _ _ ha) hc hd (hx P w) (by have := sizeLine_eq; omega) fun m u tk hm => hQ m s.heap u tk (by omega) Keeps.refl
theorem SB.ofNil {h₀ : Heap} {a : Addr} {oa : Obj} {na : Nat} (ha : h₀.get? a = some oa) (hc : oa.cls = .type "dict") (hd : oa.data = .dict #[] na) (hsys : (a == sysModules) = false) : SB h₀ 10 a "dict" "dict.__repr__" where
  r := F.slot_dict_repr
  s := F.slot_dict_str
  t := fun s hk => ⟨oa, hk _ _ ha, hc⟩
  c := fun P w A E s Q hu hk hQ => by
    have l1 : ("{...}" : Str).length ≤ 10 := by decide +kernel
    have l2 : ((("{" : Str) ++ Str.join ", " [] ++ ("}" : String))).length ≤ 10 := by decide +kernel
    have hl := sizeLine_eq
    refine wpAny_call (codeAny_call_builtin_own (Code.quiet_builtin _ (by decide +kernel)) F.entry_dict_repr (F.slot_dict_repr.check _ _ _ _ _ _ _ _ ⟨oa, hk _ _ ha, hc⟩ (F.args_dict_repr_1 _) (wpOwn_of_wpAny ?_)))
    show wpAny _ _ (Builtin.dictReprAt 0 ⟨[.ref a], []⟩) _ _ s
    unfold Builtin.dictReprAt Builtin.Dict.dictSlotNone
    refine wpAny_bind (wpAny_bind (wpAny_notOrdered_dict ⟨oa, hk _ _ ha, hc⟩ (show wpAny _ _ (pure (.ref a) : Sem Value) _ _ s from wpAny_pure ?_)))
    rw [dictReprRunning_eq]
    refine wpAny_bind (wpAny_bind (wpAny_stack_any fun st => wpAny_pure (under (say l1 fun u tk => hQ "{...}" s.heap u tk l1 Keeps.refl) ?_)))
    refine wpAny_bind (m := Builtin.Dict.addrOf (.ref a)) (wpAny_pure ?_)
    refine wpAny_bind (m := Builtin.Dict.showsAll a) ?_
    have ns : ¬ (a == sysModules) = true := by rw [hsys]; decide
    unfold Builtin.Dict.showsAll
    rw [if_neg ns]
    refine wpAny_pure (wpAny_bind (wpAny_dictEpoch (hk _ _ ha) hd (wpAny_bind (wpAny_dictEntries (hk _ _ ha) hd (wpAny_bind ?_)))))
    rw [Std.Legacy.Range.forIn_eq_forIn_range', show (List.range' (0 : Nat) _ 1) = [] from rfl, List.forIn_nil]
    refine wpAny_pure ?_
    refine wpAny_bind (wpAny_mkStr (wpAny_pure ?_) (by show ((("{" : Str) ++ Str.join ", " [] ++ ("}" : String))).length ≤ sizeLine; omega))
    exact hQ _ s.heap _ _ l2 Keeps.refl
end Mi
set_option Elab.async false
set_option linter.all false
set_option maxRecDepth 100000
set_option maxHeartbeats 4000000
namespace Mi
open PySem PySem.Spec PyProof.Rows L2
def isT60 : MV → Bool
  | .str x => Nat.ble (reprText x).length 60
  | _ => false
def itemM : MV → Bool
  | .non => true
  | .str x => isT60 (.str x)
  | .lst ys => ys.all isT60 && Nat.ble ys.length 10
  | _ => false
def showM : MV → Bool
  | .non => true
  | .str x => Nat.ble x.length 100
  | .lst xs => xs.all itemM && Nat.ble xs.length 10
  | .tup xs => xs.all isT60 && Nat.ble xs.length 10
  | .dct [] _ => true
  | _ => false
theorem isT60_cases {d : MV} (h : isT60 d = true) : ∃ x, d = .str x ∧ (reprText x).length ≤ 60 := by
  unfold isT60 at h
  split at h
  · exact ⟨_, rfl, Nat.le_of_ble_eq_true h⟩
  · cases h
theorem texts_of {C : RC} : ∀ {ds : List MV} {vs : List V} {us : List Value}, RepVs C ds vs → Vals vs us → ds.all isT60 = true →
    ∃ xs : List Str, us.length = xs.length ∧ (∀ x ∈ xs, (reprText x).length ≤ 60) ∧ (∀ P w, ReprAll P w us (xs.map reprText)) ∧ ∀ u ∈ us, ∃ x t, u = Value.str x t ∧ (reprText x).length ≤ 60
  | [], _, _, r, t, _ => by
    cases r.nil_inv; cases t
    exact ⟨[], rfl, (fun _ h => nomatch h), fun _ _ => .nil, fun _ h => nomatch h⟩
  | d :: ds, _, _, r, t, h => by
    obtain ⟨v, vr, rfl, h1, h2⟩ := r.cons_inv
    cases t with
    | cons t1 t2 =>
      rw [List.all_cons] at h
      obtain ⟨z1, z2⟩ := Bool.and_eq_true_iff.mp h
      obtain ⟨x, rfl, l⟩ := isT60_cases z1
      cases vStr h1
      obtain ⟨tk, rfl⟩ := t1
      obtain ⟨xs, e1, e2, e3, e4⟩ := texts_of h2 t2 z2
      refine ⟨x :: xs, by simp [e1], fun y m => ?_, fun P w => .cons (ReprIs.str x tk (by have := sizeLine_eq; omega)) (e3 P w), fun u m => ?_⟩
      · rcases List.mem_cons.mp m with m | m
        · rw [m]; exact l
        · exact e2 y m
      · rcases List.mem_cons.mp m with m | m
        · exact ⟨x, tk, m, l⟩
        · exact e4 u m
theorem tup60 : ∀ (xs : List Str), (∀ x ∈ xs, (reprText x).length ≤ 60) → (tupleText (xs.map reprText)).length ≤ xs.length * 62 + 10 := fun xs h => by
  have p : ∀ xs : List Str, (∀ x ∈ xs, (reprText x).length ≤ 60) → piled (xs.map reprText) ≤ xs.length * 62 := fun xs => by
    induction xs with
    | nil => intro _; simp [piled]
    | cons x r ih =>
      intro hr
      have := ih fun y m => hr y (List.mem_cons_of_mem _ m)
      have := hr x List.mem_cons_self
      rw [List.map_cons, piled_cons, List.length_cons]
      omega
  have := fmt_text (xs.map reprText)
  have := p xs h
  omega
section
variable {X : Cx} {pins : List (Addr × Obj)} {σ : L2.St} {s : Shared} {C : RC}
theorem list_of {a : Addr} {vs : List V} (I : Inv X pins σ C.H s) (h : C.H a = some (.lst vs)) : ∃ its o n, Vals vs its ∧ s.heap.get? a = some o ∧ o.cls = .type "list" ∧ o.data = .seq its.toArray n := by
  obtain ⟨its, r, ⟨o, n, e, hc, _, hd⟩, _⟩ := I.list (.inl (.inl h))
  exact ⟨its, o, n, r, e, hc, hd⟩
theorem item_sh (I : Inv X pins σ C.H s) {d : MV} {v : V} {u : Value} (r : RepV C d v) (t : RelV v u) (h : itemM d = true) : Sh s.heap 10 700 u := by
  have l1 : ("None" : Str).length ≤ 700 := by decide +kernel
  have l0 := sizeLine_eq
  cases d with
  | non =>
    cases vNon r
    cases t
    exact Sh.leaf (fun P w => ReprIs.none) l1
  | str x =>
    cases vStr r
    obtain ⟨tk, rfl⟩ := t
    have := Nat.le_of_ble_eq_true (show Nat.ble (reprText x).length 60 = true from h)
    exact Sh.leaf (fun P w => ReprIs.str x tk (by omega)) (by omega)
  | lst ys =>
    obtain ⟨z1, z2⟩ := Bool.and_eq_true_iff.mp (show (ys.all isT60 && Nat.ble ys.length 10) = true from h)
    rw [RepV] at r
    obtain ⟨a, vs, rfl, _, ha, tt⟩ := r
    obtain ⟨its, o, n, rv, e, hc, hd⟩ := list_of I ha
    cases t
    obtain ⟨xs, e1, e2, e3, e4⟩ := texts_of tt rv z1
    have hl : its.length ≤ 10 := by rw [← rv.length, ← tt.length]; exact Nat.le_of_ble_eq_true z2
    refine Sh.list (k := 8) (n := 60) e hc hd (fun x m => ?_) (by simpa using hl)
    obtain ⟨y, tk, rfl, l⟩ := e4 x (by simpa using m)
    exact Sh.leaf (fun P w => ReprIs.str y tk (by omega)) l
  | _ => cases h
theorem items_sh (I : Inv X pins σ C.H s) : ∀ {ds : List MV} {vs : List V} {us : List Value}, RepVs C ds vs → Vals vs us → ds.all itemM = true → ∀ u ∈ us, Sh s.heap 10 700 u
  | [], _, _, r, t, _, u, m => by
    cases r.nil_inv; cases t
    cases m
  | d :: ds, _, _, r, t, h, u, m => by
    obtain ⟨v, vr, rfl, h1, h2⟩ := r.cons_inv
    cases t with
    | cons t1 t2 =>
      rw [List.all_cons] at h
      obtain ⟨z1, z2⟩ := Bool.and_eq_true_iff.mp h
      rcases List.mem_cons.mp m with m | m
      · subst m; exact item_sh I h1 t1 z1
      · exact items_sh I h2 t2 z2 u m
end
def rStrA (X : Cx) : List V → Hp → VK → Prop := fun vs H Q => ∃ (C : RC) (S : Sto) (d : MV) (v : V), C.H = H ∧ C.w = X.w ∧ C.K = X.K ∧ RepS C S ∧ vs = [v] ∧ RepV C d v ∧ showM d = true ∧ ∀ m : Str, m.length ≤ 20000 → Q (.str m) H
theorem call_strA {X : Cx} (hu : X.A.units + 100 < cLine) : CallR X (.type "str") (rStrA X) := by
  intro pins s σ H vs us Q I rq h
  obtain ⟨C, S, d, v, rfl, hw, hK, r, rfl, rd, sd, q⟩ := h
  obtain ⟨u, rfl, t⟩ := vals1 rq
  have l1 : ("None" : Str).length ≤ 20000 := by decide +kernel
  have byS : ∀ {a : Addr} {n : Nat} {T idr : String}, u = .ref a → n ≤ 20000 → SB s.heap n a T idr → wpAny (model X.prog X.w) X.A (call (.type "str") [u]) (EP X pins σ Q) X.xe s := fun {a n T idr} e l B => by
    subst e
    exact B.str (by omega) Keeps.refl fun x h' u tk lx kp => ⟨.str x, C.H, I.kept kp, ⟨u, rfl⟩, q x (by omega)⟩
  cases d with
  | non =>
    cases vNon rd
    cases t
    exact PySem.P.str_of_none ⟨.str _, C.H, I.tok _, ⟨_, rfl⟩, q _ l1⟩
  | str x =>
    cases vStr rd
    obtain ⟨tk, rfl⟩ := t
    have := Nat.le_of_ble_eq_true (show Nat.ble x.length 100 = true from sd)
    exact PySem.P.str_of_str ⟨.str x, C.H, I, ⟨tk, rfl⟩, q x (by omega)⟩
  | lst xs =>
    obtain ⟨z1, z2⟩ := Bool.and_eq_true_iff.mp (show (xs.all itemM && Nat.ble xs.length 10) = true from sd)
    rw [RepV] at rd
    obtain ⟨a, vs, rfl, _, ha, tt⟩ := rd
    obtain ⟨its, o, n, rv, e, hc, hd⟩ := list_of I ha
    cases t
    have hl : its.length ≤ 10 := by rw [← rv.length, ← tt.length]; exact Nat.le_of_ble_eq_true z2
    exact byS rfl (by decide) (SB.ofList (n := 700) e hc hd (fun x m => items_sh I tt rv z1 x (by simpa using m)) (by simpa using hl) (by decide))
  | tup xs =>
    obtain ⟨z1, z2⟩ := Bool.and_eq_true_iff.mp (show (xs.all isT60 && Nat.ble xs.length 10) = true from sd)
    rw [RepV] at rd
    obtain ⟨a, vs, rfl, ha, tt⟩ := rd
    rw [hK] at ha
    obtain ⟨its, rv, ⟨o, e, hc, n, hd⟩, _⟩ := I.tuple ha
    cases t
    obtain ⟨ys, e1, e2, e3, e4⟩ := texts_of tt rv z1
    have hl : ys.length ≤ 10 := by rw [← e1, ← rv.length, ← tt.length]; exact Nat.le_of_ble_eq_true z2
    have := tup60 ys e2
    exact byS rfl (by decide) (SB.ofTup e hc hd (fun P w => by simpa using e3 P w) (by omega))
  | dct ks ds =>
    cases ks with
    | cons k ks => cases sd
    | nil =>
      rw [RepV] at rd
      obtain ⟨a, vs, rfl, _, ra, lv, _, tt⟩ := rd
      cases t
      obtain ⟨_, hsys, us, rel, dof⟩ := dk_rd I.hok ra
      have : vs = [] := List.length_eq_zero_iff.mp lv.symm
      subst this
      have : us = [] := List.length_eq_zero_iff.mp (by have := rel.length; simpa using this.symm)
      subst this
      obtain ⟨ep, ob, es, ho, hex, hdat, hko, hpr, hnd⟩ := dof.dictAt
      have : es = #[] := by
        have := hpr.length
        simpa using this
      subst this
      exact byS rfl (by decide) (SB.ofNil ho hex.1 hdat hsys)
  | _ => cases sd
theorem wantsGrow {α : Type} {W : WX} {σ : L2.St} {C C1 : RC} {r : R α} {Q : α → Sto → RC → Prop} (h : Wants W σ C r Q) (g : Grow C C1) : Wants W σ C1 r Q := by
  cases r with
  | ok a S => exact fun C' g' r' => h C' (g.trans g') r'
  | exc c d S => exact fun C' cls dx g' r' e => h C' cls dx (g.trans g') r' e
  | stk => exact h
open Classical in
noncomputable def mBoth (m1 m2 : MF) : MF := fun ds S => if m1 ds S = m2 ds S then m1 ds S else .stk
theorem mBoth_eq {m1 m2 : MF} {ds : List MV} {S : Sto} {r : R MV} (h1 : m1 ds S = r) (h2 : m2 ds S = r) : mBoth m1 m2 ds S = r := by
  unfold mBoth
  rw [if_pos (h1.trans h2.symm), h1]
theorem mBoth_1 {m1 m2 : MF} {w : World} {K : PySem.W.Frag} {n : Nat} : ∀ vs H Q E, spM w K n (mBoth m1 m2) vs H Q E → spM w K n m1 vs H Q E := fun vs H Q E ⟨l, C, S, ds, e1, e2, e3, e4, e5, q⟩ => by
  refine ⟨l, C, S, ds, e1, e2, e3, e4, e5, ?_⟩
  unfold mBoth at q
  split at q
  · exact q
  · exact q.elim
theorem mBoth_2 {m1 m2 : MF} {w : World} {K : PySem.W.Frag} {n : Nat} : ∀ vs H Q E, spM w K n (mBoth m1 m2) vs H Q E → spM w K n m2 vs H Q E := fun vs H Q E ⟨l, C, S, ds, e1, e2, e3, e4, e5, q⟩ => by
  refine ⟨l, C, S, ds, e1, e2, e3, e4, e5, ?_⟩
  unfold mBoth at q
  split at q
  · rename_i e
    rw [← e]; exact q
  · exact q.elim
noncomputable def mPick (m1 m2 : MF) (me : ME) (mas : MA) : ME := fun ρ S => (me ρ S).bind fun d S1 => if showM d = true then mCallF (mBoth m1 m2) mas ρ S1 else .stk
/-- the index -/
def tPar (X : Cx) (te : TE) : TE := fun σ H Q => te σ H fun v H1 => rStrA X [v] H1 fun y H2 => ∃ z : Str, [y] = [V.str z] ∧ z.length ≤ sizeLine ∧ ∃ i j : Int, V.int z.length = .int i ∧ V.int 2 = .int j ∧ 0 < j ∧ Q (.int (i % j)) H2
/-- one of two defs, out of a list of them -/
def tPick (K : PySem.W.Frag) (a1 a2 : Addr) (ti : TE) (sp : Sp) (E : L2.St → XK) (t : TA) : TE := fun σ H Q => 2 ≤ sizeLine ∧ ∀ p, H p = none → ti σ (upd H p (.lst [.ref a1, .ref a2])) fun y H2 =>
  rIxL K (.ref p) y H2 fun x H3 => (x = .ref a1 ∨ x = .ref a2) ∧ t σ H3 fun vs H4 => sp vs H4 Q (E σ)
section
variable {X : Cx} {W : WX} {e a ix : Expr} {as : List Expr} {me : ME} {mas : MA} {pos p1 p2 lp q1 q2 q3 q4 q5 sp c1 : Pos} {c0 k n j : Nat} {f1 f2 : Str} {m1 m2 : MF}
theorem pe_par {te : TE} (hu : X.A.units + 100 < cLine) (gl : Gl X "len") (ml : X.mg "len" = none) (gs : Gl X "str") (ms : X.mg "str" = none) (he : PE X e te)
    (s1 : starEach [e] X.env = (false, eval e X.env) :: starEach [] X.env)
    (s2 : starEach [.Call (.Name "str" q2) [e] [] q3] X.env = (false, eval (.Call (.Name "str" q2) [e] [] q3) X.env) :: starEach [] X.env) (bs : bootBuiltins "str" = some (.type "str"))
    (d1 : (backTo q3 (starEach [] X.env)).any (·.1) = false) (d2 : (backTo q4 (starEach [] X.env)).any (·.1) = false) :
    PE X (.BinOp (.Call (.Name "len" q1) [.Call (.Name "str" q2) [e] [] q3] [] q4) .Mod (.Constant (.int 2) c0 c1) q5) (tPar X te) :=
  (pe_op op_mod (pe_callB call_len_str gl ml boot_len (pa_cons (pe_callTy (call_strA hu) gs ms bs (pa_cons he pa_nil s1) (by decide) (by decide) s1 d1) pa_nil s2) (by decide) (by decide) s2 d2) pe_int).imp fun σ H Q h => h
theorem pe_pick {ti : TE} {t : TA} {a1 a2 : Addr} {fd1 fd2 : FuncData} {ps1 ps2 : List Str} {sc : Sp} {E : L2.St → XK} (F1 : FnOk X.prog X.w X.K X.mg X.base (L2.CX X.prog X.w) k a1 fd1 ps1 sc) (F2 : FnOk X.prog X.w X.K X.mg X.base (L2.CX X.prog X.w) k a2 fd2 ps2 sc)
    (hr : Room k X.A) (g1 : Gl X f1) (g2 : Gl X f2) (w1 : X.mg f1 = some (.ref a1)) (w2 : X.mg f2 = some (.ref a2)) (k1 : PySem.W.keepIn X.K (.ref a1) = true) (k2 : PySem.W.keepIn X.K (.ref a2) = true) (b1 : Binds X.K fd1 ps1 []) (b2 : Binds X.K fd2 ps2 [])
    (hx : ∀ σ, PassesAt (L2.CX X.prog X.w) X σ (E σ)) (hi : PE X ix ti) (ha : PA X (a :: as) t) (dbg1 : (f1 == ("__debug__" : Str)) = false) (dbg2 : (f2 == ("__debug__" : Str)) = false) (hs : PlainIx ix)
    (hl1 : starEach [.Name f1 p1, .Name f2 p2] X.env = (false, eval (.Name f1 p1) X.env) :: starEach [.Name f2 p2] X.env) (hl2 : starEach [.Name f2 p2] X.env = (false, eval (.Name f2 p2) X.env) :: starEach [] X.env)
    (hst : starEach (a :: as) X.env = (false, eval a X.env) :: starEach as X.env) (hpl : (backTo pos (starEach as X.env)).any (·.1) = false)
    (hev : eval (.Call (.Subscript (.List [.Name f1 p1, .Name f2 p2] lp) ix sp) (a :: as) [] pos) X.env = (do callWith pos (← eval (.Subscript (.List [.Name f1 p1, .Name f2 p2] lp) ix sp) X.env) [] (backTo pos (starEach (a :: as) X.env)) (backToKw pos (keywordEach [] X.env)))) :
    PE X (.Call (.Subscript (.List [.Name f1 p1, .Name f2 p2] lp) ix sp) (a :: as) [] pos) (tPick X.K a1 a2 ti sc E t) := by
  have hp : PE X (.Subscript (.List [.Name f1 p1, .Name f2 p2] lp) ix sp) _ := pe_ix ix_list (pe_lst (pa_cons (pe_glob g1 w1 (v := .ref a1) rfl dbg1) (pa_cons (pe_glob g2 w2 (v := .ref a2) rfl dbg2) pa_nil hl2) hl1)) hi hs
  refine ⟨fun pins s σ H Q I h => Call_ ?_ hev⟩
  refine thn (hp.run pins s σ H (fun x H3 => (x = .ref a1 ∨ x = .ref a2) ∧ t σ H3 fun vs H4 => sc vs H4 Q (E σ)) I h) fun v s1 ⟨x, H1, I1, r1, hx1, q1⟩ => ?_
  rcases hx1 with rfl | rfl
  · cases r1
    refine PySem.W.callWith_K (h₀ := X.base) I1.ok.mod.kin k1 (thn (ha.run pos pins s1 σ H1 _ I1 q1) fun us s2 ⟨vs, H2, I2, r, q⟩ => ⟨I2.kIn, ?_⟩) hst hpl
    exact run_fnS F1 hr b1 (hx σ) I2 r q
  · cases r1
    refine PySem.W.callWith_K (h₀ := X.base) I1.ok.mod.kin k2 (thn (ha.run pos pins s1 σ H1 _ I1 q1) fun us s2 ⟨vs, H2, I2, r, q⟩ => ⟨I2.kIn, ?_⟩) hst hpl
    exact run_fnS F2 hr b2 (hx σ) I2 r q
theorem se_pick {i1 i2 : Nat} (h1 : FN X.prog X.w X.K X.mg X.base i1 n f1 m1) (h2 : FN X.prog X.w X.K X.mg X.base i2 n f2 m2) (hr : Room j X.A) (l1 : i1 ≤ j) (l2 : i2 ≤ j) (g1 : Gl X f1) (g2 : Gl X f2) (tk : Takes X W) (gl : Gl X "len") (ml : X.mg "len" = none) (gs : Gl X "str") (ms : X.mg "str" = none)
    (he : SE X W e me) (ha : SA X W (a :: as) mas) (hl : LenA mas n) (dbg1 : (f1 == ("__debug__" : Str)) = false := by decide) (dbg2 : (f2 == ("__debug__" : Str)) = false := by decide)
    (s1 : starEach [e] X.env = (false, eval e X.env) :: starEach [] X.env := by rfl) (s2 : starEach [.Call (.Name "str" q2) [e] [] q3] X.env = (false, eval (.Call (.Name "str" q2) [e] [] q3) X.env) :: starEach [] X.env := by rfl)
    (d1 : (backTo q3 (starEach [] X.env)).any (·.1) = false := by rfl) (d2 : (backTo q4 (starEach [] X.env)).any (·.1) = false := by rfl)
    (hs : PlainIx (.BinOp (.Call (.Name "len" q1) [.Call (.Name "str" q2) [e] [] q3] [] q4) .Mod (.Constant (.int 2) c0 c1) q5) := by exact fun _ _ => rfl)
    (hl1 : starEach [.Name f1 p1, .Name f2 p2] X.env = (false, eval (.Name f1 p1) X.env) :: starEach [.Name f2 p2] X.env := by rfl) (hl2 : starEach [.Name f2 p2] X.env = (false, eval (.Name f2 p2) X.env) :: starEach [] X.env := by rfl)
    (hst : starEach (a :: as) X.env = (false, eval a X.env) :: starEach as X.env := by rfl) (hpl : (backTo pos (starEach as X.env)).any (·.1) = false := by rfl)
    (hev : eval (.Call (.Subscript (.List [.Name f1 p1, .Name f2 p2] lp) (.BinOp (.Call (.Name "len" q1) [.Call (.Name "str" q2) [e] [] q3] [] q4) .Mod (.Constant (.int 2) c0 c1) q5) sp) (a :: as) [] pos) X.env
      = (do callWith pos (← eval (.Subscript (.List [.Name f1 p1, .Name f2 p2] lp) (.BinOp (.Call (.Name "len" q1) [.Call (.Name "str" q2) [e] [] q3] [] q4) .Mod (.Constant (.int 2) c0 c1) q5) sp) X.env) [] (backTo pos (starEach (a :: as) X.env)) (backToKw pos (keywordEach [] X.env))) := by rfl) :
    SE X W (.Call (.Subscript (.List [.Name f1 p1, .Name f2 p2] lp) (.BinOp (.Call (.Name "len" q1) [.Call (.Name "str" q2) [e] [] q3] [] q4) .Mod (.Constant (.int 2) c0 c1) q5) sp) (a :: as) [] pos) (mPick m1 m2 me mas) := by
  obtain ⟨a1, fd1, ps1, F1, w1, k1, b1⟩ := h1
  obtain ⟨a2, fd2, ps2, F2, w2, k2, b2⟩ := h2
  have hu : X.A.units + 100 < cLine := by have := hr.un; omega
  refine (pe_pick (sc := spM X.w X.K n (mBoth m1 m2)) (E := WE W) ((F1.imp mBoth_1).mono l1) ((F2.imp mBoth_2).mono l2) hr g1 g2 w1 w2 k1 k2 b1 b2 (passAt tk) (pe_par hu gl ml gs ms he s1 s2 bt_str d1 d2) ha dbg1 dbg2 hs hl1 hl2 hst hpl hev).imp fun σ H Q ⟨C, ρ, S, e, s, q⟩ => ?_
  subst e
  refine ⟨by rw [sizeLine_eq]; decide, fun p hp => ?_⟩
  have g0 := Grow.put (C := C) (o := .lst [V.ref a1, V.ref a2]) hp
  have fz : Froz (C.put p (.lst [V.ref a1, V.ref a2])) p := .put s.rs hp
  have s0 : Sv X ρ σ S (C.put p (.lst [V.ref a1, V.ref a2])) := s.grow g0 (s.rs.put hp)
  have q0 := wantsGrow q g0
  refine tE.bind s0 q0 fun d S1 C1 v s1 g1 r1 q1 => ?_
  by_cases sd : showM d = true
  · rw [if_pos sd] at q1
    refine ⟨C1, S1, d, v, rfl, s1.w, s1.K, s1.rs, rfl, r1, sd, fun m hm => ⟨m, rfl, by have := sizeLine_eq; omega, _, _, rfl, rfl, by decide, ?_⟩⟩
    have there : C1.H p = some (.lst [V.ref a1, V.ref a2]) := (g1.kp p _ fz.1 put_same).exact (.inl fun _ h => by cases h)
    have go : tA X W mas σ C1.H fun vs H4 => spM X.w X.K n (mBoth m1 m2) vs H4 Q (WE W σ) := by
      refine ⟨C1, ρ, S1, rfl, s1, Wants.mono (Wants.bind q1) fun ds S2 C2 g r2 e1 q2 vs rv => ?_⟩
      refine ⟨by rw [← rv.length]; exact hl _ _ _ _ e1, C2, S2, ds, rfl, g.w.trans s1.w, g.K.trans s1.K, r2, rv, ?_⟩
      exact q2.1.wish fun cls dx H h => h
    have two : ((m.length : Nat) : Int) % 2 = 0 ∨ ((m.length : Nat) : Int) % 2 = 1 := by omega
    rcases two with z | z
    · exact ⟨p, _, _, .ref a1, rfl, rfl, .inl (.inl there), by rw [z]; rfl, .inl rfl, go⟩
    · exact ⟨p, _, _, .ref a2, rfl, rfl, .inl (.inl there), by rw [z]; rfl, .inr rfl, go⟩
  · rw [if_neg sd] at q1
    exact q1.elim
end
end Mi
set_option Elab.async false
set_option linter.all false
set_option maxRecDepth 100000
set_option maxHeartbeats 4000000
namespace Lw
open PySem PySem.Spec PyProof.Rows L2 Mi
/-- what the head tells -/
structure Gs (K : PySem.W.Frag) (mg : Str → Option Value) : Prop where
  b_all : mg "all" = none
  b_any : mg "any" = none
  b_bool : mg "bool" = none
  b_enumerate : mg "enumerate" = none
  b_int : mg "int" = none
  b_isinstance : mg "isinstance" = none
  b_len : mg "len" = none
  b_list : mg "list" = none
  b_range : mg "range" = none
  b_str : mg "str" = none
  b_sum : mg "sum" = none
  b_tuple : mg "tuple" = none
  b_zip : mg "zip" = none
  k_BLANK : KC mg K "BLANK" d_BLANK
  k_FAULTS : KC mg K "FAULTS" d_FAULTS
  k_FIGURES : KC mg K "FIGURES" d_FIGURES
  k_PARTS : KC mg K "PARTS" d_PARTS
  k_VALUES : KC mg K "VALUES" d_VALUES
  gc_BadDeed : mg "BadDeed" = some (.ref (He.ga K "BadDeed"))
  gc_BadFault : mg "BadFault" = some (.ref (He.ga K "BadFault"))
  gc_BadLine : mg "BadLine" = some (.ref (He.ga K "BadLine"))
  gc_BadRule : mg "BadRule" = some (.ref (He.ga K "BadRule"))
  gc_BadSeries : mg "BadSeries" = some (.ref (He.ga K "BadSeries"))
  gc_BadWeaving : mg "BadWeaving" = some (.ref (He.ga K "BadWeaving"))
  gc_BadWorld : mg "BadWorld" = some (.ref (He.ga K "BadWorld"))
  gc_Calendar : mg "Calendar" = some (.ref (He.ga K "Calendar"))
  gc_NothingDone : mg "NothingDone" = some (.ref (He.ga K "NothingDone"))
  gc_Refused : mg "Refused" = some (.ref (He.ga K "Refused"))
  gc_Rule : mg "Rule" = some (.ref (He.ga K "Rule"))
  gc_SeriesError : mg "SeriesError" = some (.ref (He.ga K "SeriesError"))
  c_Calendar : Cls K (He.ga K "Calendar")
  c_Rule : Cls K (He.ga K "Rule")
  n_Calendar_before : NoAttr K (He.ga K "Calendar") "before"
  n_Calendar_days : NoAttr K (He.ga K "Calendar") "days"
  n_Calendar_done : NoAttr K (He.ga K "Calendar") "done"
  n_Calendar_hours : NoAttr K (He.ga K "Calendar") "hours"
  n_Calendar_persons : NoAttr K (He.ga K "Calendar") "persons"
  n_Calendar_rooms : NoAttr K (He.ga K "Calendar") "rooms"
  n_Calendar_rows : NoAttr K (He.ga K "Calendar") "rows"
  n_Calendar_rule : NoAttr K (He.ga K "Calendar") "rule"
  n_Calendar_seen : NoAttr K (He.ga K "Calendar") "seen"
  n_Rule_checking : NoAttr K (He.ga K "Rule") "checking"
  n_Rule_halves : NoAttr K (He.ga K "Rule") "halves"
  n_Rule_singles : NoAttr K (He.ga K "Rule") "singles"
  n_Rule_telling : NoAttr K (He.ga K "Rule") "telling"
  x0_BadDeed : X0 K (He.ga K "BadDeed")
  xm_BadDeed_BadDeed : PySem.W.exmOne K (.ref (He.ga K "BadDeed")) (.ref (He.ga K "BadDeed")) = some true
  x0_BadFault : X0 K (He.ga K "BadFault")
  xm_BadFault_BadFault : PySem.W.exmOne K (.ref (He.ga K "BadFault")) (.ref (He.ga K "BadFault")) = some true
  n_BadLine_line : PySem.W.findIn K (.ref (He.ga K "BadLine")) "line" = some none
  xf_BadLine : XfC K (He.ga K "BadLine")
  xo_BadLine : OexC K (He.ga K "BadLine")
  xi_BadLine : PySem.W.findIn K (.ref (He.ga K "BadLine")) "__init__" = some (some (.ref (He.ma K (He.ga K "BadLine") "__init__")))
  xt_BadLine : PySem.W.typeIn K (.ref (He.ma K (He.ga K "BadLine") "__init__")) = some (.type "function")
  xm_BadLine_BadLine : PySem.W.exmOne K (.ref (He.ga K "BadLine")) (.ref (He.ga K "BadLine")) = some true
  n_BadRule_part : PySem.W.findIn K (.ref (He.ga K "BadRule")) "part" = some none
  xf_BadRule : XfC K (He.ga K "BadRule")
  xo_BadRule : OexC K (He.ga K "BadRule")
  xi_BadRule : PySem.W.findIn K (.ref (He.ga K "BadRule")) "__init__" = some (some (.ref (He.ma K (He.ga K "BadRule") "__init__")))
  xt_BadRule : PySem.W.typeIn K (.ref (He.ma K (He.ga K "BadRule") "__init__")) = some (.type "function")
  xm_BadRule_BadRule : PySem.W.exmOne K (.ref (He.ga K "BadRule")) (.ref (He.ga K "BadRule")) = some true
  x0_BadSeries : X0 K (He.ga K "BadSeries")
  xm_BadSeries_BadSeries : PySem.W.exmOne K (.ref (He.ga K "BadSeries")) (.ref (He.ga K "BadSeries")) = some true
  n_BadWeaving_at : PySem.W.findIn K (.ref (He.ga K "BadWeaving")) "at" = some none
  xf_BadWeaving : XfC K (He.ga K "BadWeaving")
  xo_BadWeaving : OexC K (He.ga K "BadWeaving")
  xi_BadWeaving : PySem.W.findIn K (.ref (He.ga K "BadWeaving")) "__init__" = some (some (.ref (He.ma K (He.ga K "BadWeaving") "__init__")))
  xt_BadWeaving : PySem.W.typeIn K (.ref (He.ma K (He.ga K "BadWeaving") "__init__")) = some (.type "function")
  xm_BadWeaving_BadWeaving : PySem.W.exmOne K (.ref (He.ga K "BadWeaving")) (.ref (He.ga K "BadWeaving")) = some true
  x0_BadWorld : X0 K (He.ga K "BadWorld")
  xm_BadWorld_BadWorld : PySem.W.exmOne K (.ref (He.ga K "BadWorld")) (.ref (He.ga K "BadWorld")) = some true
  x0_NothingDone : X0 K (He.ga K "NothingDone")
  xm_NothingDone_NothingDone : PySem.W.exmOne K (.ref (He.ga K "NothingDone")) (.ref (He.ga K "NothingDone")) = some true
  n_Refused_deed : PySem.W.findIn K (.ref (He.ga K "Refused")) "deed" = some none
  xf_Refused : XfC K (He.ga K "Refused")
  xo_Refused : OexC K (He.ga K "Refused")
  xi_Refused : PySem.W.findIn K (.ref (He.ga K "Refused")) "__init__" = some (some (.ref (He.ma K (He.ga K "Refused") "__init__")))
  xt_Refused : PySem.W.typeIn K (.ref (He.ma K (He.ga K "Refused") "__init__")) = some (.type "function")
  xm_Refused_Refused : PySem.W.exmOne K (.ref (He.ga K "Refused")) (.ref (He.ga K "Refused")) = some true
  x0_SeriesError : X0 K (He.ga K "SeriesError")
  xm_SeriesError_SeriesError : PySem.W.exmOne K (.ref (He.ga K "SeriesError")) (.ref (He.ga K "SeriesError")) = some true
  xb_BadDeed_SeriesError : PySem.W.exmOne K (.ref (He.ga K "BadDeed")) (.ref (He.ga K "SeriesError")) = some true
  xb_BadFault_SeriesError : PySem.W.exmOne K (.ref (He.ga K "BadFault")) (.ref (He.ga K "SeriesError")) = some true
  xb_BadLine_SeriesError : PySem.W.exmOne K (.ref (He.ga K "BadLine")) (.ref (He.ga K "SeriesError")) = some true
  xb_BadRule_SeriesError : PySem.W.exmOne K (.ref (He.ga K "BadRule")) (.ref (He.ga K "SeriesError")) = some true
  xb_BadSeries_SeriesError : PySem.W.exmOne K (.ref (He.ga K "BadSeries")) (.ref (He.ga K "SeriesError")) = some true
  xb_BadWeaving_SeriesError : PySem.W.exmOne K (.ref (He.ga K "BadWeaving")) (.ref (He.ga K "SeriesError")) = some true
  xb_BadWorld_SeriesError : PySem.W.exmOne K (.ref (He.ga K "BadWorld")) (.ref (He.ga K "SeriesError")) = some true
  xb_NothingDone_SeriesError : PySem.W.exmOne K (.ref (He.ga K "NothingDone")) (.ref (He.ga K "SeriesError")) = some true
  xb_Refused_SeriesError : PySem.W.exmOne K (.ref (He.ga K "Refused")) (.ref (He.ga K "SeriesError")) = some true
  xn_BadDeed_BadRule : PySem.W.exmOne K (.ref (He.ga K "BadDeed")) (.ref (He.ga K "BadRule")) = some false
  xn_BadFault_BadDeed : PySem.W.exmOne K (.ref (He.ga K "BadFault")) (.ref (He.ga K "BadDeed")) = some false
  xn_BadFault_BadRule : PySem.W.exmOne K (.ref (He.ga K "BadFault")) (.ref (He.ga K "BadRule")) = some false
  xn_BadLine_BadDeed : PySem.W.exmOne K (.ref (He.ga K "BadLine")) (.ref (He.ga K "BadDeed")) = some false
  xn_BadLine_BadFault : PySem.W.exmOne K (.ref (He.ga K "BadLine")) (.ref (He.ga K "BadFault")) = some false
  xn_BadLine_BadRule : PySem.W.exmOne K (.ref (He.ga K "BadLine")) (.ref (He.ga K "BadRule")) = some false
  xn_BadLine_BadSeries : PySem.W.exmOne K (.ref (He.ga K "BadLine")) (.ref (He.ga K "BadSeries")) = some false
  xn_BadLine_NothingDone : PySem.W.exmOne K (.ref (He.ga K "BadLine")) (.ref (He.ga K "NothingDone")) = some false
  xn_BadSeries_BadDeed : PySem.W.exmOne K (.ref (He.ga K "BadSeries")) (.ref (He.ga K "BadDeed")) = some false
  xn_BadSeries_BadFault : PySem.W.exmOne K (.ref (He.ga K "BadSeries")) (.ref (He.ga K "BadFault")) = some false
  xn_BadSeries_BadRule : PySem.W.exmOne K (.ref (He.ga K "BadSeries")) (.ref (He.ga K "BadRule")) = some false
  xn_BadWeaving_BadDeed : PySem.W.exmOne K (.ref (He.ga K "BadWeaving")) (.ref (He.ga K "BadDeed")) = some false
  xn_BadWeaving_BadFault : PySem.W.exmOne K (.ref (He.ga K "BadWeaving")) (.ref (He.ga K "BadFault")) = some false
  xn_BadWeaving_BadLine : PySem.W.exmOne K (.ref (He.ga K "BadWeaving")) (.ref (He.ga K "BadLine")) = some false
  xn_BadWeaving_BadRule : PySem.W.exmOne K (.ref (He.ga K "BadWeaving")) (.ref (He.ga K "BadRule")) = some false
  xn_BadWeaving_BadSeries : PySem.W.exmOne K (.ref (He.ga K "BadWeaving")) (.ref (He.ga K "BadSeries")) = some false
  xn_BadWeaving_BadWorld : PySem.W.exmOne K (.ref (He.ga K "BadWeaving")) (.ref (He.ga K "BadWorld")) = some false
  xn_BadWeaving_NothingDone : PySem.W.exmOne K (.ref (He.ga K "BadWeaving")) (.ref (He.ga K "NothingDone")) = some false
  xn_BadWeaving_Refused : PySem.W.exmOne K (.ref (He.ga K "BadWeaving")) (.ref (He.ga K "Refused")) = some false
  xn_BadWorld_BadDeed : PySem.W.exmOne K (.ref (He.ga K "BadWorld")) (.ref (He.ga K "BadDeed")) = some false
  xn_BadWorld_BadFault : PySem.W.exmOne K (.ref (He.ga K "BadWorld")) (.ref (He.ga K "BadFault")) = some false
  xn_BadWorld_BadLine : PySem.W.exmOne K (.ref (He.ga K "BadWorld")) (.ref (He.ga K "BadLine")) = some false
  xn_BadWorld_BadRule : PySem.W.exmOne K (.ref (He.ga K "BadWorld")) (.ref (He.ga K "BadRule")) = some false
  xn_BadWorld_BadSeries : PySem.W.exmOne K (.ref (He.ga K "BadWorld")) (.ref (He.ga K "BadSeries")) = some false
  xn_BadWorld_NothingDone : PySem.W.exmOne K (.ref (He.ga K "BadWorld")) (.ref (He.ga K "NothingDone")) = some false
  xn_BadWorld_Refused : PySem.W.exmOne K (.ref (He.ga K "BadWorld")) (.ref (He.ga K "Refused")) = some false
  xn_NothingDone_BadDeed : PySem.W.exmOne K (.ref (He.ga K "NothingDone")) (.ref (He.ga K "BadDeed")) = some false
  xn_NothingDone_BadFault : PySem.W.exmOne K (.ref (He.ga K "NothingDone")) (.ref (He.ga K "BadFault")) = some false
  xn_NothingDone_BadRule : PySem.W.exmOne K (.ref (He.ga K "NothingDone")) (.ref (He.ga K "BadRule")) = some false
  xn_NothingDone_BadSeries : PySem.W.exmOne K (.ref (He.ga K "NothingDone")) (.ref (He.ga K "BadSeries")) = some false
  xn_Refused_BadDeed : PySem.W.exmOne K (.ref (He.ga K "Refused")) (.ref (He.ga K "BadDeed")) = some false
  xn_Refused_BadFault : PySem.W.exmOne K (.ref (He.ga K "Refused")) (.ref (He.ga K "BadFault")) = some false
  xn_Refused_BadLine : PySem.W.exmOne K (.ref (He.ga K "Refused")) (.ref (He.ga K "BadLine")) = some false
  xn_Refused_BadRule : PySem.W.exmOne K (.ref (He.ga K "Refused")) (.ref (He.ga K "BadRule")) = some false
  xn_Refused_BadSeries : PySem.W.exmOne K (.ref (He.ga K "Refused")) (.ref (He.ga K "BadSeries")) = some false
  xn_Refused_NothingDone : PySem.W.exmOne K (.ref (He.ga K "Refused")) (.ref (He.ga K "NothingDone")) = some false
  m_Calendar_add : Meth K (He.ga K "Calendar") "add" (He.ma K (He.ga K "Calendar") "add")
  m_Calendar_count : Meth K (He.ga K "Calendar") "count" (He.ma K (He.ga K "Calendar") "count")
  m_Calendar_do : Meth K (He.ga K "Calendar") "do" (He.ma K (He.ga K "Calendar") "do")
  m_Calendar_is_deed : Meth K (He.ga K "Calendar") "is_deed" (He.ma K (He.ga K "Calendar") "is_deed")
  m_Calendar_mark : Meth K (He.ga K "Calendar") "mark" (He.ma K (He.ga K "Calendar") "mark")
  m_Calendar_undo : Meth K (He.ga K "Calendar") "undo" (He.ma K (He.ga K "Calendar") "undo")
  mk_Calendar : Mk K (He.ga K "Calendar") (He.ma K (He.ga K "Calendar") "__init__")
  mk_Rule : Mk K (He.ga K "Rule") (He.ma K (He.ga K "Rule") "__init__")
def m_law_begin_s0 : MS := (mRet (mCell (mCons (mCallF (lstM true) (mCons (mVar 0) mNil)) (mCons (mC (.int 0)) (mCons (mC (.int 0)) (mCons (mC (.int 7)) mNil))))))
def m_law_begin : MF := mFn 1 (m_law_begin_s0)
theorem sc_m_law_begin : FnScope ["_law_script"] ["_law_script"] (defScope s_law_begin) := ⟨rfl, rfl, rfl, by decide +kernel, rfl, by decide +kernel, by decide +kernel⟩
theorem ok_law_begin {P : Program} {w : PySem.World} {K : PySem.W.Frag} {mg : Str → Option Value} {base : Heap} {f : Addr} {fd : FuncData} (g : Gs K mg) (F : FunD K "_law_begin" "_law_begin" (defArgs s_law_begin) (defBody s_law_begin) (defScope s_law_begin) [] [] f fd) (hg : mg "_law_begin" = some (.ref f)) : FN P w K mg base 1 1 "_law_begin" m_law_begin := by
  refine ⟨f, fd, ["_law_script"], ?_, hg, F.kp, F.bindsN fun _ _ _ _ _ _ us hl => match us, hl with | [_], _ => rfl⟩
  refine F.ok sc_m_law_begin (fun vs H Q E h => h.1) (fun cdv A outer s H vs Q E hr h => body_ok (m := m_law_begin_s0) (by decide) ?_ h)
  exact (sss_one (ss_ret (se_cell (sa_cons (se_callTy (crM_list true) pu_list rfl g.b_list bt_list (sa_cons (sv 0) sa_nil)) (sa_cons se_int (sa_cons se_int (sa_cons se_int sa_nil)))) (lenCons (lenCons (lenCons (lenCons lenNil)))) (by decide))))
def m_Rule___init___s2 : MS := (mRaise "BadRule" "part" (mVar 5))
def m_Rule___init___s1 : MS := (mIfS (mOr (mNot (mTest (mIsi "str" (mVar 6)))) (mTest (mOp ninM (mVar 6) (mVar 7)))) m_Rule___init___s2 mNext)
def m_Rule___init___s0 : MS := (mFor (mZip3 (mCons (mC d_PARTS) (mCons (mTup (mCons (mVar 1) (mCons (mVar 2) (mCons (mVar 3) (mCons (mVar 4) mNil))))) (mCons (mC d_VALUES) mNil)))) (tgTup (tgCons (tgName 5) (tgCons (tgName 6) (tgCons (tgName 7) tgNil)))) m_Rule___init___s1)
def m_Rule___init___s3 : MS := (mFset "Rule" "checking" (mVar 1) (mVar 0))
def m_Rule___init___s4 : MS := (mFset "Rule" "singles" (mVar 2) (mVar 0))
def m_Rule___init___s5 : MS := (mFset "Rule" "halves" (mVar 3) (mVar 0))
def m_Rule___init___s6 : MS := (mFset "Rule" "telling" (mVar 4) (mVar 0))
def m_Rule___init__ : MF := mFn 8 ((mSeq m_Rule___init___s0 (mSeq m_Rule___init___s3 (mSeq m_Rule___init___s4 (mSeq m_Rule___init___s5 m_Rule___init___s6)))))
theorem sc_m_Rule___init__ : FnScope ["self", "checking", "singles", "halves", "telling", "part", "value", "some"] ["self", "checking", "singles", "halves", "telling"] (defScope s_Rule___init__) := ⟨rfl, rfl, rfl, by decide +kernel, rfl, by decide +kernel, by decide +kernel⟩
theorem ok_Rule___init__ {P : Program} {w : PySem.World} {K : PySem.W.Frag} {mg : Str → Option Value} {base : Heap} {fd : FuncData} (g : Gs K mg) (x_BadRule : XN P w K mg base 1 "BadRule" "part") (F : FunD K "__init__" "Rule.__init__" (defArgs s_Rule___init__) (defBody s_Rule___init__) (defScope s_Rule___init__) [] [] (He.ma K (He.ga K "Rule") "__init__") fd) : MN P w K mg base 3 5 "Rule" "__init__" m_Rule___init__ := by
  refine ⟨fd, ["self", "checking", "singles", "halves", "telling"], ?_, F.bindsN fun _ _ _ _ _ _ us hl => match us, hl with | [_, _, _, _, _], _ => rfl⟩
  refine F.ok sc_m_Rule___init__ (fun vs H Q E h => h.1) (fun cdv A outer s H vs Q E hr h => body_ok (m := (mSeq m_Rule___init___s0 (mSeq m_Rule___init___s3 (mSeq m_Rule___init___s4 (mSeq m_Rule___init___s5 m_Rule___init___s6))))) (by decide) ?_ h)
  exact (sss_cons (ss_for pass_cx rfl (si_zip3 rfl g.b_zip (sa_cons (se_globN g.k_PARTS rfl) (sa_cons (se_tup (sa_cons (sv 1) (sa_cons (sv 2) (sa_cons (sv 3) (sa_cons (sv 4) sa_nil)))) (lenCons (lenCons (lenCons (lenCons lenNil)))) (by decide)) (sa_cons (se_globN g.k_VALUES rfl) sa_nil)))) (sg_tup rfl (sgs_cons (sn 5 sc_m_Rule___init__.nd) (sgs_cons (sn 6 sc_m_Rule___init__.nd) (sgs_cons (sn 7 sc_m_Rule___init__.nd) sgs_nil)))) (sss_one (ss_if (st_w (sw_or (st_not (st_val (se_isi rfl g.b_isinstance rfl g.b_str bt_str (sv 6)))) (sw_or1 (st_cmp (opM_nin (Room.u65 hr)) pu_nin (by with_unfolding_all rfl) (sv 6) (sv 7))))) (sss_one (ss_raiseN x_BadRule rfl takes_cx hr (by decide) rfl (sv 5))) sss_nil))) (sss_cons (ss_fset g.c_Rule g.n_Rule_checking (sv 1) (sv 0)) (sss_cons (ss_fset g.c_Rule g.n_Rule_singles (sv 2) (sv 0)) (sss_cons (ss_fset g.c_Rule g.n_Rule_halves (sv 3) (sv 0)) (sss_one (ss_fset g.c_Rule g.n_Rule_telling (sv 4) (sv 0)))))))
def m_law_rule_s0 : MS := (mRet (mCallF (makM "Rule" m_Rule___init__) (mCons (mOp idxM (mVar 0) (mC (.int 0))) (mCons (mOp idxM (mVar 0) (mC (.int 1))) (mCons (mOp idxM (mVar 0) (mC (.int 2))) (mCons (mOp idxM (mVar 0) (mC (.int 3))) mNil))))))
def m_law_rule : MF := frzF (mFn 1 (m_law_rule_s0))
theorem sc_m_law_rule : FnScope ["_law_parts_here"] ["_law_parts_here"] (defScope s_law_rule) := ⟨rfl, rfl, rfl, by decide +kernel, rfl, by decide +kernel, by decide +kernel⟩
theorem ok_law_rule {P : Program} {w : PySem.World} {K : PySem.W.Frag} {mg : Str → Option Value} {base : Heap} {f : Addr} {fd : FuncData} (g : Gs K mg) (h_Rule___init__ : MN P w K mg base 3 5 "Rule" "__init__" m_Rule___init__) (F : FunD K "_law_rule" "_law_rule" (defArgs s_law_rule) (defBody s_law_rule) (defScope s_law_rule) [] [] f fd) (hg : mg "_law_rule" = some (.ref f)) : FN P w K mg base 5 1 "_law_rule" m_law_rule := by
  refine ⟨f, fd, ["_law_parts_here"], ?_, hg, F.kp, F.bindsN fun _ _ _ _ _ _ us hl => match us, hl with | [_], _ => rfl⟩
  refine frz_ok (m := mFn _ _) (F.ok sc_m_law_rule (fun vs H Q E h => h.1) (fun cdv A outer s H vs Q E hr h => body_ok (m := m_law_rule_s0) (by decide) ?_ h))
  exact (sss_one (ss_ret (se_makeN h_Rule___init__ g.mk_Rule g.gc_Rule hr (by decide) rfl takes_cx (sa_cons (se_ix (Room.u1 hr) (fun _ _ => rfl) (sv 0) se_int pu_ix) (sa_cons (se_ix (Room.u1 hr) (fun _ _ => rfl) (sv 0) se_int pu_ix) (sa_cons (se_ix (Room.u1 hr) (fun _ _ => rfl) (sv 0) se_int pu_ix) (sa_cons (se_ix (Room.u1 hr) (fun _ _ => rfl) (sv 0) se_int pu_ix) sa_nil)))) (lenCons (lenCons (lenCons (lenCons lenNil)))))))
def m_law_values_s0 : MS := (mRet (mLst (mCons (mLst (mCons (mC (.str "none")) (mCons (mC (.str "room")) (mCons (mC (.str "both")) mNil)))) (mCons (mLst (mCons (mC (.str "keep")) (mCons (mC (.str "move")) (mCons (mC (.str "reset")) mNil)))) (mCons (mLst (mCons (mC (.str "left")) (mCons (mC (.str "undone")) mNil))) (mCons (mLst (mCons (mC (.str "now")) (mCons (mC (.str "seen")) mNil))) mNil))))))
def m_law_values : MF := mFn 0 (m_law_values_s0)
theorem sc_m_law_values : FnScope [] [] (defScope s_law_values) := ⟨rfl, rfl, rfl, by decide +kernel, rfl, by decide +kernel, by decide +kernel⟩
theorem ok_law_values {P : Program} {w : PySem.World} {K : PySem.W.Frag} {mg : Str → Option Value} {base : Heap} {f : Addr} {fd : FuncData} (g : Gs K mg) (F : FunD K "_law_values" "_law_values" (defArgs s_law_values) (defBody s_law_values) (defScope s_law_values) [] [] f fd) (hg : mg "_law_values" = some (.ref f)) : FN P w K mg base 1 0 "_law_values" m_law_values := by
  refine ⟨f, fd, [], ?_, hg, F.kp, F.bindsN fun _ _ _ _ _ _ us hl => match us, hl with | [], _ => rfl⟩
  refine F.ok sc_m_law_values (fun vs H Q E h => h.1) (fun cdv A outer s H vs Q E hr h => body_ok (m := m_law_values_s0) (by decide) ?_ h)
  exact (sss_one (ss_ret (se_lst (sa_cons (se_lst (sa_cons se_str (sa_cons se_str (sa_cons se_str sa_nil))) (lenCons (lenCons (lenCons lenNil))) (by decide)) (sa_cons (se_lst (sa_cons se_str (sa_cons se_str (sa_cons se_str sa_nil))) (lenCons (lenCons (lenCons lenNil))) (by decide)) (sa_cons (se_lst (sa_cons se_str (sa_cons se_str sa_nil)) (lenCons (lenCons lenNil)) (by decide)) (sa_cons (se_lst (sa_cons se_str (sa_cons se_str sa_nil)) (lenCons (lenCons lenNil)) (by decide)) sa_nil)))) (lenCons (lenCons (lenCons (lenCons lenNil)))) (by decide))))
theorem px_law_values : ∀ S c d S', m_law_values [] S ≠ .exc c d S' := by intro S c d S' h; first | (exact absurd h (by intro h; cases h)) | cases h
def m_law_draw_s2 : MS := (mAsg (mOp idxM (mOp idxM (mVar 0) (mC (.int 0))) (mOp idxM (mVar 0) (mC (.int 1)))) (tgName 3))
def m_law_draw_s3 : MS := (mSub (mOp addM (mOp idxM (mVar 0) (mC (.int 1))) (mC (.int 1))) (mVar 0) (mC (.int 1)))
def m_law_draw_s5 : MS := (mSub (mVar 3) (mVar 0) (mC (.int 2)))
def m_law_draw_s6 : MS := (mSub (mOp modM (mCallF intM (mCons (mOp addM (mOp addM (mOp mulM (mOp idxM (mVar 0) (mC (.int 3))) (mC (.int 48271))) (mOp mulM (mVar 3) (mC (.int 69621)))) (mC (.int 11))) mNil)) (mC (.int 2147483647))) (mVar 0) (mC (.int 3)))
def m_law_draw_s4 : MS := (mIfS (mTest (mOp geM (mVar 3) (mOp powM (mC (.int 10)) (mC (.int 18))))) m_law_draw_s5 m_law_draw_s6)
def m_law_draw_s7 : MS := (mSub (mOp modM (mCallF intM (mCons (mOp addM (mOp mulM (mOp idxM (mVar 0) (mC (.int 3))) (mC (.int 48271))) (mC (.int 7))) mNil)) (mC (.int 2147483647))) (mVar 0) (mC (.int 3)))
def m_law_draw_s1 : MS := (mIfS (mTest (mOp ltM (mOp idxM (mVar 0) (mC (.int 1))) (mCallF lenM (mCons (mOp idxM (mVar 0) (mC (.int 0))) mNil)))) (mSeq m_law_draw_s2 (mSeq m_law_draw_s3 m_law_draw_s4)) m_law_draw_s7)
def m_law_draw_s0 : MS := (mIfS (mTest (mOp eqM (mOp idxM (mVar 0) (mC (.int 2))) (mC (.int 0)))) m_law_draw_s1 mNext)
def m_law_draw_s9 : MS := (mAsg (mOp modM (mCallF intM (mCons (mOp idxM (mVar 0) (mC (.int 2))) mNil)) (mVar 1)) (tgName 2))
def m_law_draw_s10 : MS := (mSub (mOp fdivM (mOp idxM (mVar 0) (mC (.int 2))) (mVar 1)) (mVar 0) (mC (.int 2)))
def m_law_draw_s11 : MS := (mRet (mVar 2))
def m_law_draw_s8 : MS := (mIfS (mTest (mOp gtM (mOp idxM (mVar 0) (mC (.int 2))) (mC (.int 0)))) (mSeq m_law_draw_s9 (mSeq m_law_draw_s10 m_law_draw_s11)) mNext)
def m_law_draw_s12 : MS := (mRet (mOp modM (mOp modM (mCallF intM (mCons (mOp mulM (mOp idxM (mVar 0) (mC (.int 3))) (mC (.int 16807))) mNil)) (mC (.int 2147483629))) (mVar 1)))
def m_law_draw : MF := mFn 4 ((mSeq m_law_draw_s0 (mSeq m_law_draw_s8 m_law_draw_s12)))
theorem sc_m_law_draw : FnScope ["_law_draws", "_law_size", "_law_found", "_law_cell"] ["_law_draws", "_law_size"] (defScope s_law_draw) := ⟨rfl, rfl, rfl, by decide +kernel, rfl, by decide +kernel, by decide +kernel⟩
theorem ok_law_draw {P : Program} {w : PySem.World} {K : PySem.W.Frag} {mg : Str → Option Value} {base : Heap} {f : Addr} {fd : FuncData} (g : Gs K mg) (F : FunD K "_law_draw" "_law_draw" (defArgs s_law_draw) (defBody s_law_draw) (defScope s_law_draw) [] [] f fd) (hg : mg "_law_draw" = some (.ref f)) : FN P w K mg base 1 2 "_law_draw" m_law_draw := by
  refine ⟨f, fd, ["_law_draws", "_law_size"], ?_, hg, F.kp, F.bindsN fun _ _ _ _ _ _ us hl => match us, hl with | [_, _], _ => rfl⟩
  refine F.ok sc_m_law_draw (fun vs H Q E h => h.1) (fun cdv A outer s H vs Q E hr h => body_ok (m := (mSeq m_law_draw_s0 (mSeq m_law_draw_s8 m_law_draw_s12))) (by decide) ?_ h)
  exact (sss_cons (ss_if (st_cmp (opM_eq (Room.u64 hr)) pu_eq (nomark _) (se_ix (Room.u1 hr) (fun _ _ => rfl) (sv 0) se_int pu_ix) se_int) (sss_one (ss_if (st_cmp (opM_int op_lt) pu_cmpI (nomark _) (se_ix (Room.u1 hr) (fun _ _ => rfl) (sv 0) se_int pu_ix) (se_callB crM_len pu_len rfl g.b_len bt_len (sa_cons (se_ix (Room.u1 hr) (fun _ _ => rfl) (sv 0) se_int pu_ix) sa_nil))) (sss_cons (sset 3 sc_m_law_draw.nd (se_ix (Room.u1 hr) (fun _ _ => rfl) (se_ix (Room.u1 hr) (fun _ _ => rfl) (sv 0) se_int pu_ix) (se_ix (Room.u1 hr) (fun _ _ => rfl) (sv 0) se_int pu_ix) pu_ix)) (sss_cons (ss_sub (Room.u1 hr) (se_op opM_add pu_add (se_ix (Room.u1 hr) (fun _ _ => rfl) (sv 0) se_int pu_ix) se_int) (sv 0) se_int) (sss_one (ss_if (st_cmp (opM_int op_ge) pu_cmpI (nomark _) (sv 3) (se_op opM_pow pu_pow se_int se_int)) (sss_one (ss_sub (Room.u1 hr) (sv 3) (sv 0) se_int)) (sss_one (ss_sub (Room.u1 hr) (se_op opM_mod pu_mod (se_callTy crM_int pu_int rfl g.b_int bt_int (sa_cons (se_op opM_add pu_add (se_op opM_add pu_add (se_op opM_mul pu_mul (se_ix (Room.u1 hr) (fun _ _ => rfl) (sv 0) se_int pu_ix) se_int) (se_op opM_mul pu_mul (sv 3) se_int)) se_int) sa_nil)) se_int) (sv 0) se_int)))))) (sss_one (ss_sub (Room.u1 hr) (se_op opM_mod pu_mod (se_callTy crM_int pu_int rfl g.b_int bt_int (sa_cons (se_op opM_add pu_add (se_op opM_mul pu_mul (se_ix (Room.u1 hr) (fun _ _ => rfl) (sv 0) se_int pu_ix) se_int) se_int) sa_nil)) se_int) (sv 0) se_int)))) sss_nil) (sss_cons (ss_if (st_cmp (opM_int op_gt) pu_cmpI (nomark _) (se_ix (Room.u1 hr) (fun _ _ => rfl) (sv 0) se_int pu_ix) se_int) (sss_cons (sset 2 sc_m_law_draw.nd (se_op opM_mod pu_mod (se_callTy crM_int pu_int rfl g.b_int bt_int (sa_cons (se_ix (Room.u1 hr) (fun _ _ => rfl) (sv 0) se_int pu_ix) sa_nil)) (sv 1))) (sss_cons (ss_sub (Room.u1 hr) (se_op opM_fdiv pu_fdiv (se_ix (Room.u1 hr) (fun _ _ => rfl) (sv 0) se_int pu_ix) (sv 1)) (sv 0) se_int) (sss_one (ss_ret (sv 2))))) sss_nil) (sss_one (ss_ret (se_op opM_mod pu_mod (se_op opM_mod pu_mod (se_callTy crM_int pu_int rfl g.b_int bt_int (sa_cons (se_op opM_mul pu_mul (se_ix (Room.u1 hr) (fun _ _ => rfl) (sv 0) se_int pu_ix) se_int) sa_nil)) se_int) (sv 1))))))
def m_law_parts_s0 : MS := (mRet (mLc true [1] (mSrc (mCallF m_law_values mNil)) (tgName 1) mTrue (mOp idxM (mVar 1) (mCallF m_law_draw (mCons (mVar 0) (mCons (mCallF lenM (mCons (mVar 1) mNil)) mNil))))))
def m_law_parts : MF := mFn 2 (m_law_parts_s0)
theorem sc_m_law_parts : FnScope ["_law_draws", "_law_some"] ["_law_draws"] (defScope s_law_parts) := ⟨rfl, rfl, rfl, by decide +kernel, rfl, by decide +kernel, by decide +kernel⟩
theorem ok_law_parts {P : Program} {w : PySem.World} {K : PySem.W.Frag} {mg : Str → Option Value} {base : Heap} {f : Addr} {fd : FuncData} (g : Gs K mg) (h_law_values : FN P w K mg base 1 0 "_law_values" m_law_values) (h_law_draw : FN P w K mg base 1 2 "_law_draw" m_law_draw) (F : FunD K "_law_parts" "_law_parts" (defArgs s_law_parts) (defBody s_law_parts) (defScope s_law_parts) [] [] f fd) (hg : mg "_law_parts" = some (.ref f)) : FN P w K mg base 2 1 "_law_parts" m_law_parts := by
  refine ⟨f, fd, ["_law_draws"], ?_, hg, F.kp, F.bindsN fun _ _ _ _ _ _ us hl => match us, hl with | [_], _ => rfl⟩
  refine F.ok sc_m_law_parts (fun vs H Q E h => h.1) (fun cdv A outer s H vs Q E hr h => body_ok (m := m_law_parts_s0) (by decide) ?_ h)
  exact (sss_one (ss_ret (se_lc (fr := true) (own := [("_law_some", 1)]) rfl sc_m_law_parts.nd (si_seq (se_callN0 h_law_values hr (by decide) rfl px_law_values)) (blkOk_by rfl) (fun _ _ _ _ _ => (sn 1 sc_m_law_parts.nd)) (fun _ _ _ _ _ => sts_nil) (fun _ _ _ _ _ => (se_ix (Room.u1 hr) (fun _ _ => rfl) (sv 1) (se_callN h_law_draw hr (by decide) rfl takesNo (sa_cons (sv 0) (sa_cons (se_callB crM_len pu_len rfl g.b_len bt_len (sa_cons (sv 1) sa_nil)) sa_nil)) (lenCons (lenCons lenNil))) pu_ix)) (by decide))))
def m_is_whole_s0 : MS := (mRet (mAndV (mIsi "int" (mVar 0)) (mAndV (mNotV (mIsi "bool" (mVar 0))) (mChain leM leM (mVar 1) (mVar 0) (mVar 2)))))
def m_is_whole : MF := mFn 3 (m_is_whole_s0)
theorem sc_m_is_whole : FnScope ["thing", "least", "most"] ["thing", "least", "most"] (defScope s_is_whole) := ⟨rfl, rfl, rfl, by decide +kernel, rfl, by decide +kernel, by decide +kernel⟩
theorem ok_is_whole {P : Program} {w : PySem.World} {K : PySem.W.Frag} {mg : Str → Option Value} {base : Heap} {f : Addr} {fd : FuncData} (g : Gs K mg) (F : FunD K "is_whole" "is_whole" (defArgs s_is_whole) (defBody s_is_whole) (defScope s_is_whole) [] [] f fd) (hg : mg "is_whole" = some (.ref f)) : FN P w K mg base 1 3 "is_whole" m_is_whole := by
  refine ⟨f, fd, ["thing", "least", "most"], ?_, hg, F.kp, F.bindsN fun _ _ _ _ _ _ us hl => match us, hl with | [_, _, _], _ => rfl⟩
  refine F.ok sc_m_is_whole (fun vs H Q E h => h.1) (fun cdv A outer s H vs Q E hr h => body_ok (m := m_is_whole_s0) (by decide) ?_ h)
  exact (sss_one (ss_ret (se_and (se_isi rfl g.b_isinstance rfl g.b_int bt_int (sv 0)) (se_and (se_not (se_isi rfl g.b_isinstance rfl g.b_bool bt_bool (sv 0))) (se_one (se_chain (opM_int op_le) pu_cmpI (opM_int op_le) pu_cmpI (sv 1) (sv 0) (sv 2)))))))
def m_Calendar_is_deed_s1 : MS := (mRet (mC (.bl false)))
def m_Calendar_is_deed_s0 : MS := (mIfS (mOr (mNot (mTest (mIsi "tuple" (mVar 1)))) (mOr (mNot (mTruth (mVar 1))) (mOr (mNot (mTest (mIsi "str" (mOp idxM (mVar 1) (mC (.int 0)))))) (mTest (inW true tab_SIZES (mOp idxM (mVar 1) (mC (.int 0)))))))) m_Calendar_is_deed_s1 mNext)
def m_Calendar_is_deed_s3 : MS := (mRet (mC (.bl false)))
def m_Calendar_is_deed_s2 : MS := (mIfS (mOr (mTest (mOp neM (mCallF lenM (mCons (mVar 1) mNil)) (ixW tab_SIZES (mOp idxM (mVar 1) (mC (.int 0)))))) (mNot (mTest (mCallF m_is_whole (mCons (mOp idxM (mVar 1) (mC (.int 1))) (mCons (mC (.int 0)) (mCons (mOp subM (mCallF lenM (mCons (mFld "Calendar" "rows" (mVar 0)) mNil)) (mC (.int 1))) mNil))))))) m_Calendar_is_deed_s3 mNext)
def m_Calendar_is_deed_s5 : MS := (mRet (mCallF m_is_whole (mCons (mOp idxM (mVar 1) (mC (.int 2))) (mCons (mC (.int 0)) (mCons (mOp subM (mFld "Calendar" "hours" (mVar 0)) (mC (.int 1))) mNil)))))
def m_Calendar_is_deed_s4 : MS := (mIfS (mTest (mOp eqM (mOp idxM (mVar 1) (mC (.int 0))) (mC (.str "room")))) m_Calendar_is_deed_s5 mNext)
def m_Calendar_is_deed_s7 : MS := (mRet (mC (.bl true)))
def m_Calendar_is_deed_s6 : MS := (mIfS (mTest (mOp eqM (mOp idxM (mVar 1) (mC (.int 0))) (mC (.str "person")))) m_Calendar_is_deed_s7 mNext)
def m_Calendar_is_deed_s9 : MS := (mRet (mC (.bl false)))
def m_Calendar_is_deed_s8 : MS := (mIfS (mNot (mTest (mCallF m_is_whole (mCons (mOp idxM (mVar 1) (mC (.int 2))) (mCons (mC (.int 0)) (mCons (mOp subM (mFld "Calendar" "days" (mVar 0)) (mC (.int 1))) mNil)))))) m_Calendar_is_deed_s9 mNext)
def m_Calendar_is_deed_s10 : MS := (mRet (mOrV (mOp eqM (mOp idxM (mVar 1) (mC (.int 0))) (mC (.str "off"))) (mCallF m_is_whole (mCons (mOp idxM (mVar 1) (mC (.int 3))) (mCons (mC (.int 0)) (mCons (mOp subM (mFld "Calendar" "hours" (mVar 0)) (mC (.int 1))) mNil))))))
def m_Calendar_is_deed : MF := viewF (mFn 2 ((mSeq m_Calendar_is_deed_s0 (mSeq m_Calendar_is_deed_s2 (mSeq m_Calendar_is_deed_s4 (mSeq m_Calendar_is_deed_s6 (mSeq m_Calendar_is_deed_s8 m_Calendar_is_deed_s10)))))))
theorem sc_m_Calendar_is_deed : FnScope ["self", "thing"] ["self", "thing"] (defScope s_Calendar_is_deed) := ⟨rfl, rfl, rfl, by decide +kernel, rfl, by decide +kernel, by decide +kernel⟩
theorem ok_Calendar_is_deed {P : Program} {w : PySem.World} {K : PySem.W.Frag} {mg : Str → Option Value} {base : Heap} {fd : FuncData} (g : Gs K mg) (h_is_whole : FN P w K mg base 1 3 "is_whole" m_is_whole) (t_SIZES : TabK w K mg "SIZES" tab_SIZES) (F : FunD K "is_deed" "Calendar.is_deed" (defArgs s_Calendar_is_deed) (defBody s_Calendar_is_deed) (defScope s_Calendar_is_deed) [] [] (He.ma K (He.ga K "Calendar") "is_deed") fd) : MN P w K mg base 2 2 "Calendar" "is_deed" m_Calendar_is_deed := by
  refine ⟨fd, ["self", "thing"], ?_, F.bindsN fun _ _ _ _ _ _ us hl => match us, hl with | [_, _], _ => rfl⟩
  refine view_ok (m := mFn _ _) (F.ok sc_m_Calendar_is_deed (fun vs H Q E h => h.1) (fun cdv A outer s H vs Q E hr h => body_ok (m := (mSeq m_Calendar_is_deed_s0 (mSeq m_Calendar_is_deed_s2 (mSeq m_Calendar_is_deed_s4 (mSeq m_Calendar_is_deed_s6 (mSeq m_Calendar_is_deed_s8 m_Calendar_is_deed_s10)))))) (by decide) ?_ h))
  exact (sss_cons (ss_if (st_w (sw_or (st_not (st_val (se_isi rfl g.b_isinstance rfl g.b_tuple bt_tuple (sv 1)))) (sw_or (st_not (st_truth (sv 1))) (sw_or (st_not (st_val (se_isi rfl g.b_isinstance rfl g.b_str bt_str (se_ix (Room.u1 hr) (fun _ _ => rfl) (sv 1) se_int pu_ix)))) (sw_or1 (st_ninW t_SIZES rfl (se_ix (Room.u1 hr) (fun _ _ => rfl) (sv 1) se_int pu_ix))))))) (sss_one (ss_ret se_bl)) sss_nil) (sss_cons (ss_if (st_w (sw_or (st_cmp (opM_ne (Room.u64 hr)) pu_ne (nomark _) (se_callB crM_len pu_len rfl g.b_len bt_len (sa_cons (sv 1) sa_nil)) (se_ixW t_SIZES rfl (fun _ _ => rfl) (se_ix (Room.u1 hr) (fun _ _ => rfl) (sv 1) se_int pu_ix))) (sw_or1 (st_not (st_val (se_callN h_is_whole hr (by decide) rfl takes_cx (sa_cons (se_ix (Room.u1 hr) (fun _ _ => rfl) (sv 1) se_int pu_ix) (sa_cons se_int (sa_cons (se_op opM_sub pu_sub (se_callB crM_len pu_len rfl g.b_len bt_len (sa_cons (se_fld g.c_Calendar g.n_Calendar_rows (sv 0)) sa_nil)) se_int) sa_nil))) (lenCons (lenCons (lenCons lenNil))))))))) (sss_one (ss_ret se_bl)) sss_nil) (sss_cons (ss_if (st_cmp (opM_eq (Room.u64 hr)) pu_eq (nomark _) (se_ix (Room.u1 hr) (fun _ _ => rfl) (sv 1) se_int pu_ix) se_str) (sss_one (ss_ret (se_callN h_is_whole hr (by decide) rfl takes_cx (sa_cons (se_ix (Room.u1 hr) (fun _ _ => rfl) (sv 1) se_int pu_ix) (sa_cons se_int (sa_cons (se_op opM_sub pu_sub (se_fld g.c_Calendar g.n_Calendar_hours (sv 0)) se_int) sa_nil))) (lenCons (lenCons (lenCons lenNil)))))) sss_nil) (sss_cons (ss_if (st_cmp (opM_eq (Room.u64 hr)) pu_eq (nomark _) (se_ix (Room.u1 hr) (fun _ _ => rfl) (sv 1) se_int pu_ix) se_str) (sss_one (ss_ret se_bl)) sss_nil) (sss_cons (ss_if (st_not (st_val (se_callN h_is_whole hr (by decide) rfl takes_cx (sa_cons (se_ix (Room.u1 hr) (fun _ _ => rfl) (sv 1) se_int pu_ix) (sa_cons se_int (sa_cons (se_op opM_sub pu_sub (se_fld g.c_Calendar g.n_Calendar_days (sv 0)) se_int) sa_nil))) (lenCons (lenCons (lenCons lenNil)))))) (sss_one (ss_ret se_bl)) sss_nil) (sss_one (ss_ret (se_or (se_cmp (opM_eq (Room.u64 hr)) pu_eq (nomark _) (se_ix (Room.u1 hr) (fun _ _ => rfl) (sv 1) se_int pu_ix) se_str) (se_one (se_callN h_is_whole hr (by decide) rfl takes_cx (sa_cons (se_ix (Room.u1 hr) (fun _ _ => rfl) (sv 1) se_int pu_ix) (sa_cons se_int (sa_cons (se_op opM_sub pu_sub (se_fld g.c_Calendar g.n_Calendar_hours (sv 0)) se_int) sa_nil))) (lenCons (lenCons (lenCons lenNil)))))))))))))
def m_Calendar_do_s1 : MS := (mRaise0 "BadDeed")
def m_Calendar_do_s0 : MS := (mIfS (mNot (mTest (mMeth "Calendar" "is_deed" m_Calendar_is_deed (mVar 0) (mCons (mVar 1) mNil)))) m_Calendar_do_s1 mNext)
def m_Calendar_do_s2 : MS := mStk
def m_Calendar_do_s3 : MS := mStk
def m_Calendar_do_s4 : MS := mStk
def m_Calendar_do_s5 : MS := mStk
def m_Calendar_do_s6 : MS := mStk
def m_Calendar_do : MF := mFn 5 ((mSeq m_Calendar_do_s0 (mSeq m_Calendar_do_s2 (mSeq m_Calendar_do_s3 (mSeq m_Calendar_do_s4 (mSeq m_Calendar_do_s5 m_Calendar_do_s6))))))
theorem sc_m_Calendar_do : FnScope ["self", "deed", "series", "row", "standing"] ["self", "deed"] (defScope s_Calendar_do) := ⟨rfl, rfl, rfl, by decide +kernel, rfl, by decide +kernel, by decide +kernel⟩
theorem ok_Calendar_do {P : Program} {w : PySem.World} {K : PySem.W.Frag} {mg : Str → Option Value} {base : Heap} {fd : FuncData} (g : Gs K mg) (h_Calendar_is_deed : MN P w K mg base 2 2 "Calendar" "is_deed" m_Calendar_is_deed) (F : FunD K "do" "Calendar.do" (defArgs s_Calendar_do) (defBody s_Calendar_do) (defScope s_Calendar_do) [] [] (He.ma K (He.ga K "Calendar") "do") fd) : MN P w K mg base 3 2 "Calendar" "do" m_Calendar_do := by
  refine ⟨fd, ["self", "deed"], ?_, F.bindsN fun _ _ _ _ _ _ us hl => match us, hl with | [_, _], _ => rfl⟩
  refine F.ok sc_m_Calendar_do (fun vs H Q E h => h.1) (fun cdv A outer s H vs Q E hr h => body_ok (m := (mSeq m_Calendar_do_s0 (mSeq m_Calendar_do_s2 (mSeq m_Calendar_do_s3 (mSeq m_Calendar_do_s4 (mSeq m_Calendar_do_s5 m_Calendar_do_s6)))))) (by decide) ?_ h)
  exact (sss_cons (ss_if (st_not (st_val (se_methN h_Calendar_is_deed g.c_Calendar g.m_Calendar_is_deed hr (by decide) takes_cx (sv 0) (sa_cons (sv 1) sa_nil) (lenCons lenNil)))) (sss_one (ss_raise0 rfl takes_cx g.x0_BadDeed rfl g.gc_BadDeed)) sss_nil) (sss_cons ss_stk (sss_cons ss_stk (sss_cons ss_stk (sss_cons ss_stk (sss_one ss_stk))))))
def m_are_series_s1 : MS := (mRet (mC (.bl false)))
def m_are_series_s0 : MS := (mIfS (mOr (mNot (mTest (mIsi "tuple" (mVar 0)))) (mNot (mTest (mChain leM leM (mC (.int 1)) (mCallF lenM (mCons (mVar 0) mNil)) (mC (.int 3)))))) m_are_series_s1 mNext)
def m_are_series_s4 : MS := (mRet (mC (.bl false)))
def m_are_series_s3 : MS := (mIfS (mOr (mNot (mTest (mIsi "tuple" (mVar 2)))) (mTest (mOp neM (mCallF lenM (mCons (mVar 2) mNil)) (mC (.int 2))))) m_are_series_s4 mNext)
def m_are_series_s6 : MS := (mRet (mC (.bl false)))
def m_are_series_s5 : MS := (mIfS (mOr (mNot (mTest (mCallF m_is_whole (mCons (mOp idxM (mVar 2) (mC (.int 0))) (mCons (mC (.int 0)) (mCons (mC (.int 2)) mNil)))))) (mNot (mTest (mCallF m_is_whole (mCons (mOp idxM (mVar 2) (mC (.int 1))) (mCons (mC (.int 0)) (mCons (mOp subM (mVar 1) (mC (.int 1))) mNil))))))) m_are_series_s6 mNext)
def m_are_series_s2 : MS := (mFor (mSrc (mVar 0)) (tgName 2) (mSeq m_are_series_s3 m_are_series_s5))
def m_are_series_s7 : MS := (mRet (mOp eqM (mCallF lenM (mCons (mDc true [2] (mSrc (mVar 0)) (tgName 2) mTrue (mOp idxM (mVar 2) (mC (.int 1))) (mC (.bl true))) mNil)) (mCallF lenM (mCons (mVar 0) mNil))))
def m_are_series : MF := mFn 3 ((mSeq m_are_series_s0 (mSeq m_are_series_s2 m_are_series_s7)))
theorem sc_m_are_series : FnScope ["thing", "hours", "row"] ["thing", "hours"] (defScope s_are_series) := ⟨rfl, rfl, rfl, by decide +kernel, rfl, by decide +kernel, by decide +kernel⟩
theorem ok_are_series {P : Program} {w : PySem.World} {K : PySem.W.Frag} {mg : Str → Option Value} {base : Heap} {f : Addr} {fd : FuncData} (g : Gs K mg) (h_is_whole : FN P w K mg base 1 3 "is_whole" m_is_whole) (F : FunD K "are_series" "are_series" (defArgs s_are_series) (defBody s_are_series) (defScope s_are_series) [] [] f fd) (hg : mg "are_series" = some (.ref f)) : FN P w K mg base 2 2 "are_series" m_are_series := by
  refine ⟨f, fd, ["thing", "hours"], ?_, hg, F.kp, F.bindsN fun _ _ _ _ _ _ us hl => match us, hl with | [_, _], _ => rfl⟩
  refine F.ok sc_m_are_series (fun vs H Q E h => h.1) (fun cdv A outer s H vs Q E hr h => body_ok (m := (mSeq m_are_series_s0 (mSeq m_are_series_s2 m_are_series_s7))) (by decide) ?_ h)
  exact (sss_cons (ss_if (st_w (sw_or (st_not (st_val (se_isi rfl g.b_isinstance rfl g.b_tuple bt_tuple (sv 0)))) (sw_or1 (st_not (st_chain (opM_int op_le) pu_cmpI (opM_int op_le) pu_cmpI se_int (se_callB crM_len pu_len rfl g.b_len bt_len (sa_cons (sv 0) sa_nil)) se_int))))) (sss_one (ss_ret se_bl)) sss_nil) (sss_cons (ss_for pass_cx rfl (si_seq (sv 0)) (sn 2 sc_m_are_series.nd) (sss_cons (ss_if (st_w (sw_or (st_not (st_val (se_isi rfl g.b_isinstance rfl g.b_tuple bt_tuple (sv 2)))) (sw_or1 (st_cmp (opM_ne (Room.u64 hr)) pu_ne (nomark _) (se_callB crM_len pu_len rfl g.b_len bt_len (sa_cons (sv 2) sa_nil)) se_int)))) (sss_one (ss_ret se_bl)) sss_nil) (sss_one (ss_if (st_w (sw_or (st_not (st_val (se_callN h_is_whole hr (by decide) rfl takes_cx (sa_cons (se_ix (Room.u1 hr) (fun _ _ => rfl) (sv 2) se_int pu_ix) (sa_cons se_int (sa_cons se_int sa_nil))) (lenCons (lenCons (lenCons lenNil)))))) (sw_or1 (st_not (st_val (se_callN h_is_whole hr (by decide) rfl takes_cx (sa_cons (se_ix (Room.u1 hr) (fun _ _ => rfl) (sv 2) se_int pu_ix) (sa_cons se_int (sa_cons (se_op opM_sub pu_sub (sv 1) se_int) sa_nil))) (lenCons (lenCons (lenCons lenNil))))))))) (sss_one (ss_ret se_bl)) sss_nil)))) (sss_one (ss_ret (se_cmp (opM_eq (Room.u64 hr)) pu_eq (nomark _) (se_callB crM_len pu_len rfl g.b_len bt_len (sa_cons (se_dc (fr := true) (own := [("row", 2)]) rfl sc_m_are_series.nd (si_seq (sv 0)) (blkOk_by rfl) (fun _ _ _ _ _ => (sn 2 sc_m_are_series.nd)) (fun _ _ _ _ _ => sts_nil) (fun _ _ _ _ _ => (se_ix (Room.u1 hr) (fun _ _ => rfl) (sv 2) se_int pu_ix)) (fun _ _ _ _ _ => se_bl) (by decide)) sa_nil)) (se_callB crM_len pu_len rfl g.b_len bt_len (sa_cons (sv 0) sa_nil)))))))
def m_is_step_s1 : MS := (mRet (mC (.bl false)))
def m_is_step_s0 : MS := (mIfS (mOr (mNot (mTest (mIsi "tuple" (mVar 0)))) (mOr (mNot (mTruth (mVar 0))) (mNot (mTest (mIsi "str" (mOp idxM (mVar 0) (mC (.int 0)))))))) m_is_step_s1 mNext)
def m_is_step_s3 : MS := (mRet (mAndV (mOp eqM (mCallF lenM (mCons (mVar 0) mNil)) (mC (.int 2))) (mCallF m_is_whole (mCons (mOp idxM (mVar 0) (mC (.int 1))) (mCons (mC (.int 0)) (mCons (mOp subM (mVar 2) (mC (.int 1))) mNil))))))
def m_is_step_s2 : MS := (mIfS (mTest (mOp inM (mOp idxM (mVar 0) (mC (.int 0))) (mTup (mCons (mC (.str "find")) (mCons (mC (.str "room")) mNil))))) m_is_step_s3 mNext)
def m_is_step_s5 : MS := (mRet (mOp eqM (mCallF lenM (mCons (mVar 0) mNil)) (mC (.int 1))))
def m_is_step_s4 : MS := (mIfS (mTest (mOp inM (mOp idxM (mVar 0) (mC (.int 0))) (mTup (mCons (mC (.str "person")) (mCons (mC (.str "tell")) mNil))))) m_is_step_s5 mNext)
def m_is_step_s7 : MS := (mRet (mAndV (mOp eqM (mCallF lenM (mCons (mVar 0) mNil)) (mC (.int 2))) (mCallF m_is_whole (mCons (mOp idxM (mVar 0) (mC (.int 1))) (mCons (mC (.int 0)) (mCons (mOp subM (mVar 1) (mC (.int 1))) mNil))))))
def m_is_step_s6 : MS := (mIfS (mTest (mOp eqM (mOp idxM (mVar 0) (mC (.int 0))) (mC (.str "off")))) m_is_step_s7 mNext)
def m_is_step_s9 : MS := (mRet (mC (.bl false)))
def m_is_step_s8 : MS := (mIfS (mOr (mTest (mOp neM (mOp idxM (mVar 0) (mC (.int 0))) (mC (.str "one")))) (mTest (mOp neM (mCallF lenM (mCons (mVar 0) mNil)) (mC (.int 3))))) m_is_step_s9 mNext)
def m_is_step_s10 : MS := (mRet (mAndV (mCallF m_is_whole (mCons (mOp idxM (mVar 0) (mC (.int 1))) (mCons (mC (.int 0)) (mCons (mOp subM (mVar 1) (mC (.int 1))) mNil)))) (mCallF m_is_whole (mCons (mOp idxM (mVar 0) (mC (.int 2))) (mCons (mC (.int 0)) (mCons (mOp subM (mVar 2) (mC (.int 1))) mNil))))))
def m_is_step : MF := mFn 3 ((mSeq m_is_step_s0 (mSeq m_is_step_s2 (mSeq m_is_step_s4 (mSeq m_is_step_s6 (mSeq m_is_step_s8 m_is_step_s10))))))
theorem sc_m_is_step : FnScope ["thing", "days", "hours"] ["thing", "days", "hours"] (defScope s_is_step) := ⟨rfl, rfl, rfl, by decide +kernel, rfl, by decide +kernel, by decide +kernel⟩
theorem ok_is_step {P : Program} {w : PySem.World} {K : PySem.W.Frag} {mg : Str → Option Value} {base : Heap} {f : Addr} {fd : FuncData} (g : Gs K mg) (h_is_whole : FN P w K mg base 1 3 "is_whole" m_is_whole) (F : FunD K "is_step" "is_step" (defArgs s_is_step) (defBody s_is_step) (defScope s_is_step) [] [] f fd) (hg : mg "is_step" = some (.ref f)) : FN P w K mg base 2 3 "is_step" m_is_step := by
  refine ⟨f, fd, ["thing", "days", "hours"], ?_, hg, F.kp, F.bindsN fun _ _ _ _ _ _ us hl => match us, hl with | [_, _, _], _ => rfl⟩
  refine F.ok sc_m_is_step (fun vs H Q E h => h.1) (fun cdv A outer s H vs Q E hr h => body_ok (m := (mSeq m_is_step_s0 (mSeq m_is_step_s2 (mSeq m_is_step_s4 (mSeq m_is_step_s6 (mSeq m_is_step_s8 m_is_step_s10)))))) (by decide) ?_ h)
  exact (sss_cons (ss_if (st_w (sw_or (st_not (st_val (se_isi rfl g.b_isinstance rfl g.b_tuple bt_tuple (sv 0)))) (sw_or (st_not (st_truth (sv 0))) (sw_or1 (st_not (st_val (se_isi rfl g.b_isinstance rfl g.b_str bt_str (se_ix (Room.u1 hr) (fun _ _ => rfl) (sv 0) se_int pu_ix)))))))) (sss_one (ss_ret se_bl)) sss_nil) (sss_cons (ss_if (st_cmp (opM_in (Room.u65 hr)) pu_in (by with_unfolding_all rfl) (se_ix (Room.u1 hr) (fun _ _ => rfl) (sv 0) se_int pu_ix) (se_tup (sa_cons se_str (sa_cons se_str sa_nil)) (lenCons (lenCons lenNil)) (by decide))) (sss_one (ss_ret (se_and (se_cmp (opM_eq (Room.u64 hr)) pu_eq (nomark _) (se_callB crM_len pu_len rfl g.b_len bt_len (sa_cons (sv 0) sa_nil)) se_int) (se_one (se_callN h_is_whole hr (by decide) rfl takes_cx (sa_cons (se_ix (Room.u1 hr) (fun _ _ => rfl) (sv 0) se_int pu_ix) (sa_cons se_int (sa_cons (se_op opM_sub pu_sub (sv 2) se_int) sa_nil))) (lenCons (lenCons (lenCons lenNil)))))))) sss_nil) (sss_cons (ss_if (st_cmp (opM_in (Room.u65 hr)) pu_in (by with_unfolding_all rfl) (se_ix (Room.u1 hr) (fun _ _ => rfl) (sv 0) se_int pu_ix) (se_tup (sa_cons se_str (sa_cons se_str sa_nil)) (lenCons (lenCons lenNil)) (by decide))) (sss_one (ss_ret (se_cmp (opM_eq (Room.u64 hr)) pu_eq (nomark _) (se_callB crM_len pu_len rfl g.b_len bt_len (sa_cons (sv 0) sa_nil)) se_int))) sss_nil) (sss_cons (ss_if (st_cmp (opM_eq (Room.u64 hr)) pu_eq (nomark _) (se_ix (Room.u1 hr) (fun _ _ => rfl) (sv 0) se_int pu_ix) se_str) (sss_one (ss_ret (se_and (se_cmp (opM_eq (Room.u64 hr)) pu_eq (nomark _) (se_callB crM_len pu_len rfl g.b_len bt_len (sa_cons (sv 0) sa_nil)) se_int) (se_one (se_callN h_is_whole hr (by decide) rfl takes_cx (sa_cons (se_ix (Room.u1 hr) (fun _ _ => rfl) (sv 0) se_int pu_ix) (sa_cons se_int (sa_cons (se_op opM_sub pu_sub (sv 1) se_int) sa_nil))) (lenCons (lenCons (lenCons lenNil)))))))) sss_nil) (sss_cons (ss_if (st_w (sw_or (st_cmp (opM_ne (Room.u64 hr)) pu_ne (nomark _) (se_ix (Room.u1 hr) (fun _ _ => rfl) (sv 0) se_int pu_ix) se_str) (sw_or1 (st_cmp (opM_ne (Room.u64 hr)) pu_ne (nomark _) (se_callB crM_len pu_len rfl g.b_len bt_len (sa_cons (sv 0) sa_nil)) se_int)))) (sss_one (ss_ret se_bl)) sss_nil) (sss_one (ss_ret (se_and (se_callN h_is_whole hr (by decide) rfl takes_cx (sa_cons (se_ix (Room.u1 hr) (fun _ _ => rfl) (sv 0) se_int pu_ix) (sa_cons se_int (sa_cons (se_op opM_sub pu_sub (sv 1) se_int) sa_nil))) (lenCons (lenCons (lenCons lenNil)))) (se_one (se_callN h_is_whole hr (by decide) rfl takes_cx (sa_cons (se_ix (Room.u1 hr) (fun _ _ => rfl) (sv 0) se_int pu_ix) (sa_cons se_int (sa_cons (se_op opM_sub pu_sub (sv 2) se_int) sa_nil))) (lenCons (lenCons (lenCons lenNil)))))))))))))
def m_is_hand_s1 : MS := (mRet (mC (.bl false)))
def m_is_hand_s0 : MS := (mIfS (mOr (mNot (mTest (mIsi "tuple" (mVar 0)))) (mOr (mTest (mOp neM (mCallF lenM (mCons (mVar 0) mNil)) (mC (.int 2)))) (mNot (mTest (mCallF m_is_whole (mCons (mOp idxM (mVar 0) (mC (.int 0))) (mCons (mC (.int 0)) (mCons (mOp subM (mVar 3) (mC (.int 1))) mNil)))))))) m_is_hand_s1 mNext)
def m_is_hand_s3 : MS := (mRet (mC (.bl false)))
def m_is_hand_s2 : MS := (mIfS (mOr (mNot (mTest (mIsi "tuple" (mOp idxM (mVar 0) (mC (.int 1)))))) (mNot (mTest (mChain leM leM (mC (.int 1)) (mCallF lenM (mCons (mOp idxM (mVar 0) (mC (.int 1))) mNil)) (mC (.int 4)))))) m_is_hand_s3 mNext)
def m_is_hand_s4 : MS := (mRet (mCallF allM (mCons (mLc true [4] (mSrc (mOp idxM (mVar 0) (mC (.int 1)))) (tgName 4) mTrue (mCallF m_is_step (mCons (mVar 4) (mCons (mVar 1) (mCons (mVar 2) mNil))))) mNil)))
def m_is_hand : MF := mFn 5 ((mSeq m_is_hand_s0 (mSeq m_is_hand_s2 m_is_hand_s4)))
theorem sc_m_is_hand : FnScope ["thing", "days", "hours", "many", "step"] ["thing", "days", "hours", "many"] (defScope s_is_hand) := ⟨rfl, rfl, rfl, by decide +kernel, rfl, by decide +kernel, by decide +kernel⟩
theorem ok_is_hand {P : Program} {w : PySem.World} {K : PySem.W.Frag} {mg : Str → Option Value} {base : Heap} {f : Addr} {fd : FuncData} (g : Gs K mg) (h_is_whole : FN P w K mg base 1 3 "is_whole" m_is_whole) (h_is_step : FN P w K mg base 2 3 "is_step" m_is_step) (F : FunD K "is_hand" "is_hand" (defArgs s_is_hand) (defBody s_is_hand) (defScope s_is_hand) [] [] f fd) (hg : mg "is_hand" = some (.ref f)) : FN P w K mg base 3 4 "is_hand" m_is_hand := by
  refine ⟨f, fd, ["thing", "days", "hours", "many"], ?_, hg, F.kp, F.bindsN fun _ _ _ _ _ _ us hl => match us, hl with | [_, _, _, _], _ => rfl⟩
  refine F.ok sc_m_is_hand (fun vs H Q E h => h.1) (fun cdv A outer s H vs Q E hr h => body_ok (m := (mSeq m_is_hand_s0 (mSeq m_is_hand_s2 m_is_hand_s4))) (by decide) ?_ h)
  exact (sss_cons (ss_if (st_w (sw_or (st_not (st_val (se_isi rfl g.b_isinstance rfl g.b_tuple bt_tuple (sv 0)))) (sw_or (st_cmp (opM_ne (Room.u64 hr)) pu_ne (nomark _) (se_callB crM_len pu_len rfl g.b_len bt_len (sa_cons (sv 0) sa_nil)) se_int) (sw_or1 (st_not (st_val (se_callN h_is_whole hr (by decide) rfl takes_cx (sa_cons (se_ix (Room.u1 hr) (fun _ _ => rfl) (sv 0) se_int pu_ix) (sa_cons se_int (sa_cons (se_op opM_sub pu_sub (sv 3) se_int) sa_nil))) (lenCons (lenCons (lenCons lenNil)))))))))) (sss_one (ss_ret se_bl)) sss_nil) (sss_cons (ss_if (st_w (sw_or (st_not (st_val (se_isi rfl g.b_isinstance rfl g.b_tuple bt_tuple (se_ix (Room.u1 hr) (fun _ _ => rfl) (sv 0) se_int pu_ix)))) (sw_or1 (st_not (st_chain (opM_int op_le) pu_cmpI (opM_int op_le) pu_cmpI se_int (se_callB crM_len pu_len rfl g.b_len bt_len (sa_cons (se_ix (Room.u1 hr) (fun _ _ => rfl) (sv 0) se_int pu_ix) sa_nil)) se_int))))) (sss_one (ss_ret se_bl)) sss_nil) (sss_one (ss_ret (se_callB (crM_all rfl) pu_all rfl g.b_all bt_all (sa_cons (se_lc (fr := true) (own := [("step", 4)]) rfl sc_m_is_hand.nd (si_seq (se_ix (Room.u1 hr) (fun _ _ => rfl) (sv 0) se_int pu_ix)) (blkOk_by rfl) (fun _ _ _ _ _ => (sn 4 sc_m_is_hand.nd)) (fun _ _ _ _ _ => sts_nil) (fun _ _ _ _ _ => (se_callN h_is_step hr (by decide) rfl takesNo (sa_cons (sv 4) (sa_cons (sv 1) (sa_cons (sv 2) sa_nil))) (lenCons (lenCons (lenCons lenNil))))) (by decide)) sa_nil))))))
def m_is_world_s1 : MS := (mRet (mC (.bl false)))
def m_is_world_s0 : MS := (mIfS (mOr (mNot (mTest (mIsi "tuple" (mVar 0)))) (mOr (mTest (mOp neM (mCallF lenM (mCons (mVar 0) mNil)) (mC (.int 4)))) (mOr (mNot (mTest (mCallF m_is_whole (mCons (mOp idxM (mVar 0) (mC (.int 0))) (mCons (mC (.int 1)) (mCons (mC (.int 2)) mNil)))))) (mNot (mTest (mCallF m_is_whole (mCons (mOp idxM (mVar 0) (mC (.int 1))) (mCons (mC (.int 2)) (mCons (mC (.int 3)) mNil))))))))) m_is_world_s1 mNext)
def m_is_world_s2 : MS := (mAsg (mVar 0) (tgTup (tgCons (tgName 1) (tgCons (tgName 2) (tgCons (tgName 3) (tgCons (tgName 4) tgNil))))))
def m_is_world_s4 : MS := (mRet (mC (.bl false)))
def m_is_world_s3 : MS := (mIfS (mOr (mNot (mTest (mCallF m_are_series (mCons (mVar 3) (mCons (mVar 2) mNil))))) (mOr (mNot (mTest (mIsi "tuple" (mVar 4)))) (mNot (mTest (mChain leM leM (mC (.int 1)) (mCallF lenM (mCons (mVar 4) mNil)) (mC (.int 3))))))) m_is_world_s4 mNext)
def m_is_world_s6 : MS := (mRet (mC (.bl false)))
def m_is_world_s5 : MS := (mIfS (mNot (mTest (mCallF allM (mCons (mLc true [5] (mSrc (mVar 4)) (tgName 5) mTrue (mCallF m_is_hand (mCons (mVar 5) (mCons (mVar 1) (mCons (mVar 2) (mCons (mCallF lenM (mCons (mVar 3) mNil)) mNil)))))) mNil)))) m_is_world_s6 mNext)
def m_is_world_s7 : MS := (mRet (mOp leM (mCallF sumM (mCons (mLc true [5] (mSrc (mVar 4)) (tgName 5) mTrue (mCallF lenM (mCons (mOp idxM (mVar 5) (mC (.int 1))) mNil))) mNil)) (mC (.int 8))))
def m_is_world : MF := mFn 6 ((mSeq m_is_world_s0 (mSeq m_is_world_s2 (mSeq m_is_world_s3 (mSeq m_is_world_s5 m_is_world_s7)))))
theorem sc_m_is_world : FnScope ["thing", "days", "hours", "series", "hands", "hand"] ["thing"] (defScope s_is_world) := ⟨rfl, rfl, rfl, by decide +kernel, rfl, by decide +kernel, by decide +kernel⟩
theorem ok_is_world {P : Program} {w : PySem.World} {K : PySem.W.Frag} {mg : Str → Option Value} {base : Heap} {f : Addr} {fd : FuncData} (g : Gs K mg) (h_is_whole : FN P w K mg base 1 3 "is_whole" m_is_whole) (h_are_series : FN P w K mg base 2 2 "are_series" m_are_series) (h_is_hand : FN P w K mg base 3 4 "is_hand" m_is_hand) (F : FunD K "is_world" "is_world" (defArgs s_is_world) (defBody s_is_world) (defScope s_is_world) [] [] f fd) (hg : mg "is_world" = some (.ref f)) : FN P w K mg base 4 1 "is_world" m_is_world := by
  refine ⟨f, fd, ["thing"], ?_, hg, F.kp, F.bindsN fun _ _ _ _ _ _ us hl => match us, hl with | [_], _ => rfl⟩
  refine F.ok sc_m_is_world (fun vs H Q E h => h.1) (fun cdv A outer s H vs Q E hr h => body_ok (m := (mSeq m_is_world_s0 (mSeq m_is_world_s2 (mSeq m_is_world_s3 (mSeq m_is_world_s5 m_is_world_s7))))) (by decide) ?_ h)
  exact (sss_cons (ss_if (st_w (sw_or (st_not (st_val (se_isi rfl g.b_isinstance rfl g.b_tuple bt_tuple (sv 0)))) (sw_or (st_cmp (opM_ne (Room.u64 hr)) pu_ne (nomark _) (se_callB crM_len pu_len rfl g.b_len bt_len (sa_cons (sv 0) sa_nil)) se_int) (sw_or (st_not (st_val (se_callN h_is_whole hr (by decide) rfl takes_cx (sa_cons (se_ix (Room.u1 hr) (fun _ _ => rfl) (sv 0) se_int pu_ix) (sa_cons se_int (sa_cons se_int sa_nil))) (lenCons (lenCons (lenCons lenNil)))))) (sw_or1 (st_not (st_val (se_callN h_is_whole hr (by decide) rfl takes_cx (sa_cons (se_ix (Room.u1 hr) (fun _ _ => rfl) (sv 0) se_int pu_ix) (sa_cons se_int (sa_cons se_int sa_nil))) (lenCons (lenCons (lenCons lenNil))))))))))) (sss_one (ss_ret se_bl)) sss_nil) (sss_cons (ss_asg (sv 0) (sg_tup rfl (sgs_cons (sn 1 sc_m_is_world.nd) (sgs_cons (sn 2 sc_m_is_world.nd) (sgs_cons (sn 3 sc_m_is_world.nd) (sgs_cons (sn 4 sc_m_is_world.nd) sgs_nil)))))) (sss_cons (ss_if (st_w (sw_or (st_not (st_val (se_callN h_are_series hr (by decide) rfl takes_cx (sa_cons (sv 3) (sa_cons (sv 2) sa_nil)) (lenCons (lenCons lenNil))))) (sw_or (st_not (st_val (se_isi rfl g.b_isinstance rfl g.b_tuple bt_tuple (sv 4)))) (sw_or1 (st_not (st_chain (opM_int op_le) pu_cmpI (opM_int op_le) pu_cmpI se_int (se_callB crM_len pu_len rfl g.b_len bt_len (sa_cons (sv 4) sa_nil)) se_int)))))) (sss_one (ss_ret se_bl)) sss_nil) (sss_cons (ss_if (st_not (st_val (se_callB (crM_all rfl) pu_all rfl g.b_all bt_all (sa_cons (se_lc (fr := true) (own := [("hand", 5)]) rfl sc_m_is_world.nd (si_seq (sv 4)) (blkOk_by rfl) (fun _ _ _ _ _ => (sn 5 sc_m_is_world.nd)) (fun _ _ _ _ _ => sts_nil) (fun _ _ _ _ _ => (se_callN h_is_hand hr (by decide) rfl takesNo (sa_cons (sv 5) (sa_cons (sv 1) (sa_cons (sv 2) (sa_cons (se_callB crM_len pu_len rfl g.b_len bt_len (sa_cons (sv 3) sa_nil)) sa_nil)))) (lenCons (lenCons (lenCons (lenCons lenNil)))))) (by decide)) sa_nil)))) (sss_one (ss_ret se_bl)) sss_nil) (sss_one (ss_ret (se_cmp (opM_int op_le) pu_cmpI (nomark _) (se_callB (crM_sum rfl) pu_sum rfl g.b_sum bt_sum (sa_cons (se_lc (fr := true) (own := [("hand", 5)]) rfl sc_m_is_world.nd (si_seq (sv 4)) (blkOk_by rfl) (fun _ _ _ _ _ => (sn 5 sc_m_is_world.nd)) (fun _ _ _ _ _ => sts_nil) (fun _ _ _ _ _ => (se_callB crM_len pu_len rfl g.b_len bt_len (sa_cons (se_ix (Room.u1 hr) (fun _ _ => rfl) (sv 5) se_int pu_ix) sa_nil))) (by decide)) sa_nil)) se_int)))))))
def m_check_world_s1 : MS := (mRaise0 "BadWorld")
def m_check_world_s0 : MS := (mIfS (mNot (mTest (mCallF m_is_world (mCons (mVar 0) mNil)))) m_check_world_s1 mNext)
def m_check_world : MF := mFn 1 (m_check_world_s0)
theorem sc_m_check_world : FnScope ["world"] ["world"] (defScope s_check_world) := ⟨rfl, rfl, rfl, by decide +kernel, rfl, by decide +kernel, by decide +kernel⟩
theorem ok_check_world {P : Program} {w : PySem.World} {K : PySem.W.Frag} {mg : Str → Option Value} {base : Heap} {f : Addr} {fd : FuncData} (g : Gs K mg) (h_is_world : FN P w K mg base 4 1 "is_world" m_is_world) (F : FunD K "check_world" "check_world" (defArgs s_check_world) (defBody s_check_world) (defScope s_check_world) [] [] f fd) (hg : mg "check_world" = some (.ref f)) : FN P w K mg base 5 1 "check_world" m_check_world := by
  refine ⟨f, fd, ["world"], ?_, hg, F.kp, F.bindsN fun _ _ _ _ _ _ us hl => match us, hl with | [_], _ => rfl⟩
  refine F.ok sc_m_check_world (fun vs H Q E h => h.1) (fun cdv A outer s H vs Q E hr h => body_ok (m := m_check_world_s0) (by decide) ?_ h)
  exact (sss_one (ss_if (st_not (st_val (se_callN h_is_world hr (by decide) rfl takes_cx (sa_cons (sv 0) sa_nil) (lenCons lenNil)))) (sss_one (ss_raise0 rfl takes_cx g.x0_BadWorld rfl g.gc_BadWorld)) sss_nil))
def m_check_faults_s1 : MS := (mRaise0 "BadFault")
def m_check_faults_s0 : MS := (mIfS (mOr (mNot (mTest (mIsi "list" (mVar 0)))) (mNot (mTest (mCallF allM (mCons (mLc true [1] (mSrc (mVar 0)) (tgName 1) mTrue (mAndV (mIsi "str" (mVar 1)) (mOp inM (mVar 1) (mC d_FAULTS)))) mNil))))) m_check_faults_s1 mNext)
def m_check_faults : MF := mFn 2 (m_check_faults_s0)
theorem sc_m_check_faults : FnScope ["faults", "one"] ["faults"] (defScope s_check_faults) := ⟨rfl, rfl, rfl, by decide +kernel, rfl, by decide +kernel, by decide +kernel⟩
theorem ok_check_faults {P : Program} {w : PySem.World} {K : PySem.W.Frag} {mg : Str → Option Value} {base : Heap} {f : Addr} {fd : FuncData} (g : Gs K mg) (F : FunD K "check_faults" "check_faults" (defArgs s_check_faults) (defBody s_check_faults) (defScope s_check_faults) [] [] f fd) (hg : mg "check_faults" = some (.ref f)) : FN P w K mg base 1 1 "check_faults" m_check_faults := by
  refine ⟨f, fd, ["faults"], ?_, hg, F.kp, F.bindsN fun _ _ _ _ _ _ us hl => match us, hl with | [_], _ => rfl⟩
  refine F.ok sc_m_check_faults (fun vs H Q E h => h.1) (fun cdv A outer s H vs Q E hr h => body_ok (m := m_check_faults_s0) (by decide) ?_ h)
  exact (sss_one (ss_if (st_w (sw_or (st_not (st_val (se_isi rfl g.b_isinstance rfl g.b_list bt_list (sv 0)))) (sw_or1 (st_not (st_val (se_callB (crM_all rfl) pu_all rfl g.b_all bt_all (sa_cons (se_lc (fr := true) (own := [("one", 1)]) rfl sc_m_check_faults.nd (si_seq (sv 0)) (blkOk_by rfl) (fun _ _ _ _ _ => (sn 1 sc_m_check_faults.nd)) (fun _ _ _ _ _ => sts_nil) (fun _ _ _ _ _ => (se_and (se_isi rfl g.b_isinstance rfl g.b_str bt_str (sv 1)) (se_one (se_cmp (opM_in (Room.u65 hr)) pu_in (by with_unfolding_all rfl) (sv 1) (se_globN g.k_FAULTS rfl))))) (by decide)) sa_nil))))))) (sss_one (ss_raise0 rfl takes_cx g.x0_BadFault rfl g.gc_BadFault)) sss_nil))
def m_bars_s0 : MS := (mDrop (mCallF m_check_world (mCons (mVar 1) mNil)))
def m_bars_s1 : MS := (mDrop (mCallF m_check_faults (mCons (mVar 2) mNil)))
def m_bars_s2 : MS := mStk
def m_bars_s3 : MS := mStk
def m_bars_s4 : MS := mStk
def m_bars : MF := mFn 7 ((mSeq m_bars_s0 (mSeq m_bars_s1 (mSeq m_bars_s2 (mSeq m_bars_s3 m_bars_s4)))))
theorem sc_m_bars : FnScope ["rule", "world", "faults", "joints", "size", "found", "row"] ["rule", "world", "faults"] (defScope s_bars) := ⟨rfl, rfl, rfl, by decide +kernel, rfl, by decide +kernel, by decide +kernel⟩
theorem ok_bars {P : Program} {w : PySem.World} {K : PySem.W.Frag} {mg : Str → Option Value} {base : Heap} {f : Addr} {fd : FuncData} (g : Gs K mg) (h_check_world : FN P w K mg base 5 1 "check_world" m_check_world) (h_check_faults : FN P w K mg base 1 1 "check_faults" m_check_faults) (F : FunD K "bars" "bars" (defArgs s_bars) (defBody s_bars) (defScope s_bars) [] [] f fd) (hg : mg "bars" = some (.ref f)) : FN P w K mg base 6 3 "bars" m_bars := by
  refine ⟨f, fd, ["rule", "world", "faults"], ?_, hg, F.kp, F.bindsN fun _ _ _ _ _ _ us hl => match us, hl with | [_, _, _], _ => rfl⟩
  refine F.ok sc_m_bars (fun vs H Q E h => h.1) (fun cdv A outer s H vs Q E hr h => body_ok (m := (mSeq m_bars_s0 (mSeq m_bars_s1 (mSeq m_bars_s2 (mSeq m_bars_s3 m_bars_s4))))) (by decide) ?_ h)
  exact (sss_cons (ss_expr (se_callN h_check_world hr (by decide) rfl takes_cx (sa_cons (sv 1) sa_nil) (lenCons lenNil))) (sss_cons (ss_expr (se_callN h_check_faults hr (by decide) rfl takes_cx (sa_cons (sv 2) sa_nil) (lenCons lenNil))) (sss_cons ss_stk (sss_cons ss_stk (sss_one ss_stk)))))
def m_mends_s0 : MS := (mDrop (mCallF m_check_world (mCons (mVar 1) mNil)))
def m_mends_s1 : MS := (mDrop (mCallF m_check_faults (mCons (mVar 2) mNil)))
def m_mends_s2 : MS := mStk
def m_mends_s3 : MS := mStk
def m_mends : MF := mFn 7 ((mSeq m_mends_s0 (mSeq m_mends_s1 (mSeq m_mends_s2 m_mends_s3))))
theorem sc_m_mends : FnScope ["rule", "world", "faults", "size", "rows", "found", "row"] ["rule", "world", "faults"] (defScope s_mends) := ⟨rfl, rfl, rfl, by decide +kernel, rfl, by decide +kernel, by decide +kernel⟩
theorem ok_mends {P : Program} {w : PySem.World} {K : PySem.W.Frag} {mg : Str → Option Value} {base : Heap} {f : Addr} {fd : FuncData} (g : Gs K mg) (h_check_world : FN P w K mg base 5 1 "check_world" m_check_world) (h_check_faults : FN P w K mg base 1 1 "check_faults" m_check_faults) (F : FunD K "mends" "mends" (defArgs s_mends) (defBody s_mends) (defScope s_mends) [] [] f fd) (hg : mg "mends" = some (.ref f)) : FN P w K mg base 6 3 "mends" m_mends := by
  refine ⟨f, fd, ["rule", "world", "faults"], ?_, hg, F.kp, F.bindsN fun _ _ _ _ _ _ us hl => match us, hl with | [_, _, _], _ => rfl⟩
  refine F.ok sc_m_mends (fun vs H Q E h => h.1) (fun cdv A outer s H vs Q E hr h => body_ok (m := (mSeq m_mends_s0 (mSeq m_mends_s1 (mSeq m_mends_s2 m_mends_s3)))) (by decide) ?_ h)
  exact (sss_cons (ss_expr (se_callN h_check_world hr (by decide) rfl takes_cx (sa_cons (sv 1) sa_nil) (lenCons lenNil))) (sss_cons (ss_expr (se_callN h_check_faults hr (by decide) rfl takes_cx (sa_cons (sv 2) sa_nil) (lenCons lenNil))) (sss_cons ss_stk (sss_one ss_stk))))
def m_fresh_s0 : MS := (mRet (mTup (mCons (mVar 0) (mCons (mVar 1) (mCons (mOp mulM (mTup (mCons (mTup (mCons (mVar 1) (mCons (mVar 1) (mCons (mC (.bl false)) mNil)))) mNil)) (mVar 2)) mNil)))))
def m_fresh : MF := mFn 3 (m_fresh_s0)
theorem sc_m_fresh : FnScope ["person", "hour", "days"] ["person", "hour", "days"] (defScope s_fresh) := ⟨rfl, rfl, rfl, by decide +kernel, rfl, by decide +kernel, by decide +kernel⟩
theorem ok_fresh {P : Program} {w : PySem.World} {K : PySem.W.Frag} {mg : Str → Option Value} {base : Heap} {f : Addr} {fd : FuncData} (g : Gs K mg) (F : FunD K "fresh" "fresh" (defArgs s_fresh) (defBody s_fresh) (defScope s_fresh) [] [] f fd) (hg : mg "fresh" = some (.ref f)) : FN P w K mg base 1 3 "fresh" m_fresh := by
  refine ⟨f, fd, ["person", "hour", "days"], ?_, hg, F.kp, F.bindsN fun _ _ _ _ _ _ us hl => match us, hl with | [_, _, _], _ => rfl⟩
  refine F.ok sc_m_fresh (fun vs H Q E h => h.1) (fun cdv A outer s H vs Q E hr h => body_ok (m := m_fresh_s0) (by decide) ?_ h)
  exact (sss_one (ss_ret (se_tup (sa_cons (sv 0) (sa_cons (sv 1) (sa_cons (se_op opM_mul pu_mul (se_tup (sa_cons (se_tup (sa_cons (sv 1) (sa_cons (sv 1) (sa_cons se_bl sa_nil))) (lenCons (lenCons (lenCons lenNil))) (by decide)) sa_nil) (lenCons lenNil) (by decide)) (sv 2)) sa_nil))) (lenCons (lenCons (lenCons lenNil))) (by decide))))
def m_Calendar_count_s1 : MS := (mSub (mC (.bl true)) (mBM kDcT dsetdM (mVar 1) (mCons (mVar 2) (mCons (fun _ S => mkD false [] [] S) mNil))) (mVar 3))
def m_Calendar_count_s2 : MS := (mDrop (mBM kDct dpopM (mOp idxTM (mVar 1) (mVar 2)) (mCons (mVar 3) mNil)))
def m_Calendar_count_s0 : MS := (mIfS (mTest (mOp gtM (mVar 4) (mC (.int 0)))) m_Calendar_count_s1 m_Calendar_count_s2)
def m_Calendar_count : MF := mFn 5 (m_Calendar_count_s0)
theorem sc_m_Calendar_count : FnScope ["self", "table", "key", "series", "sign"] ["self", "table", "key", "series", "sign"] (defScope s_Calendar_count) := ⟨rfl, rfl, rfl, by decide +kernel, rfl, by decide +kernel, by decide +kernel⟩
theorem ok_Calendar_count {P : Program} {w : PySem.World} {K : PySem.W.Frag} {mg : Str → Option Value} {base : Heap} {fd : FuncData} (g : Gs K mg) (F : FunD K "count" "Calendar.count" (defArgs s_Calendar_count) (defBody s_Calendar_count) (defScope s_Calendar_count) [] [] (He.ma K (He.ga K "Calendar") "count") fd) : MN P w K mg base 1 5 "Calendar" "count" m_Calendar_count := by
  refine ⟨fd, ["self", "table", "key", "series", "sign"], ?_, F.bindsN fun _ _ _ _ _ _ us hl => match us, hl with | [_, _, _, _, _], _ => rfl⟩
  refine F.ok sc_m_Calendar_count (fun vs H Q E h => h.1) (fun cdv A outer s H vs Q E hr h => body_ok (m := m_Calendar_count_s0) (by decide) ?_ h)
  exact (sss_one (ss_if (st_cmp (opM_int op_gt) pu_cmpI (nomark _) (sv 4) se_int) (sss_one (ss_sub (Room.u1 hr) se_bl (se_bx PySem.F.plainAttrs_dict PySem.F.slot_dict_setdefault PySem.F.type_dict_setdefault (mt_dsetd (Room.u65 hr)) pu_dsetd kd_dcT (sv 1) (sa_cons (sv 2) (sa_cons (se_dnew (fr := false)) sa_nil)) ⟨rfl, rfl, rfl⟩) (sv 3))) (sss_one (ss_expr (se_bx PySem.F.plainAttrs_dict PySem.F.slot_dict_pop PySem.F.type_dict_pop mt_dpop pu_dpop kd_dct (se_ixT (Room.u65 hr) (fun _ _ => rfl) (sv 1) (sv 2) pu_ixT) (sa_cons (sv 3) sa_nil) ⟨rfl, rfl, rfl⟩)))))
def m_Calendar_mark_s0 : MS := (mAsg (mOp idxM (mFld "Calendar" "rows" (mVar 0)) (mVar 1)) (tgTup (tgCons (tgName 3) (tgCons (tgName 4) (tgCons (tgName 5) tgNil)))))
def m_Calendar_mark_s3 : MS := (mDrop (mMeth "Calendar" "count" m_Calendar_count (mVar 0) (mCons (mFld "Calendar" "rooms" (mVar 0)) (mCons (mTup (mCons (mVar 6) (mCons (mVar 7) mNil))) (mCons (mVar 1) (mCons (mVar 2) mNil))))))
def m_Calendar_mark_s4 : MS := (mDrop (mMeth "Calendar" "count" m_Calendar_count (mVar 0) (mCons (mFld "Calendar" "persons" (mVar 0)) (mCons (mTup (mCons (mVar 3) (mCons (mVar 6) (mCons (mVar 8) mNil)))) (mCons (mVar 1) (mCons (mVar 2) mNil))))))
def m_Calendar_mark_s2 : MS := (mIfS (mTest (mOp isnM (mVar 7) (mC .non))) (mSeq m_Calendar_mark_s3 m_Calendar_mark_s4) mNext)
def m_Calendar_mark_s1 : MS := (mFor (mEnum (mCons (mVar 5) mNil)) (tgTup (tgCons (tgName 6) (tgCons (tgTup (tgCons (tgName 7) (tgCons (tgName 8) (tgCons (tgName 9) tgNil)))) tgNil))) m_Calendar_mark_s2)
def m_Calendar_mark : MF := mFn 10 ((mSeq m_Calendar_mark_s0 m_Calendar_mark_s1))
theorem sc_m_Calendar_mark : FnScope ["self", "series", "sign", "person", "base", "days", "day", "room", "there", "single"] ["self", "series", "sign"] (defScope s_Calendar_mark) := ⟨rfl, rfl, rfl, by decide +kernel, rfl, by decide +kernel, by decide +kernel⟩
theorem ok_Calendar_mark {P : Program} {w : PySem.World} {K : PySem.W.Frag} {mg : Str → Option Value} {base : Heap} {fd : FuncData} (g : Gs K mg) (h_Calendar_count : MN P w K mg base 1 5 "Calendar" "count" m_Calendar_count) (F : FunD K "mark" "Calendar.mark" (defArgs s_Calendar_mark) (defBody s_Calendar_mark) (defScope s_Calendar_mark) [] [] (He.ma K (He.ga K "Calendar") "mark") fd) : MN P w K mg base 2 3 "Calendar" "mark" m_Calendar_mark := by
  refine ⟨fd, ["self", "series", "sign"], ?_, F.bindsN fun _ _ _ _ _ _ us hl => match us, hl with | [_, _, _], _ => rfl⟩
  refine F.ok sc_m_Calendar_mark (fun vs H Q E h => h.1) (fun cdv A outer s H vs Q E hr h => body_ok (m := (mSeq m_Calendar_mark_s0 m_Calendar_mark_s1)) (by decide) ?_ h)
  exact (sss_cons (ss_asg (se_ix (Room.u1 hr) (fun _ _ => rfl) (se_fld g.c_Calendar g.n_Calendar_rows (sv 0)) (sv 1) pu_ix) (sg_tup rfl (sgs_cons (sn 3 sc_m_Calendar_mark.nd) (sgs_cons (sn 4 sc_m_Calendar_mark.nd) (sgs_cons (sn 5 sc_m_Calendar_mark.nd) sgs_nil))))) (sss_one (ss_for pass_cx rfl (si_enum rfl g.b_enumerate (sa_cons (sv 5) sa_nil)) (sg_tup rfl (sgs_cons (sn 6 sc_m_Calendar_mark.nd) (sgs_cons (sg_tup rfl (sgs_cons (sn 7 sc_m_Calendar_mark.nd) (sgs_cons (sn 8 sc_m_Calendar_mark.nd) (sgs_cons (sn 9 sc_m_Calendar_mark.nd) sgs_nil)))) sgs_nil))) (sss_one (ss_if (st_cmp opM_isn pu_isn (nomark _) (sv 7) se_non) (sss_cons (ss_expr (se_methN h_Calendar_count g.c_Calendar g.m_Calendar_count hr (by decide) takes_cx (sv 0) (sa_cons (se_fld g.c_Calendar g.n_Calendar_rooms (sv 0)) (sa_cons (se_tup (sa_cons (sv 6) (sa_cons (sv 7) sa_nil)) (lenCons (lenCons lenNil)) (by decide)) (sa_cons (sv 1) (sa_cons (sv 2) sa_nil)))) (lenCons (lenCons (lenCons (lenCons lenNil)))))) (sss_one (ss_expr (se_methN h_Calendar_count g.c_Calendar g.m_Calendar_count hr (by decide) takes_cx (sv 0) (sa_cons (se_fld g.c_Calendar g.n_Calendar_persons (sv 0)) (sa_cons (se_tup (sa_cons (sv 3) (sa_cons (sv 6) (sa_cons (sv 8) sa_nil))) (lenCons (lenCons (lenCons lenNil))) (by decide)) (sa_cons (sv 1) (sa_cons (sv 2) sa_nil)))) (lenCons (lenCons (lenCons (lenCons lenNil)))))))) sss_nil)))))
def m_Calendar_add_s1 : MS := (mRaise0 "BadSeries")
def m_Calendar_add_s0 : MS := (mIfS (mOr (mNot (mTest (mCallF m_is_whole (mCons (mVar 1) (mCons (mC (.int 0)) (mCons (mVar 1) mNil)))))) (mNot (mTest (mCallF m_is_whole (mCons (mVar 2) (mCons (mC (.int 0)) (mCons (mOp subM (mFld "Calendar" "hours" (mVar 0)) (mC (.int 1))) mNil))))))) m_Calendar_add_s1 mNext)
def m_Calendar_add_s4 : MS := (mRaise "Refused" "deed" (mTup (mCons (mC (.str "add")) (mCons (mVar 1) (mCons (mVar 2) mNil)))))
def m_Calendar_add_s3 : MS := (mIfS (mOr (mTruth (mBM kDcT dgetM (mFld "Calendar" "rooms" (mVar 0)) (mCons (mTup (mCons (mVar 3) (mCons (mVar 2) mNil))) (mCons (fun _ S => mkD false [] [] S) mNil)))) (mTruth (mBM kDcT dgetM (mFld "Calendar" "persons" (mVar 0)) (mCons (mTup (mCons (mVar 1) (mCons (mVar 3) (mCons (mVar 2) mNil)))) (mCons (fun _ S => mkD false [] [] S) mNil))))) m_Calendar_add_s4 mNext)
def m_Calendar_add_s2 : MS := (mFor (mRng (mCons (mFld "Calendar" "days" (mVar 0)) mNil)) (tgName 3) m_Calendar_add_s3)
def m_Calendar_add_s5 : MS := (mDrop (mApp (mFld "Calendar" "rows" (mVar 0)) (mCallF m_fresh (mCons (mVar 1) (mCons (mVar 2) (mCons (mFld "Calendar" "days" (mVar 0)) mNil))))))
def m_Calendar_add_s6 : MS := (mDrop (mApp (mFld "Calendar" "before" (mVar 0)) (mC .non)))
def m_Calendar_add_s7 : MS := (mDrop (mApp (mFld "Calendar" "seen" (mVar 0)) (mC .non)))
def m_Calendar_add_s8 : MS := (mDrop (mMeth "Calendar" "mark" m_Calendar_mark (mVar 0) (mCons (mOp subM (mCallF lenM (mCons (mFld "Calendar" "rows" (mVar 0)) mNil)) (mC (.int 1))) (mCons (mC (.int 1)) mNil))))
def m_Calendar_add_s9 : MS := (mDrop (mApp (mFld "Calendar" "done" (mVar 0)) (mTup (mCons (mTup (mCons (mC (.str "add")) (mCons (mVar 1) (mCons (mVar 2) mNil)))) (mCons (mC .non) (mCons (mC .non) mNil))))))
def m_Calendar_add_s10 : MS := (mRet (mOp subM (mCallF lenM (mCons (mFld "Calendar" "rows" (mVar 0)) mNil)) (mC (.int 1))))
def m_Calendar_add : MF := mFn 4 ((mSeq m_Calendar_add_s0 (mSeq m_Calendar_add_s2 (mSeq m_Calendar_add_s5 (mSeq m_Calendar_add_s6 (mSeq m_Calendar_add_s7 (mSeq m_Calendar_add_s8 (mSeq m_Calendar_add_s9 m_Calendar_add_s10))))))))
theorem sc_m_Calendar_add : FnScope ["self", "person", "hour", "day"] ["self", "person", "hour"] (defScope s_Calendar_add) := ⟨rfl, rfl, rfl, by decide +kernel, rfl, by decide +kernel, by decide +kernel⟩
theorem ok_Calendar_add {P : Program} {w : PySem.World} {K : PySem.W.Frag} {mg : Str → Option Value} {base : Heap} {fd : FuncData} (g : Gs K mg) (h_is_whole : FN P w K mg base 1 3 "is_whole" m_is_whole) (h_fresh : FN P w K mg base 1 3 "fresh" m_fresh) (h_Calendar_mark : MN P w K mg base 2 3 "Calendar" "mark" m_Calendar_mark) (x_Refused : XN P w K mg base 1 "Refused" "deed") (F : FunD K "add" "Calendar.add" (defArgs s_Calendar_add) (defBody s_Calendar_add) (defScope s_Calendar_add) [] [] (He.ma K (He.ga K "Calendar") "add") fd) : MN P w K mg base 3 3 "Calendar" "add" m_Calendar_add := by
  refine ⟨fd, ["self", "person", "hour"], ?_, F.bindsN fun _ _ _ _ _ _ us hl => match us, hl with | [_, _, _], _ => rfl⟩
  refine F.ok sc_m_Calendar_add (fun vs H Q E h => h.1) (fun cdv A outer s H vs Q E hr h => body_ok (m := (mSeq m_Calendar_add_s0 (mSeq m_Calendar_add_s2 (mSeq m_Calendar_add_s5 (mSeq m_Calendar_add_s6 (mSeq m_Calendar_add_s7 (mSeq m_Calendar_add_s8 (mSeq m_Calendar_add_s9 m_Calendar_add_s10)))))))) (by decide) ?_ h)
  exact (sss_cons (ss_if (st_w (sw_or (st_not (st_val (se_callN h_is_whole hr (by decide) rfl takes_cx (sa_cons (sv 1) (sa_cons se_int (sa_cons (sv 1) sa_nil))) (lenCons (lenCons (lenCons lenNil)))))) (sw_or1 (st_not (st_val (se_callN h_is_whole hr (by decide) rfl takes_cx (sa_cons (sv 2) (sa_cons se_int (sa_cons (se_op opM_sub pu_sub (se_fld g.c_Calendar g.n_Calendar_hours (sv 0)) se_int) sa_nil))) (lenCons (lenCons (lenCons lenNil))))))))) (sss_one (ss_raise0 rfl takes_cx g.x0_BadSeries rfl g.gc_BadSeries)) sss_nil) (sss_cons (ss_for pass_cx rfl (si_rng rfl g.b_range (sa_cons (se_fld g.c_Calendar g.n_Calendar_days (sv 0)) sa_nil)) (sn 3 sc_m_Calendar_add.nd) (sss_one (ss_if (st_w (sw_or (st_truth (se_bx PySem.F.plainAttrs_dict PySem.F.slot_dict_get PySem.F.type_dict_get (mt_dget (Room.u65 hr)) pu_dget kd_dcT (se_fld g.c_Calendar g.n_Calendar_rooms (sv 0)) (sa_cons (se_tup (sa_cons (sv 3) (sa_cons (sv 2) sa_nil)) (lenCons (lenCons lenNil)) (by decide)) (sa_cons (se_dnew (fr := false)) sa_nil)) ⟨rfl, rfl, rfl⟩)) (sw_or1 (st_truth (se_bx PySem.F.plainAttrs_dict PySem.F.slot_dict_get PySem.F.type_dict_get (mt_dget (Room.u65 hr)) pu_dget kd_dcT (se_fld g.c_Calendar g.n_Calendar_persons (sv 0)) (sa_cons (se_tup (sa_cons (sv 1) (sa_cons (sv 3) (sa_cons (sv 2) sa_nil))) (lenCons (lenCons (lenCons lenNil))) (by decide)) (sa_cons (se_dnew (fr := false)) sa_nil)) ⟨rfl, rfl, rfl⟩))))) (sss_one (ss_raiseN x_Refused rfl takes_cx hr (by decide) rfl (se_tup (sa_cons se_str (sa_cons (sv 1) (sa_cons (sv 2) sa_nil))) (lenCons (lenCons (lenCons lenNil))) (by decide)))) sss_nil))) (sss_cons (ss_expr (se_app (se_fld g.c_Calendar g.n_Calendar_rows (sv 0)) (se_callN h_fresh hr (by decide) rfl takes_cx (sa_cons (sv 1) (sa_cons (sv 2) (sa_cons (se_fld g.c_Calendar g.n_Calendar_days (sv 0)) sa_nil))) (lenCons (lenCons (lenCons lenNil)))))) (sss_cons (ss_expr (se_app (se_fld g.c_Calendar g.n_Calendar_before (sv 0)) se_non)) (sss_cons (ss_expr (se_app (se_fld g.c_Calendar g.n_Calendar_seen (sv 0)) se_non)) (sss_cons (ss_expr (se_methN h_Calendar_mark g.c_Calendar g.m_Calendar_mark hr (by decide) takes_cx (sv 0) (sa_cons (se_op opM_sub pu_sub (se_callB crM_len pu_len rfl g.b_len bt_len (sa_cons (se_fld g.c_Calendar g.n_Calendar_rows (sv 0)) sa_nil)) se_int) (sa_cons se_int sa_nil)) (lenCons (lenCons lenNil)))) (sss_cons (ss_expr (se_app (se_fld g.c_Calendar g.n_Calendar_done (sv 0)) (se_tup (sa_cons (se_tup (sa_cons se_str (sa_cons (sv 1) (sa_cons (sv 2) sa_nil))) (lenCons (lenCons (lenCons lenNil))) (by decide)) (sa_cons se_non (sa_cons se_non sa_nil))) (lenCons (lenCons (lenCons lenNil))) (by decide)))) (sss_one (ss_ret (se_op opM_sub pu_sub (se_callB crM_len pu_len rfl g.b_len bt_len (sa_cons (se_fld g.c_Calendar g.n_Calendar_rows (sv 0)) sa_nil)) se_int))))))))))
def m_Calendar_undo_s1 : MS := (mRaise0 "NothingDone")
def m_Calendar_undo_s0 : MS := (mIfS (mNot (mTruth (mFld "Calendar" "done" (mVar 0)))) m_Calendar_undo_s1 mNext)
def m_Calendar_undo_s2 : MS := (mAsg (mBM kLst lpopM (mFld "Calendar" "done" (mVar 0)) mNil) (tgTup (tgCons (tgName 1) (tgCons (tgName 2) (tgCons (tgName 3) tgNil)))))
def m_Calendar_undo_s4 : MS := (mDrop (mMeth "Calendar" "mark" m_Calendar_mark (mVar 0) (mCons (mOp subM (mCallF lenM (mCons (mFld "Calendar" "rows" (mVar 0)) mNil)) (mC (.int 1))) (mCons (mC (.int (-1))) mNil))))
def m_Calendar_undo_s5 : MS := (mDrop (mBM kLst lpopM (mFld "Calendar" "rows" (mVar 0)) mNil))
def m_Calendar_undo_s6 : MS := (mDrop (mBM kLst lpopM (mFld "Calendar" "before" (mVar 0)) mNil))
def m_Calendar_undo_s7 : MS := (mDrop (mBM kLst lpopM (mFld "Calendar" "seen" (mVar 0)) mNil))
def m_Calendar_undo_s8 : MS := mStk
def m_Calendar_undo_s9 : MS := mStk
def m_Calendar_undo_s3 : MS := (mIfS (mTest (mOp eqM (mOp idxM (mVar 1) (mC (.int 0))) (mC (.str "add")))) (mSeq m_Calendar_undo_s4 (mSeq m_Calendar_undo_s5 (mSeq m_Calendar_undo_s6 m_Calendar_undo_s7))) (mSeq m_Calendar_undo_s8 m_Calendar_undo_s9))
def m_Calendar_undo : MF := mFn 4 ((mSeq m_Calendar_undo_s0 (mSeq m_Calendar_undo_s2 m_Calendar_undo_s3)))
theorem sc_m_Calendar_undo : FnScope ["self", "deed", "row", "before"] ["self"] (defScope s_Calendar_undo) := ⟨rfl, rfl, rfl, by decide +kernel, rfl, by decide +kernel, by decide +kernel⟩
theorem ok_Calendar_undo {P : Program} {w : PySem.World} {K : PySem.W.Frag} {mg : Str → Option Value} {base : Heap} {fd : FuncData} (g : Gs K mg) (h_Calendar_mark : MN P w K mg base 2 3 "Calendar" "mark" m_Calendar_mark) (F : FunD K "undo" "Calendar.undo" (defArgs s_Calendar_undo) (defBody s_Calendar_undo) (defScope s_Calendar_undo) [] [] (He.ma K (He.ga K "Calendar") "undo") fd) : MN P w K mg base 3 1 "Calendar" "undo" m_Calendar_undo := by
  refine ⟨fd, ["self"], ?_, F.bindsN fun _ _ _ _ _ _ us hl => match us, hl with | [_], _ => rfl⟩
  refine F.ok sc_m_Calendar_undo (fun vs H Q E h => h.1) (fun cdv A outer s H vs Q E hr h => body_ok (m := (mSeq m_Calendar_undo_s0 (mSeq m_Calendar_undo_s2 m_Calendar_undo_s3))) (by decide) ?_ h)
  exact (sss_cons (ss_if (st_not (st_truth (se_fld g.c_Calendar g.n_Calendar_done (sv 0)))) (sss_one (ss_raise0 rfl takes_cx g.x0_NothingDone rfl g.gc_NothingDone)) sss_nil) (sss_cons (ss_asg (se_bx0 PySem.F.plainAttrs_list PySem.F.slot_list_pop PySem.F.type_list_pop mt_lpop pu_lpop kd_lst (se_fld g.c_Calendar g.n_Calendar_done (sv 0)) ⟨rfl, rfl, rfl⟩) (sg_tup rfl (sgs_cons (sn 1 sc_m_Calendar_undo.nd) (sgs_cons (sn 2 sc_m_Calendar_undo.nd) (sgs_cons (sn 3 sc_m_Calendar_undo.nd) sgs_nil))))) (sss_one (ss_if (st_cmp (opM_eq (Room.u64 hr)) pu_eq (nomark _) (se_ix (Room.u1 hr) (fun _ _ => rfl) (sv 1) se_int pu_ix) se_str) (sss_cons (ss_expr (se_methN h_Calendar_mark g.c_Calendar g.m_Calendar_mark hr (by decide) takes_cx (sv 0) (sa_cons (se_op opM_sub pu_sub (se_callB crM_len pu_len rfl g.b_len bt_len (sa_cons (se_fld g.c_Calendar g.n_Calendar_rows (sv 0)) sa_nil)) se_int) (sa_cons (se_neg) sa_nil)) (lenCons (lenCons lenNil)))) (sss_cons (ss_expr (se_bx0 PySem.F.plainAttrs_list PySem.F.slot_list_pop PySem.F.type_list_pop mt_lpop pu_lpop kd_lst (se_fld g.c_Calendar g.n_Calendar_rows (sv 0)) ⟨rfl, rfl, rfl⟩)) (sss_cons (ss_expr (se_bx0 PySem.F.plainAttrs_list PySem.F.slot_list_pop PySem.F.type_list_pop mt_lpop pu_lpop kd_lst (se_fld g.c_Calendar g.n_Calendar_before (sv 0)) ⟨rfl, rfl, rfl⟩)) (sss_one (ss_expr (se_bx0 PySem.F.plainAttrs_list PySem.F.slot_list_pop PySem.F.type_list_pop mt_lpop pu_lpop kd_lst (se_fld g.c_Calendar g.n_Calendar_seen (sv 0)) ⟨rfl, rfl, rfl⟩)))))) (sss_cons ss_stk (sss_one ss_stk))))))
def m_number_of_s1 : MS := (mRet (mC .non))
def m_number_of_s0 : MS := (mIfS (mOr (mNot (mTest (mChain leM leM (mC (.int 1)) (mCallF lenM (mCons (mVar 0) mNil)) (mC (.int 9))))) (mOr (mNot (mTest (mCallF allM (mCons (mLc true [1] (mSigns (mVar 0)) (tgName 1) mTrue (mOp inSM (mVar 1) (mC d_FIGURES))) mNil)))) (mTest (mOp neM (mCallF strM (mCons (mCallF intTM (mCons (mVar 0) mNil)) mNil)) (mVar 0))))) m_number_of_s1 mNext)
def m_number_of_s2 : MS := (mRet (mCallF intTM (mCons (mVar 0) mNil)))
def m_number_of : MF := mFn 2 ((mSeq m_number_of_s0 m_number_of_s2))
theorem sc_m_number_of : FnScope ["word", "sign"] ["word"] (defScope s_number_of) := ⟨rfl, rfl, rfl, by decide +kernel, rfl, by decide +kernel, by decide +kernel⟩
theorem ok_number_of {P : Program} {w : PySem.World} {K : PySem.W.Frag} {mg : Str → Option Value} {base : Heap} {f : Addr} {fd : FuncData} (g : Gs K mg) (F : FunD K "number_of" "number_of" (defArgs s_number_of) (defBody s_number_of) (defScope s_number_of) [] [] f fd) (hg : mg "number_of" = some (.ref f)) : FN P w K mg base 1 1 "number_of" m_number_of := by
  refine ⟨f, fd, ["word"], ?_, hg, F.kp, F.bindsN fun _ _ _ _ _ _ us hl => match us, hl with | [_], _ => rfl⟩
  refine F.ok sc_m_number_of (fun vs H Q E h => h.1) (fun cdv A outer s H vs Q E hr h => body_ok (m := (mSeq m_number_of_s0 m_number_of_s2)) (by decide) ?_ h)
  exact (sss_cons (ss_if (st_w (sw_or (st_not (st_chain (opM_int op_le) pu_cmpI (opM_int op_le) pu_cmpI se_int (se_callB crM_len pu_len rfl g.b_len bt_len (sa_cons (sv 0) sa_nil)) se_int)) (sw_or (st_not (st_val (se_callB (crM_all rfl) pu_all rfl g.b_all bt_all (sa_cons (se_lc (fr := true) (own := [("sign", 1)]) rfl sc_m_number_of.nd (si_sgn (sv 0)) (blkOk_by rfl) (fun _ _ _ _ _ => (sn 1 sc_m_number_of.nd)) (fun _ _ _ _ _ => sts_nil) (fun _ _ _ _ _ => (se_cmp opM_inS pu_inS (by with_unfolding_all rfl) (sv 1) (se_globN g.k_FIGURES rfl))) (by decide)) sa_nil)))) (sw_or1 (st_cmp (opM_ne (Room.u64 hr)) pu_ne (nomark _) (se_callTy crM_str pu_str rfl g.b_str bt_str (sa_cons (se_callTy crM_intT pu_intT rfl g.b_int bt_int (sa_cons (sv 0) sa_nil)) sa_nil)) (sv 0)))))) (sss_one (ss_ret se_non)) sss_nil) (sss_one (ss_ret (se_callTy crM_intT pu_intT rfl g.b_int bt_int (sa_cons (sv 0) sa_nil)))))
def m_calendar_in_s0 : MS := (mAsg (mBM kStr splitM (mVar 0) (mCons (mC (.str " ")) mNil)) (tgName 1))
def m_calendar_in_s2 : MS := (mRet (mC .non))
def m_calendar_in_s1 : MS := (mIfS (mOr (mTest (mOp neM (mCallF lenM (mCons (mVar 1) mNil)) (mOp addM (mCallF lenM (mCons (mC d_VALUES) mNil)) (mC (.int 3))))) (mOr (mTest (mOp neM (mOp idxM (mVar 1) (mC (.int 0))) (mC (.str "rule")))) (mOr (mNot (mTruth (mCallF m_number_of (mCons (mOp idxM (mVar 1) (mC (.int (-2)))) mNil)))) (mNot (mTruth (mCallF m_number_of (mCons (mOp idxM (mVar 1) (mC (.int (-1)))) mNil))))))) m_calendar_in_s2 mNext)
def m_calendar_in_s3 : MS := mStk
def m_calendar_in_s4 : MS := mStk
def m_calendar_in_s5 : MS := mStk
def m_calendar_in : MF := mFn 3 ((mSeq m_calendar_in_s0 (mSeq m_calendar_in_s1 (mSeq m_calendar_in_s3 (mSeq m_calendar_in_s4 m_calendar_in_s5)))))
theorem sc_m_calendar_in : FnScope ["line", "words", "made"] ["line"] (defScope s_calendar_in) := ⟨rfl, rfl, rfl, by decide +kernel, rfl, by decide +kernel, by decide +kernel⟩
theorem ok_calendar_in {P : Program} {w : PySem.World} {K : PySem.W.Frag} {mg : Str → Option Value} {base : Heap} {f : Addr} {fd : FuncData} (g : Gs K mg) (h_number_of : FN P w K mg base 1 1 "number_of" m_number_of) (F : FunD K "calendar_in" "calendar_in" (defArgs s_calendar_in) (defBody s_calendar_in) (defScope s_calendar_in) [] [] f fd) (hg : mg "calendar_in" = some (.ref f)) : FN P w K mg base 2 1 "calendar_in" m_calendar_in := by
  refine ⟨f, fd, ["line"], ?_, hg, F.kp, F.bindsN fun _ _ _ _ _ _ us hl => match us, hl with | [_], _ => rfl⟩
  refine F.ok sc_m_calendar_in (fun vs H Q E h => h.1) (fun cdv A outer s H vs Q E hr h => body_ok (m := (mSeq m_calendar_in_s0 (mSeq m_calendar_in_s1 (mSeq m_calendar_in_s3 (mSeq m_calendar_in_s4 m_calendar_in_s5))))) (by decide) ?_ h)
  exact (sss_cons (sset 1 sc_m_calendar_in.nd (se_bx PySem.F.plainAttrs_str PySem.F.slot_str_split PySem.F.type_str_split mt_splitM pu_split kd_str (sv 0) (sa_cons se_str sa_nil) ⟨rfl, rfl, rfl⟩)) (sss_cons (ss_if (st_w (sw_or (st_cmp (opM_ne (Room.u64 hr)) pu_ne (nomark _) (se_callB crM_len pu_len rfl g.b_len bt_len (sa_cons (sv 1) sa_nil)) (se_op opM_add pu_add (se_callB crM_len pu_len rfl g.b_len bt_len (sa_cons (se_globN g.k_VALUES rfl) sa_nil)) se_int)) (sw_or (st_cmp (opM_ne (Room.u64 hr)) pu_ne (nomark _) (se_ix (Room.u1 hr) (fun _ _ => rfl) (sv 1) se_int pu_ix) se_str) (sw_or (st_not (st_truth (se_callN h_number_of hr (by decide) rfl takes_cx (sa_cons (se_ix (Room.u1 hr) (fun _ _ => rfl) (sv 1) (se_neg) pu_ix) sa_nil) (lenCons lenNil)))) (sw_or1 (st_not (st_truth (se_callN h_number_of hr (by decide) rfl takes_cx (sa_cons (se_ix (Room.u1 hr) (fun _ _ => rfl) (sv 1) (se_neg) pu_ix) sa_nil) (lenCons lenNil))))))))) (sss_one (ss_ret se_non)) sss_nil) (sss_cons ss_stk (sss_cons ss_stk (sss_one ss_stk)))))
def m_read_s0 : MS := (mAsg (mBM kStr splitM (mVar 0) (mCons (mC (.str "\n")) mNil)) (tgName 1))
def m_read_s1 : MS := (mAsg (mCallF m_calendar_in (mCons (mOp idxM (mVar 1) (mC (.int 0))) mNil)) (tgName 2))
def m_read_s3 : MS := (mRaise "BadLine" "line" (mC (.int 1)))
def m_read_s2 : MS := (mIfS (mTest (mOp isM (mVar 2) (mC .non))) m_read_s3 mNext)
def m_read_s4 : MS := mStk
def m_read_s5 : MS := mStk
def m_read : MF := mFn 5 ((mSeq m_read_s0 (mSeq m_read_s1 (mSeq m_read_s2 (mSeq m_read_s4 m_read_s5)))))
theorem sc_m_read : FnScope ["text", "lines", "calendar", "at", "line"] ["text"] (defScope s_read) := ⟨rfl, rfl, rfl, by decide +kernel, rfl, by decide +kernel, by decide +kernel⟩
theorem ok_read {P : Program} {w : PySem.World} {K : PySem.W.Frag} {mg : Str → Option Value} {base : Heap} {f : Addr} {fd : FuncData} (g : Gs K mg) (h_calendar_in : FN P w K mg base 2 1 "calendar_in" m_calendar_in) (x_BadLine : XN P w K mg base 1 "BadLine" "line") (F : FunD K "read" "read" (defArgs s_read) (defBody s_read) (defScope s_read) [] [] f fd) (hg : mg "read" = some (.ref f)) : FN P w K mg base 3 1 "read" m_read := by
  refine ⟨f, fd, ["text"], ?_, hg, F.kp, F.bindsN fun _ _ _ _ _ _ us hl => match us, hl with | [_], _ => rfl⟩
  refine F.ok sc_m_read (fun vs H Q E h => h.1) (fun cdv A outer s H vs Q E hr h => body_ok (m := (mSeq m_read_s0 (mSeq m_read_s1 (mSeq m_read_s2 (mSeq m_read_s4 m_read_s5))))) (by decide) ?_ h)
  exact (sss_cons (sset 1 sc_m_read.nd (se_bx PySem.F.plainAttrs_str PySem.F.slot_str_split PySem.F.type_str_split mt_splitM pu_split kd_str (sv 0) (sa_cons se_str sa_nil) ⟨rfl, rfl, rfl⟩)) (sss_cons (sset 2 sc_m_read.nd (se_callN h_calendar_in hr (by decide) rfl takes_cx (sa_cons (se_ix (Room.u1 hr) (fun _ _ => rfl) (sv 1) se_int pu_ix) sa_nil) (lenCons lenNil))) (sss_cons (ss_if (st_cmp opM_is pu_is (nomark _) (sv 2) se_non) (sss_one (ss_raiseN x_BadLine rfl takes_cx hr (by decide) rfl se_int)) sss_nil) (sss_cons ss_stk (sss_one ss_stk)))))
def m_begin_s0 : MS := (mAsg (mVar 0) (tgTup (tgCons (tgName 2) (tgCons (tgName 3) (tgCons (tgName 4) (tgCons (tgName 5) tgNil))))))
def m_begin_s1 : MS := (mAsg (mCallF tupM (mCons (mLc true [6, 7] (mSrc (mVar 4)) (tgTup (tgCons (tgName 6) (tgCons (tgName 7) tgNil))) mTrue (mCallF m_fresh (mCons (mVar 6) (mCons (mVar 7) (mCons (mVar 2) mNil))))) mNil)) (tgName 1))
def m_begin_s2 : MS := (mRet (mTup (mCons (mOp mulM (mTup (mCons (mC (.int 0)) mNil)) (mCallF lenM (mCons (mVar 5) mNil))) (mCons (mOp mulM (mTup (mCons (mC d_BLANK) mNil)) (mCallF lenM (mCons (mVar 5) mNil))) (mCons (mVar 1) mNil)))))
def m_begin : MF := mFn 8 ((mSeq m_begin_s0 (mSeq m_begin_s1 m_begin_s2)))
theorem sc_m_begin : FnScope ["world", "standing", "days", "hours", "series", "hands", "person", "hour"] ["world"] (defScope s_begin) := ⟨rfl, rfl, rfl, by decide +kernel, rfl, by decide +kernel, by decide +kernel⟩
theorem ok_begin {P : Program} {w : PySem.World} {K : PySem.W.Frag} {mg : Str → Option Value} {base : Heap} {f : Addr} {fd : FuncData} (g : Gs K mg) (h_fresh : FN P w K mg base 1 3 "fresh" m_fresh) (F : FunD K "begin" "begin" (defArgs s_begin) (defBody s_begin) (defScope s_begin) [] [] f fd) (hg : mg "begin" = some (.ref f)) : FN P w K mg base 2 1 "begin" m_begin := by
  refine ⟨f, fd, ["world"], ?_, hg, F.kp, F.bindsN fun _ _ _ _ _ _ us hl => match us, hl with | [_], _ => rfl⟩
  refine F.ok sc_m_begin (fun vs H Q E h => h.1) (fun cdv A outer s H vs Q E hr h => body_ok (m := (mSeq m_begin_s0 (mSeq m_begin_s1 m_begin_s2))) (by decide) ?_ h)
  exact (sss_cons (ss_asg (sv 0) (sg_tup rfl (sgs_cons (sn 2 sc_m_begin.nd) (sgs_cons (sn 3 sc_m_begin.nd) (sgs_cons (sn 4 sc_m_begin.nd) (sgs_cons (sn 5 sc_m_begin.nd) sgs_nil)))))) (sss_cons (sset 1 sc_m_begin.nd (se_callTy crM_tuple pu_tuple rfl g.b_tuple bt_tuple (sa_cons (se_lc (fr := true) (own := [("person", 6), ("hour", 7)]) rfl sc_m_begin.nd (si_seq (sv 4)) (blkOk_by rfl) (fun _ _ _ _ _ => (sg_tup rfl (sgs_cons (sn 6 sc_m_begin.nd) (sgs_cons (sn 7 sc_m_begin.nd) sgs_nil)))) (fun _ _ _ _ _ => sts_nil) (fun _ _ _ _ _ => (se_callN h_fresh hr (by decide) rfl takesNo (sa_cons (sv 6) (sa_cons (sv 7) (sa_cons (sv 2) sa_nil))) (lenCons (lenCons (lenCons lenNil))))) (by decide)) sa_nil))) (sss_one (ss_ret (se_tup (sa_cons (se_op opM_mul pu_mul (se_tup (sa_cons se_int sa_nil) (lenCons lenNil) (by decide)) (se_callB crM_len pu_len rfl g.b_len bt_len (sa_cons (sv 5) sa_nil))) (sa_cons (se_op opM_mul pu_mul (se_tup (sa_cons (se_globN g.k_BLANK rfl) sa_nil) (lenCons lenNil) (by decide)) (se_callB crM_len pu_len rfl g.b_len bt_len (sa_cons (sv 5) sa_nil))) (sa_cons (sv 1) sa_nil))) (lenCons (lenCons (lenCons lenNil))) (by decide))))))
def m_has_step_s1 : MS := (mRet (mC (.bl false)))
def m_has_step_s0 : MS := (mIfS (mNot (mTest (mCallF m_is_whole (mCons (mVar 2) (mCons (mC (.int 0)) (mCons (mOp subM (mCallF lenM (mCons (mOp idxM (mVar 0) (mC (.int 3))) mNil)) (mC (.int 1))) mNil)))))) m_has_step_s1 mNext)
def m_has_step_s2 : MS := (mRet (mOp ltM (mOp idxM (mOp idxM (mVar 1) (mC (.int 0))) (mVar 2)) (mCallF lenM (mCons (mOp idxM (mOp idxM (mOp idxM (mVar 0) (mC (.int 3))) (mVar 2)) (mC (.int 1))) mNil))))
def m_has_step : MF := mFn 3 ((mSeq m_has_step_s0 m_has_step_s2))
theorem sc_m_has_step : FnScope ["world", "state", "hand"] ["world", "state", "hand"] (defScope s_has_step) := ⟨rfl, rfl, rfl, by decide +kernel, rfl, by decide +kernel, by decide +kernel⟩
theorem ok_has_step {P : Program} {w : PySem.World} {K : PySem.W.Frag} {mg : Str → Option Value} {base : Heap} {f : Addr} {fd : FuncData} (g : Gs K mg) (h_is_whole : FN P w K mg base 1 3 "is_whole" m_is_whole) (F : FunD K "has_step" "has_step" (defArgs s_has_step) (defBody s_has_step) (defScope s_has_step) [] [] f fd) (hg : mg "has_step" = some (.ref f)) : FN P w K mg base 2 3 "has_step" m_has_step := by
  refine ⟨f, fd, ["world", "state", "hand"], ?_, hg, F.kp, F.bindsN fun _ _ _ _ _ _ us hl => match us, hl with | [_, _, _], _ => rfl⟩
  refine F.ok sc_m_has_step (fun vs H Q E h => h.1) (fun cdv A outer s H vs Q E hr h => body_ok (m := (mSeq m_has_step_s0 m_has_step_s2)) (by decide) ?_ h)
  exact (sss_cons (ss_if (st_not (st_val (se_callN h_is_whole hr (by decide) rfl takes_cx (sa_cons (sv 2) (sa_cons se_int (sa_cons (se_op opM_sub pu_sub (se_callB crM_len pu_len rfl g.b_len bt_len (sa_cons (se_ix (Room.u1 hr) (fun _ _ => rfl) (sv 0) se_int pu_ix) sa_nil)) se_int) sa_nil))) (lenCons (lenCons (lenCons lenNil)))))) (sss_one (ss_ret se_bl)) sss_nil) (sss_one (ss_ret (se_cmp (opM_int op_lt) pu_cmpI (nomark _) (se_ix (Room.u1 hr) (fun _ _ => rfl) (se_ix (Room.u1 hr) (fun _ _ => rfl) (sv 1) se_int pu_ix) (sv 2) pu_ix) (se_callB crM_len pu_len rfl g.b_len bt_len (sa_cons (se_ix (Room.u1 hr) (fun _ _ => rfl) (se_ix (Room.u1 hr) (fun _ _ => rfl) (se_ix (Room.u1 hr) (fun _ _ => rfl) (sv 0) se_int pu_ix) (sv 2) pu_ix) se_int pu_ix) sa_nil))))))
def m_person_hours_s0 : MS := (mRet (mCallF tupM (mCons (mLc true [2, 3, 4] (mSrc (mOp idxM (mOp idxM (mVar 0) (mVar 1)) (mC (.int 2)))) (tgTup (tgCons (tgName 2) (tgCons (tgName 3) (tgCons (tgName 4) tgNil)))) mTrue (mVar 3)) mNil)))
def m_person_hours : MF := mFn 5 (m_person_hours_s0)
theorem sc_m_person_hours : FnScope ["standing", "series", "room", "there", "single"] ["standing", "series"] (defScope s_person_hours) := ⟨rfl, rfl, rfl, by decide +kernel, rfl, by decide +kernel, by decide +kernel⟩
theorem ok_person_hours {P : Program} {w : PySem.World} {K : PySem.W.Frag} {mg : Str → Option Value} {base : Heap} {f : Addr} {fd : FuncData} (g : Gs K mg) (F : FunD K "person_hours" "person_hours" (defArgs s_person_hours) (defBody s_person_hours) (defScope s_person_hours) [] [] f fd) (hg : mg "person_hours" = some (.ref f)) : FN P w K mg base 1 2 "person_hours" m_person_hours := by
  refine ⟨f, fd, ["standing", "series"], ?_, hg, F.kp, F.bindsN fun _ _ _ _ _ _ us hl => match us, hl with | [_, _], _ => rfl⟩
  refine F.ok sc_m_person_hours (fun vs H Q E h => h.1) (fun cdv A outer s H vs Q E hr h => body_ok (m := m_person_hours_s0) (by decide) ?_ h)
  exact (sss_one (ss_ret (se_callTy crM_tuple pu_tuple rfl g.b_tuple bt_tuple (sa_cons (se_lc (fr := true) (own := [("room", 2), ("there", 3), ("single", 4)]) rfl sc_m_person_hours.nd (si_seq (se_ix (Room.u1 hr) (fun _ _ => rfl) (se_ix (Room.u1 hr) (fun _ _ => rfl) (sv 0) (sv 1) pu_ix) se_int pu_ix)) (blkOk_by rfl) (fun _ _ _ _ _ => (sg_tup rfl (sgs_cons (sn 2 sc_m_person_hours.nd) (sgs_cons (sn 3 sc_m_person_hours.nd) (sgs_cons (sn 4 sc_m_person_hours.nd) sgs_nil))))) (fun _ _ _ _ _ => sts_nil) (fun _ _ _ _ _ => (sv 3)) (by decide)) sa_nil))))
def m_tell_step_s0 : MS := (mAsg (mCallF m_person_hours (mCons (mVar 1) (mCons (mVar 2) mNil))) (tgName 4))
def m_tell_step_s2 : MS := (mAsg (mOp idxM (mVar 3) (mC (.int 1))) (tgName 4))
def m_tell_step_s1 : MS := (mIfS (mAnd (mTest (mOp eqM (mFld "Rule" "telling" (mVar 0)) (mC (.str "seen")))) (mTest (mOp isnM (mOp idxM (mVar 3) (mC (.int 1))) (mC .non)))) m_tell_step_s2 mNext)
def m_tell_step_s3 : MS := (mRet (mTup (mCons (mVar 4) (mCons (mTup (mCons (mOp idxM (mVar 3) (mC (.int 0))) (mCons (mVar 4) (mCons (mOp idxM (mVar 3) (mC (.int 2))) mNil)))) (mCons (mVar 1) mNil)))))
def m_tell_step : MF := mFn 5 ((mSeq m_tell_step_s0 (mSeq m_tell_step_s1 m_tell_step_s3)))
theorem sc_m_tell_step : FnScope ["rule", "standing", "series", "memory", "told"] ["rule", "standing", "series", "memory"] (defScope s_tell_step) := ⟨rfl, rfl, rfl, by decide +kernel, rfl, by decide +kernel, by decide +kernel⟩
theorem ok_tell_step {P : Program} {w : PySem.World} {K : PySem.W.Frag} {mg : Str → Option Value} {base : Heap} {f : Addr} {fd : FuncData} (g : Gs K mg) (h_person_hours : FN P w K mg base 1 2 "person_hours" m_person_hours) (F : FunD K "tell_step" "tell_step" (defArgs s_tell_step) (defBody s_tell_step) (defScope s_tell_step) [] [] f fd) (hg : mg "tell_step" = some (.ref f)) : FN P w K mg base 2 4 "tell_step" m_tell_step := by
  refine ⟨f, fd, ["rule", "standing", "series", "memory"], ?_, hg, F.kp, F.bindsN fun _ _ _ _ _ _ us hl => match us, hl with | [_, _, _, _], _ => rfl⟩
  refine F.ok sc_m_tell_step (fun vs H Q E h => h.1) (fun cdv A outer s H vs Q E hr h => body_ok (m := (mSeq m_tell_step_s0 (mSeq m_tell_step_s1 m_tell_step_s3))) (by decide) ?_ h)
  exact (sss_cons (sset 4 sc_m_tell_step.nd (se_callN h_person_hours hr (by decide) rfl takes_cx (sa_cons (sv 1) (sa_cons (sv 2) sa_nil)) (lenCons (lenCons lenNil)))) (sss_cons (ss_if (st_w (sw_and (st_cmp (opM_eq (Room.u64 hr)) pu_eq (nomark _) (se_fld g.c_Rule g.n_Rule_telling (sv 0)) se_str) (sw_and1 (st_cmp opM_isn pu_isn (nomark _) (se_ix (Room.u1 hr) (fun _ _ => rfl) (sv 3) se_int pu_ix) se_non)))) (sss_one (sset 4 sc_m_tell_step.nd (se_ix (Room.u1 hr) (fun _ _ => rfl) (sv 3) se_int pu_ix))) sss_nil) (sss_one (ss_ret (se_tup (sa_cons (sv 4) (sa_cons (se_tup (sa_cons (se_ix (Room.u1 hr) (fun _ _ => rfl) (sv 3) se_int pu_ix) (sa_cons (sv 4) (sa_cons (se_ix (Room.u1 hr) (fun _ _ => rfl) (sv 3) se_int pu_ix) sa_nil))) (lenCons (lenCons (lenCons lenNil))) (by decide)) (sa_cons (sv 1) sa_nil))) (lenCons (lenCons (lenCons lenNil))) (by decide))))))
def m_stepped_s0 : MS := (mAsg (mOp idxM (mVar 5) (mC (.int 0))) (tgName 6))
def m_stepped_s2 : MS := mStk
def m_stepped_s1 : MS := (mIfS (mTest (mOp eqM (mVar 6) (mC (.str "find")))) m_stepped_s2 mNext)
def m_stepped_s4 : MS := (mRet (mCallF m_tell_step (mCons (mVar 0) (mCons (mVar 2) (mCons (mVar 3) (mCons (mVar 4) mNil))))))
def m_stepped_s3 : MS := (mIfS (mTest (mOp eqM (mVar 6) (mC (.str "tell")))) m_stepped_s4 mNext)
def m_stepped_s6 : MS := mStk
def m_stepped_s5 : MS := (mIfS (mTest (mOp eqM (mVar 6) (mC (.str "room")))) m_stepped_s6 mNext)
def m_stepped_s8 : MS := mStk
def m_stepped_s7 : MS := (mIfS (mTest (mOp eqM (mVar 6) (mC (.str "person")))) m_stepped_s8 mNext)
def m_stepped_s9 : MS := mStk
def m_stepped_s10 : MS := mStk
def m_stepped : MF := mFn 8 ((mSeq m_stepped_s0 (mSeq m_stepped_s1 (mSeq m_stepped_s3 (mSeq m_stepped_s5 (mSeq m_stepped_s7 (mSeq m_stepped_s9 m_stepped_s10)))))))
theorem sc_m_stepped : FnScope ["rule", "world", "standing", "series", "memory", "step", "word", "after"] ["rule", "world", "standing", "series", "memory", "step"] (defScope s_stepped) := ⟨rfl, rfl, rfl, by decide +kernel, rfl, by decide +kernel, by decide +kernel⟩
theorem ok_stepped {P : Program} {w : PySem.World} {K : PySem.W.Frag} {mg : Str → Option Value} {base : Heap} {f : Addr} {fd : FuncData} (g : Gs K mg) (h_tell_step : FN P w K mg base 2 4 "tell_step" m_tell_step) (F : FunD K "stepped" "stepped" (defArgs s_stepped) (defBody s_stepped) (defScope s_stepped) [] [] f fd) (hg : mg "stepped" = some (.ref f)) : FN P w K mg base 3 6 "stepped" m_stepped := by
  refine ⟨f, fd, ["rule", "world", "standing", "series", "memory", "step"], ?_, hg, F.kp, F.bindsN fun _ _ _ _ _ _ us hl => match us, hl with | [_, _, _, _, _, _], _ => rfl⟩
  refine F.ok sc_m_stepped (fun vs H Q E h => h.1) (fun cdv A outer s H vs Q E hr h => body_ok (m := (mSeq m_stepped_s0 (mSeq m_stepped_s1 (mSeq m_stepped_s3 (mSeq m_stepped_s5 (mSeq m_stepped_s7 (mSeq m_stepped_s9 m_stepped_s10))))))) (by decide) ?_ h)
  exact (sss_cons (sset 6 sc_m_stepped.nd (se_ix (Room.u1 hr) (fun _ _ => rfl) (sv 5) se_int pu_ix)) (sss_cons (ss_if (st_cmp (opM_eq (Room.u64 hr)) pu_eq (nomark _) (sv 6) se_str) (sss_one ss_stk) sss_nil) (sss_cons (ss_if (st_cmp (opM_eq (Room.u64 hr)) pu_eq (nomark _) (sv 6) se_str) (sss_one (ss_ret (se_callN h_tell_step hr (by decide) rfl takes_cx (sa_cons (sv 0) (sa_cons (sv 2) (sa_cons (sv 3) (sa_cons (sv 4) sa_nil)))) (lenCons (lenCons (lenCons (lenCons lenNil))))))) sss_nil) (sss_cons (ss_if (st_cmp (opM_eq (Room.u64 hr)) pu_eq (nomark _) (sv 6) se_str) (sss_one ss_stk) sss_nil) (sss_cons (ss_if (st_cmp (opM_eq (Room.u64 hr)) pu_eq (nomark _) (sv 6) se_str) (sss_one ss_stk) sss_nil) (sss_cons ss_stk (sss_one ss_stk)))))))
def m_is_room_free_s0 : MS := (mRet (mNotV (mCallF anyM (mCons (mLc true [4, 5] (mEnum (mCons (mVar 0) mNil)) (tgTup (tgCons (tgName 4) (tgCons (tgName 5) tgNil))) mTrue (mAndV (mOp neM (mVar 4) (mVar 1)) (mOp eqM (mOp idxM (mOp idxM (mOp idxM (mVar 5) (mC (.int 2))) (mVar 2)) (mC (.int 0))) (mVar 3)))) mNil))))
def m_is_room_free : MF := mFn 6 (m_is_room_free_s0)
theorem sc_m_is_room_free : FnScope ["standing", "series", "day", "hour", "at", "row"] ["standing", "series", "day", "hour"] (defScope s_is_room_free) := ⟨rfl, rfl, rfl, by decide +kernel, rfl, by decide +kernel, by decide +kernel⟩
theorem ok_is_room_free {P : Program} {w : PySem.World} {K : PySem.W.Frag} {mg : Str → Option Value} {base : Heap} {f : Addr} {fd : FuncData} (g : Gs K mg) (F : FunD K "is_room_free" "is_room_free" (defArgs s_is_room_free) (defBody s_is_room_free) (defScope s_is_room_free) [] [] f fd) (hg : mg "is_room_free" = some (.ref f)) : FN P w K mg base 1 4 "is_room_free" m_is_room_free := by
  refine ⟨f, fd, ["standing", "series", "day", "hour"], ?_, hg, F.kp, F.bindsN fun _ _ _ _ _ _ us hl => match us, hl with | [_, _, _, _], _ => rfl⟩
  refine F.ok sc_m_is_room_free (fun vs H Q E h => h.1) (fun cdv A outer s H vs Q E hr h => body_ok (m := m_is_room_free_s0) (by decide) ?_ h)
  exact (sss_one (ss_ret (se_not (se_callB (crM_any rfl) pu_any rfl g.b_any bt_any (sa_cons (se_lc (fr := true) (own := [("at", 4), ("row", 5)]) rfl sc_m_is_room_free.nd (si_enum rfl g.b_enumerate (sa_cons (sv 0) sa_nil)) (blkOk_by rfl) (fun _ _ _ _ _ => (sg_tup rfl (sgs_cons (sn 4 sc_m_is_room_free.nd) (sgs_cons (sn 5 sc_m_is_room_free.nd) sgs_nil)))) (fun _ _ _ _ _ => sts_nil) (fun _ _ _ _ _ => (se_and (se_cmp (opM_ne (Room.u64 hr)) pu_ne (nomark _) (sv 4) (sv 1)) (se_one (se_cmp (opM_eq (Room.u64 hr)) pu_eq (nomark _) (se_ix (Room.u1 hr) (fun _ _ => rfl) (se_ix (Room.u1 hr) (fun _ _ => rfl) (se_ix (Room.u1 hr) (fun _ _ => rfl) (sv 5) se_int pu_ix) (sv 2) pu_ix) se_int pu_ix) (sv 3))))) (by decide)) sa_nil)))))
def m_meets_room_s0 : MS := (mAsg (mCallF lstE (mCons (mOp idxM (mOp idxM (mVar 0) (mVar 1)) (mC (.int 2))) mNil)) (tgName 2))
def m_meets_room_s1 : MS := (mRet (mCallF anyM (mCons (mLc true [3, 4, 5, 6] (mSrc (mVar 2)) (tgTup (tgCons (tgName 3) (tgCons (tgTup (tgCons (tgName 4) (tgCons (tgName 5) (tgCons (tgName 6) tgNil)))) tgNil))) mTrue (mAndV (mOp isnM (mVar 4) (mC .non)) (mNotV (mCallF m_is_room_free (mCons (mVar 0) (mCons (mVar 1) (mCons (mVar 3) (mCons (mVar 4) mNil)))))))) mNil)))
def m_meets_room : MF := mFn 7 ((mSeq m_meets_room_s0 m_meets_room_s1))
theorem sc_m_meets_room : FnScope ["standing", "series", "days", "day", "room", "there", "one"] ["standing", "series"] (defScope s_meets_room) := ⟨rfl, rfl, rfl, by decide +kernel, rfl, by decide +kernel, by decide +kernel⟩
theorem ok_meets_room {P : Program} {w : PySem.World} {K : PySem.W.Frag} {mg : Str → Option Value} {base : Heap} {f : Addr} {fd : FuncData} (g : Gs K mg) (h_is_room_free : FN P w K mg base 1 4 "is_room_free" m_is_room_free) (F : FunD K "meets_room" "meets_room" (defArgs s_meets_room) (defBody s_meets_room) (defScope s_meets_room) [] [] f fd) (hg : mg "meets_room" = some (.ref f)) : FN P w K mg base 2 2 "meets_room" m_meets_room := by
  refine ⟨f, fd, ["standing", "series"], ?_, hg, F.kp, F.bindsN fun _ _ _ _ _ _ us hl => match us, hl with | [_, _], _ => rfl⟩
  refine F.ok sc_m_meets_room (fun vs H Q E h => h.1) (fun cdv A outer s H vs Q E hr h => body_ok (m := (mSeq m_meets_room_s0 m_meets_room_s1)) (by decide) ?_ h)
  exact (sss_cons (sset 2 sc_m_meets_room.nd (se_listE rfl rfl g.b_list rfl g.b_enumerate (sa_cons (se_ix (Room.u1 hr) (fun _ _ => rfl) (se_ix (Room.u1 hr) (fun _ _ => rfl) (sv 0) (sv 1) pu_ix) se_int pu_ix) sa_nil))) (sss_one (ss_ret (se_callB (crM_any rfl) pu_any rfl g.b_any bt_any (sa_cons (se_lc (fr := true) (own := [("day", 3), ("room", 4), ("there", 5), ("one", 6)]) rfl sc_m_meets_room.nd (si_seq (sv 2)) (blkOk_by rfl) (fun _ _ _ _ _ => (sg_tup rfl (sgs_cons (sn 3 sc_m_meets_room.nd) (sgs_cons (sg_tup rfl (sgs_cons (sn 4 sc_m_meets_room.nd) (sgs_cons (sn 5 sc_m_meets_room.nd) (sgs_cons (sn 6 sc_m_meets_room.nd) sgs_nil)))) sgs_nil)))) (fun _ _ _ _ _ => sts_nil) (fun _ _ _ _ _ => (se_and (se_cmp opM_isn pu_isn (nomark _) (sv 4) se_non) (se_one (se_not (se_callN h_is_room_free hr (by decide) rfl takesNo (sa_cons (sv 0) (sa_cons (sv 1) (sa_cons (sv 3) (sa_cons (sv 4) sa_nil)))) (lenCons (lenCons (lenCons (lenCons lenNil))))))))) (by decide)) sa_nil)))))
def m_is_person_free_s0 : MS := (mAsg (mOp idxM (mOp idxM (mVar 0) (mVar 1)) (mC (.int 0))) (tgName 4))
def m_is_person_free_s3 : MS := (mRet (mC (.bl false)))
def m_is_person_free_s2 : MS := (mIfS (mAnd (mTest (mOp neM (mVar 5) (mVar 1))) (mAnd (mTest (mOp eqM (mOp idxM (mVar 6) (mC (.int 0))) (mVar 4))) (mTest (mOp eqM (mOp idxM (mOp idxM (mOp idxM (mVar 6) (mC (.int 2))) (mVar 2)) (mC (.int 1))) (mVar 3))))) m_is_person_free_s3 mNext)
def m_is_person_free_s1 : MS := (mFor (mEnum (mCons (mVar 0) mNil)) (tgTup (tgCons (tgName 5) (tgCons (tgName 6) tgNil))) m_is_person_free_s2)
def m_is_person_free_s4 : MS := (mRet (mC (.bl true)))
def m_is_person_free : MF := mFn 7 ((mSeq m_is_person_free_s0 (mSeq m_is_person_free_s1 m_is_person_free_s4)))
theorem sc_m_is_person_free : FnScope ["standing", "series", "day", "hour", "person", "at", "row"] ["standing", "series", "day", "hour"] (defScope s_is_person_free) := ⟨rfl, rfl, rfl, by decide +kernel, rfl, by decide +kernel, by decide +kernel⟩
theorem ok_is_person_free {P : Program} {w : PySem.World} {K : PySem.W.Frag} {mg : Str → Option Value} {base : Heap} {f : Addr} {fd : FuncData} (g : Gs K mg) (F : FunD K "is_person_free" "is_person_free" (defArgs s_is_person_free) (defBody s_is_person_free) (defScope s_is_person_free) [] [] f fd) (hg : mg "is_person_free" = some (.ref f)) : FN P w K mg base 1 4 "is_person_free" m_is_person_free := by
  refine ⟨f, fd, ["standing", "series", "day", "hour"], ?_, hg, F.kp, F.bindsN fun _ _ _ _ _ _ us hl => match us, hl with | [_, _, _, _], _ => rfl⟩
  refine F.ok sc_m_is_person_free (fun vs H Q E h => h.1) (fun cdv A outer s H vs Q E hr h => body_ok (m := (mSeq m_is_person_free_s0 (mSeq m_is_person_free_s1 m_is_person_free_s4))) (by decide) ?_ h)
  exact (sss_cons (sset 4 sc_m_is_person_free.nd (se_ix (Room.u1 hr) (fun _ _ => rfl) (se_ix (Room.u1 hr) (fun _ _ => rfl) (sv 0) (sv 1) pu_ix) se_int pu_ix)) (sss_cons (ss_for pass_cx rfl (si_enum rfl g.b_enumerate (sa_cons (sv 0) sa_nil)) (sg_tup rfl (sgs_cons (sn 5 sc_m_is_person_free.nd) (sgs_cons (sn 6 sc_m_is_person_free.nd) sgs_nil))) (sss_one (ss_if (st_w (sw_and (st_cmp (opM_ne (Room.u64 hr)) pu_ne (nomark _) (sv 5) (sv 1)) (sw_and (st_cmp (opM_eq (Room.u64 hr)) pu_eq (nomark _) (se_ix (Room.u1 hr) (fun _ _ => rfl) (sv 6) se_int pu_ix) (sv 4)) (sw_and1 (st_cmp (opM_eq (Room.u64 hr)) pu_eq (nomark _) (se_ix (Room.u1 hr) (fun _ _ => rfl) (se_ix (Room.u1 hr) (fun _ _ => rfl) (se_ix (Room.u1 hr) (fun _ _ => rfl) (sv 6) se_int pu_ix) (sv 2) pu_ix) se_int pu_ix) (sv 3)))))) (sss_one (ss_ret se_bl)) sss_nil))) (sss_one (ss_ret se_bl))))
def m_meets_person_s2 : MS := (mRet (mC (.bl true)))
def m_meets_person_s1 : MS := (mIfS (mAnd (mTest (mOp isnM (mVar 4) (mC .non))) (mNot (mTest (mCallF m_is_person_free (mCons (mVar 0) (mCons (mVar 1) (mCons (mVar 2) (mCons (mVar 4) mNil)))))))) m_meets_person_s2 mNext)
def m_meets_person_s0 : MS := (mFor (mEnum (mCons (mOp idxM (mOp idxM (mVar 0) (mVar 1)) (mC (.int 2))) mNil)) (tgTup (tgCons (tgName 2) (tgCons (tgTup (tgCons (tgName 3) (tgCons (tgName 4) (tgCons (tgName 5) tgNil)))) tgNil))) m_meets_person_s1)
def m_meets_person_s3 : MS := (mRet (mC (.bl false)))
def m_meets_person : MF := mFn 6 ((mSeq m_meets_person_s0 m_meets_person_s3))
theorem sc_m_meets_person : FnScope ["standing", "series", "day", "room", "there", "single"] ["standing", "series"] (defScope s_meets_person) := ⟨rfl, rfl, rfl, by decide +kernel, rfl, by decide +kernel, by decide +kernel⟩
theorem ok_meets_person {P : Program} {w : PySem.World} {K : PySem.W.Frag} {mg : Str → Option Value} {base : Heap} {f : Addr} {fd : FuncData} (g : Gs K mg) (h_is_person_free : FN P w K mg base 1 4 "is_person_free" m_is_person_free) (F : FunD K "meets_person" "meets_person" (defArgs s_meets_person) (defBody s_meets_person) (defScope s_meets_person) [] [] f fd) (hg : mg "meets_person" = some (.ref f)) : FN P w K mg base 2 2 "meets_person" m_meets_person := by
  refine ⟨f, fd, ["standing", "series"], ?_, hg, F.kp, F.bindsN fun _ _ _ _ _ _ us hl => match us, hl with | [_, _], _ => rfl⟩
  refine F.ok sc_m_meets_person (fun vs H Q E h => h.1) (fun cdv A outer s H vs Q E hr h => body_ok (m := (mSeq m_meets_person_s0 m_meets_person_s3)) (by decide) ?_ h)
  exact (sss_cons (ss_for pass_cx rfl (si_enum rfl g.b_enumerate (sa_cons (se_ix (Room.u1 hr) (fun _ _ => rfl) (se_ix (Room.u1 hr) (fun _ _ => rfl) (sv 0) (sv 1) pu_ix) se_int pu_ix) sa_nil)) (sg_tup rfl (sgs_cons (sn 2 sc_m_meets_person.nd) (sgs_cons (sg_tup rfl (sgs_cons (sn 3 sc_m_meets_person.nd) (sgs_cons (sn 4 sc_m_meets_person.nd) (sgs_cons (sn 5 sc_m_meets_person.nd) sgs_nil)))) sgs_nil))) (sss_one (ss_if (st_w (sw_and (st_cmp opM_isn pu_isn (nomark _) (sv 4) se_non) (sw_and1 (st_not (st_val (se_callN h_is_person_free hr (by decide) rfl takes_cx (sa_cons (sv 0) (sa_cons (sv 1) (sa_cons (sv 2) (sa_cons (sv 4) sa_nil)))) (lenCons (lenCons (lenCons (lenCons lenNil)))))))))) (sss_one (ss_ret se_bl)) sss_nil))) (sss_one (ss_ret se_bl)))
def m_lost_single_s0 : MS := (mRet (mCallF anyM (mCons (mLc true [3, 4] (mZip2 (mCons (mOp idxM (mOp idxM (mVar 0) (mVar 2)) (mC (.int 2))) (mCons (mOp idxM (mOp idxM (mVar 1) (mVar 2)) (mC (.int 2))) mNil))) (tgTup (tgCons (tgName 3) (tgCons (tgName 4) tgNil))) mTrue (mAndV (mOp idxM (mVar 3) (mC (.int 2))) (mNotV (mOp idxM (mVar 4) (mC (.int 2)))))) mNil)))
def m_lost_single : MF := mFn 5 (m_lost_single_s0)
theorem sc_m_lost_single : FnScope ["before", "after", "series", "one", "two"] ["before", "after", "series"] (defScope s_lost_single) := ⟨rfl, rfl, rfl, by decide +kernel, rfl, by decide +kernel, by decide +kernel⟩
theorem ok_lost_single {P : Program} {w : PySem.World} {K : PySem.W.Frag} {mg : Str → Option Value} {base : Heap} {f : Addr} {fd : FuncData} (g : Gs K mg) (F : FunD K "lost_single" "lost_single" (defArgs s_lost_single) (defBody s_lost_single) (defScope s_lost_single) [] [] f fd) (hg : mg "lost_single" = some (.ref f)) : FN P w K mg base 1 3 "lost_single" m_lost_single := by
  refine ⟨f, fd, ["before", "after", "series"], ?_, hg, F.kp, F.bindsN fun _ _ _ _ _ _ us hl => match us, hl with | [_, _, _], _ => rfl⟩
  refine F.ok sc_m_lost_single (fun vs H Q E h => h.1) (fun cdv A outer s H vs Q E hr h => body_ok (m := m_lost_single_s0) (by decide) ?_ h)
  exact (sss_one (ss_ret (se_callB (crM_any rfl) pu_any rfl g.b_any bt_any (sa_cons (se_lc (fr := true) (own := [("one", 3), ("two", 4)]) rfl sc_m_lost_single.nd (si_zip2 rfl g.b_zip (sa_cons (se_ix (Room.u1 hr) (fun _ _ => rfl) (se_ix (Room.u1 hr) (fun _ _ => rfl) (sv 0) (sv 2) pu_ix) se_int pu_ix) (sa_cons (se_ix (Room.u1 hr) (fun _ _ => rfl) (se_ix (Room.u1 hr) (fun _ _ => rfl) (sv 1) (sv 2) pu_ix) se_int pu_ix) sa_nil))) (blkOk_by rfl) (fun _ _ _ _ _ => (sg_tup rfl (sgs_cons (sn 3 sc_m_lost_single.nd) (sgs_cons (sn 4 sc_m_lost_single.nd) sgs_nil)))) (fun _ _ _ _ _ => sts_nil) (fun _ _ _ _ _ => (se_and (se_ix (Room.u1 hr) (fun _ _ => rfl) (sv 3) se_int pu_ix) (se_one (se_not (se_ix (Room.u1 hr) (fun _ _ => rfl) (sv 4) se_int pu_ix))))) (by decide)) sa_nil))))
def m_step_faults_s0 : MS := (mAsg (mCell mNil) (tgName 5))
def m_step_faults_s2 : MS := (mDrop (mApp (mVar 5) (mC (.str "room"))))
def m_step_faults_s1 : MS := (mIfS (mAnd (mTest (mOp eqM (mVar 4) (mC (.str "done")))) (mAnd (mTest (mOp inM (mOp idxM (mVar 3) (mC (.int 0))) (mTup (mCons (mC (.str "room")) (mCons (mC (.str "one")) mNil))))) (mTest (mCallF m_meets_room (mCons (mVar 1) (mCons (mVar 2) mNil)))))) m_step_faults_s2 mNext)
def m_step_faults_s4 : MS := (mDrop (mApp (mVar 5) (mC (.str "person"))))
def m_step_faults_s3 : MS := (mIfS (mAnd (mTest (mOp eqM (mVar 4) (mC (.str "done")))) (mAnd (mTest (mOp inM (mOp idxM (mVar 3) (mC (.int 0))) (mTup (mCons (mC (.str "person")) (mCons (mC (.str "one")) mNil))))) (mTest (mCallF m_meets_person (mCons (mVar 1) (mCons (mVar 2) mNil)))))) m_step_faults_s4 mNext)
def m_step_faults_s6 : MS := (mDrop (mApp (mVar 5) (mC (.str "lost"))))
def m_step_faults_s5 : MS := (mIfS (mAnd (mTest (mOp inM (mOp idxM (mVar 3) (mC (.int 0))) (mTup (mCons (mC (.str "room")) (mCons (mC (.str "person")) mNil))))) (mTest (mCallF m_lost_single (mCons (mVar 0) (mCons (mVar 1) (mCons (mVar 2) mNil)))))) m_step_faults_s6 mNext)
def m_step_faults_s8 : MS := (mDrop (mApp (mVar 5) (mC (.str "elder"))))
def m_step_faults_s7 : MS := (mIfS (mAnd (mTest (mOp eqM (mOp idxM (mVar 3) (mC (.int 0))) (mC (.str "tell")))) (mTest (mOp neM (mVar 4) (mCallF m_person_hours (mCons (mVar 1) (mCons (mVar 2) mNil)))))) m_step_faults_s8 mNext)
def m_step_faults_s9 : MS := (mRet (mVar 5))
def m_step_faults : MF := mFn 6 ((mSeq m_step_faults_s0 (mSeq m_step_faults_s1 (mSeq m_step_faults_s3 (mSeq m_step_faults_s5 (mSeq m_step_faults_s7 m_step_faults_s9))))))
theorem sc_m_step_faults : FnScope ["before", "after", "series", "step", "told", "found"] ["before", "after", "series", "step", "told"] (defScope s_step_faults) := ⟨rfl, rfl, rfl, by decide +kernel, rfl, by decide +kernel, by decide +kernel⟩
theorem ok_step_faults {P : Program} {w : PySem.World} {K : PySem.W.Frag} {mg : Str → Option Value} {base : Heap} {f : Addr} {fd : FuncData} (g : Gs K mg) (h_meets_room : FN P w K mg base 2 2 "meets_room" m_meets_room) (h_meets_person : FN P w K mg base 2 2 "meets_person" m_meets_person) (h_lost_single : FN P w K mg base 1 3 "lost_single" m_lost_single) (h_person_hours : FN P w K mg base 1 2 "person_hours" m_person_hours) (F : FunD K "step_faults" "step_faults" (defArgs s_step_faults) (defBody s_step_faults) (defScope s_step_faults) [] [] f fd) (hg : mg "step_faults" = some (.ref f)) : FN P w K mg base 3 5 "step_faults" m_step_faults := by
  refine ⟨f, fd, ["before", "after", "series", "step", "told"], ?_, hg, F.kp, F.bindsN fun _ _ _ _ _ _ us hl => match us, hl with | [_, _, _, _, _], _ => rfl⟩
  refine F.ok sc_m_step_faults (fun vs H Q E h => h.1) (fun cdv A outer s H vs Q E hr h => body_ok (m := (mSeq m_step_faults_s0 (mSeq m_step_faults_s1 (mSeq m_step_faults_s3 (mSeq m_step_faults_s5 (mSeq m_step_faults_s7 m_step_faults_s9)))))) (by decide) ?_ h)
  exact (sss_cons (sset 5 sc_m_step_faults.nd (se_cell sa_nil lenNil (by decide))) (sss_cons (ss_if (st_w (sw_and (st_cmp (opM_eq (Room.u64 hr)) pu_eq (nomark _) (sv 4) se_str) (sw_and (st_cmp (opM_in (Room.u65 hr)) pu_in (by with_unfolding_all rfl) (se_ix (Room.u1 hr) (fun _ _ => rfl) (sv 3) se_int pu_ix) (se_tup (sa_cons se_str (sa_cons se_str sa_nil)) (lenCons (lenCons lenNil)) (by decide))) (sw_and1 (st_val (se_callN h_meets_room hr (by decide) rfl takes_cx (sa_cons (sv 1) (sa_cons (sv 2) sa_nil)) (lenCons (lenCons lenNil)))))))) (sss_one (ss_expr (se_app (sv 5) se_str))) sss_nil) (sss_cons (ss_if (st_w (sw_and (st_cmp (opM_eq (Room.u64 hr)) pu_eq (nomark _) (sv 4) se_str) (sw_and (st_cmp (opM_in (Room.u65 hr)) pu_in (by with_unfolding_all rfl) (se_ix (Room.u1 hr) (fun _ _ => rfl) (sv 3) se_int pu_ix) (se_tup (sa_cons se_str (sa_cons se_str sa_nil)) (lenCons (lenCons lenNil)) (by decide))) (sw_and1 (st_val (se_callN h_meets_person hr (by decide) rfl takes_cx (sa_cons (sv 1) (sa_cons (sv 2) sa_nil)) (lenCons (lenCons lenNil)))))))) (sss_one (ss_expr (se_app (sv 5) se_str))) sss_nil) (sss_cons (ss_if (st_w (sw_and (st_cmp (opM_in (Room.u65 hr)) pu_in (by with_unfolding_all rfl) (se_ix (Room.u1 hr) (fun _ _ => rfl) (sv 3) se_int pu_ix) (se_tup (sa_cons se_str (sa_cons se_str sa_nil)) (lenCons (lenCons lenNil)) (by decide))) (sw_and1 (st_val (se_callN h_lost_single hr (by decide) rfl takes_cx (sa_cons (sv 0) (sa_cons (sv 1) (sa_cons (sv 2) sa_nil))) (lenCons (lenCons (lenCons lenNil)))))))) (sss_one (ss_expr (se_app (sv 5) se_str))) sss_nil) (sss_cons (ss_if (st_w (sw_and (st_cmp (opM_eq (Room.u64 hr)) pu_eq (nomark _) (se_ix (Room.u1 hr) (fun _ _ => rfl) (sv 3) se_int pu_ix) se_str) (sw_and1 (st_cmp (opM_ne (Room.u64 hr)) pu_ne (nomark _) (sv 4) (se_callN h_person_hours hr (by decide) rfl takes_cx (sa_cons (sv 1) (sa_cons (sv 2) sa_nil)) (lenCons (lenCons lenNil))))))) (sss_one (ss_expr (se_app (sv 5) se_str))) sss_nil) (sss_one (ss_ret (sv 5))))))))
def m_is_half_s1 : MS := (mRet (mC (.bl false)))
def m_is_half_s0 : MS := (mIfS (mTest (mCallF anyM (mCons (mLc true [4, 5] (mZip2 (mCons (mVar 1) (mCons (mOp idxM (mVar 0) (mC (.int 3))) mNil))) (tgTup (tgCons (tgName 4) (tgCons (tgName 5) tgNil))) mTrue (mOp ltM (mVar 4) (mCallF lenM (mCons (mOp idxM (mVar 5) (mC (.int 1))) mNil)))) mNil))) m_is_half_s1 mNext)
def m_is_half_s2 : MS := (mRet (mCallF anyM (mCons (mLc2 true [3, 6, 7, 8] [6, 7, 8] (mSrc (mVar 2)) (tgName 3) mTrue (mSrc (mOp idxM (mVar 3) (mC (.int 2)))) (tgTup (tgCons (tgName 6) (tgCons (tgName 7) (tgCons (tgName 8) tgNil)))) mTrue (mOp neM (mVar 6) (mVar 7))) mNil)))
def m_is_half : MF := mFn 9 ((mSeq m_is_half_s0 m_is_half_s2))
theorem sc_m_is_half : FnScope ["world", "places", "standing", "row", "place", "hand", "room", "there", "single"] ["world", "places", "standing"] (defScope s_is_half) := ⟨rfl, rfl, rfl, by decide +kernel, rfl, by decide +kernel, by decide +kernel⟩
theorem ok_is_half {P : Program} {w : PySem.World} {K : PySem.W.Frag} {mg : Str → Option Value} {base : Heap} {f : Addr} {fd : FuncData} (g : Gs K mg) (F : FunD K "is_half" "is_half" (defArgs s_is_half) (defBody s_is_half) (defScope s_is_half) [] [] f fd) (hg : mg "is_half" = some (.ref f)) : FN P w K mg base 1 3 "is_half" m_is_half := by
  refine ⟨f, fd, ["world", "places", "standing"], ?_, hg, F.kp, F.bindsN fun _ _ _ _ _ _ us hl => match us, hl with | [_, _, _], _ => rfl⟩
  refine F.ok sc_m_is_half (fun vs H Q E h => h.1) (fun cdv A outer s H vs Q E hr h => body_ok (m := (mSeq m_is_half_s0 m_is_half_s2)) (by decide) ?_ h)
  exact (sss_cons (ss_if (st_val (se_callB (crM_any rfl) pu_any rfl g.b_any bt_any (sa_cons (se_lc (fr := true) (own := [("place", 4), ("hand", 5)]) rfl sc_m_is_half.nd (si_zip2 rfl g.b_zip (sa_cons (sv 1) (sa_cons (se_ix (Room.u1 hr) (fun _ _ => rfl) (sv 0) se_int pu_ix) sa_nil))) (blkOk_by rfl) (fun _ _ _ _ _ => (sg_tup rfl (sgs_cons (sn 4 sc_m_is_half.nd) (sgs_cons (sn 5 sc_m_is_half.nd) sgs_nil)))) (fun _ _ _ _ _ => sts_nil) (fun _ _ _ _ _ => (se_cmp (opM_int op_lt) pu_cmpI (nomark _) (sv 4) (se_callB crM_len pu_len rfl g.b_len bt_len (sa_cons (se_ix (Room.u1 hr) (fun _ _ => rfl) (sv 5) se_int pu_ix) sa_nil)))) (by decide)) sa_nil))) (sss_one (ss_ret se_bl)) sss_nil) (sss_one (ss_ret (se_callB (crM_any rfl) pu_any rfl g.b_any bt_any (sa_cons (se_lc2 (fr := true) (own := [("row", 3), ("room", 6), ("there", 7), ("single", 8)]) (vs1 := [6, 7, 8]) rfl sc_m_is_half.nd (si_seq (sv 2)) (blkOk_by rfl) (by decide) (fun _ _ _ _ _ => (sn 3 sc_m_is_half.nd)) (fun _ _ _ _ _ => sts_nil) (fun _ _ _ _ _ => (si_seq (se_ix (Room.u1 hr) (fun _ _ => rfl) (sv 3) se_int pu_ix))) (fun _ _ _ _ _ => (sg_tup rfl (sgs_cons (sn 6 sc_m_is_half.nd) (sgs_cons (sn 7 sc_m_is_half.nd) (sgs_cons (sn 8 sc_m_is_half.nd) sgs_nil))))) (fun _ _ _ _ _ => sts_nil) (fun _ _ _ _ _ => (se_cmp (opM_ne (Room.u64 hr)) pu_ne (nomark _) (sv 6) (sv 7))) (by decide) (by decide)) sa_nil)))))
def m_led_s0 : MS := (mAsg (mVar 2) (tgTup (tgCons (tgName 6) (tgCons (tgName 7) (tgCons (tgName 8) tgNil)))))
def m_led_s1 : MS := (mAsg (mOp idxM (mOp idxM (mVar 1) (mC (.int 3))) (mVar 3)) (tgTup (tgCons (tgName 9) (tgCons (tgName 10) tgNil))))
def m_led_s2 : MS := (mAsg (mOp idxM (mVar 10) (mOp idxM (mVar 6) (mVar 3))) (tgName 4))
def m_led_s3 : MS := (mAsg (mCallF m_stepped (mCons (mVar 0) (mCons (mVar 1) (mCons (mVar 8) (mCons (mVar 9) (mCons (mOp idxM (mVar 7) (mVar 3)) (mCons (mVar 4) mNil))))))) (tgTup (tgCons (tgName 11) (tgCons (tgName 12) (tgCons (tgName 13) tgNil)))))
def m_led_s4 : MS := (mAsg (mCallF m_step_faults (mCons (mVar 8) (mCons (mVar 13) (mCons (mVar 9) (mCons (mVar 4) (mCons (mVar 11) mNil)))))) (tgName 5))
def m_led_s5 : MS := (mAsg (mOp addM (mOp addM (mSlice (mVar 6) moNone (moSome (mVar 3))) (mTup (mCons (mOp addM (mOp idxM (mVar 6) (mVar 3)) (mC (.int 1))) mNil))) (mSlice (mVar 6) (moSome (mOp addM (mVar 3) (mC (.int 1)))) moNone)) (tgName 6))
def m_led_s7 : MS := (mDrop (mApp (mVar 5) (mC (.str "half"))))
def m_led_s6 : MS := (mIfS (mTest (mCallF m_is_half (mCons (mVar 1) (mCons (mVar 6) (mCons (mVar 13) mNil))))) m_led_s7 mNext)
def m_led_s8 : MS := (mRet (mTup (mCons (mVar 11) (mCons (mTup (mCons (mVar 6) (mCons (mOp addM (mOp addM (mSlice (mVar 7) moNone (moSome (mVar 3))) (mTup (mCons (mVar 12) mNil))) (mSlice (mVar 7) (moSome (mOp addM (mVar 3) (mC (.int 1)))) moNone)) (mCons (mVar 13) mNil)))) (mCons (mVar 5) mNil)))))
def m_led : MF := mFn 14 ((mSeq m_led_s0 (mSeq m_led_s1 (mSeq m_led_s2 (mSeq m_led_s3 (mSeq m_led_s4 (mSeq m_led_s5 (mSeq m_led_s6 m_led_s8))))))))
theorem sc_m_led : FnScope ["rule", "world", "state", "hand", "step", "found", "places", "memories", "standing", "series", "steps", "told", "memory", "after"] ["rule", "world", "state", "hand"] (defScope s_led) := ⟨rfl, rfl, rfl, by decide +kernel, rfl, by decide +kernel, by decide +kernel⟩
theorem ok_led {P : Program} {w : PySem.World} {K : PySem.W.Frag} {mg : Str → Option Value} {base : Heap} {f : Addr} {fd : FuncData} (g : Gs K mg) (h_stepped : FN P w K mg base 3 6 "stepped" m_stepped) (h_step_faults : FN P w K mg base 3 5 "step_faults" m_step_faults) (h_is_half : FN P w K mg base 1 3 "is_half" m_is_half) (F : FunD K "led" "led" (defArgs s_led) (defBody s_led) (defScope s_led) [] [] f fd) (hg : mg "led" = some (.ref f)) : FN P w K mg base 4 4 "led" m_led := by
  refine ⟨f, fd, ["rule", "world", "state", "hand"], ?_, hg, F.kp, F.bindsN fun _ _ _ _ _ _ us hl => match us, hl with | [_, _, _, _], _ => rfl⟩
  refine F.ok sc_m_led (fun vs H Q E h => h.1) (fun cdv A outer s H vs Q E hr h => body_ok (m := (mSeq m_led_s0 (mSeq m_led_s1 (mSeq m_led_s2 (mSeq m_led_s3 (mSeq m_led_s4 (mSeq m_led_s5 (mSeq m_led_s6 m_led_s8)))))))) (by decide) ?_ h)
  exact (sss_cons (ss_asg (sv 2) (sg_tup rfl (sgs_cons (sn 6 sc_m_led.nd) (sgs_cons (sn 7 sc_m_led.nd) (sgs_cons (sn 8 sc_m_led.nd) sgs_nil))))) (sss_cons (ss_asg (se_ix (Room.u1 hr) (fun _ _ => rfl) (se_ix (Room.u1 hr) (fun _ _ => rfl) (sv 1) se_int pu_ix) (sv 3) pu_ix) (sg_tup rfl (sgs_cons (sn 9 sc_m_led.nd) (sgs_cons (sn 10 sc_m_led.nd) sgs_nil)))) (sss_cons (sset 4 sc_m_led.nd (se_ix (Room.u1 hr) (fun _ _ => rfl) (sv 10) (se_ix (Room.u1 hr) (fun _ _ => rfl) (sv 6) (sv 3) pu_ix) pu_ix)) (sss_cons (ss_asg (se_callN h_stepped hr (by decide) rfl takes_cx (sa_cons (sv 0) (sa_cons (sv 1) (sa_cons (sv 8) (sa_cons (sv 9) (sa_cons (se_ix (Room.u1 hr) (fun _ _ => rfl) (sv 7) (sv 3) pu_ix) (sa_cons (sv 4) sa_nil)))))) (lenCons (lenCons (lenCons (lenCons (lenCons (lenCons lenNil))))))) (sg_tup rfl (sgs_cons (sn 11 sc_m_led.nd) (sgs_cons (sn 12 sc_m_led.nd) (sgs_cons (sn 13 sc_m_led.nd) sgs_nil))))) (sss_cons (sset 5 sc_m_led.nd (se_callN h_step_faults hr (by decide) rfl takes_cx (sa_cons (sv 8) (sa_cons (sv 13) (sa_cons (sv 9) (sa_cons (sv 4) (sa_cons (sv 11) sa_nil))))) (lenCons (lenCons (lenCons (lenCons (lenCons lenNil))))))) (sss_cons (sset 6 sc_m_led.nd (se_op opM_add pu_add (se_op opM_add pu_add (se_slice (sv 6) so_none (so_some (sv 3))) (se_tup (sa_cons (se_op opM_add pu_add (se_ix (Room.u1 hr) (fun _ _ => rfl) (sv 6) (sv 3) pu_ix) se_int) sa_nil) (lenCons lenNil) (by decide))) (se_slice (sv 6) (so_some (se_op opM_add pu_add (sv 3) se_int)) so_none))) (sss_cons (ss_if (st_val (se_callN h_is_half hr (by decide) rfl takes_cx (sa_cons (sv 1) (sa_cons (sv 6) (sa_cons (sv 13) sa_nil))) (lenCons (lenCons (lenCons lenNil))))) (sss_one (ss_expr (se_app (sv 5) se_str))) sss_nil) (sss_one (ss_ret (se_tup (sa_cons (sv 11) (sa_cons (se_tup (sa_cons (sv 6) (sa_cons (se_op opM_add pu_add (se_op opM_add pu_add (se_slice (sv 7) so_none (so_some (sv 3))) (se_tup (sa_cons (sv 12) sa_nil) (lenCons lenNil) (by decide))) (se_slice (sv 7) (so_some (se_op opM_add pu_add (sv 3) se_int)) so_none)) (sa_cons (sv 13) sa_nil))) (lenCons (lenCons (lenCons lenNil))) (by decide)) (sa_cons (sv 5) sa_nil))) (lenCons (lenCons (lenCons lenNil))) (by decide)))))))))))
def m_woven_s0 : MS := (mDrop (mCallF m_check_world (mCons (mVar 1) mNil)))
def m_woven_s1 : MS := (mAsg (mCallF m_begin (mCons (mVar 1) mNil)) (tgName 3))
def m_woven_s2 : MS := (mAsg (mCell mNil) (tgName 4))
def m_woven_s5 : MS := (mRaise "BadWeaving" "at" (mVar 5))
def m_woven_s4 : MS := (mIfS (mNot (mTest (mCallF m_has_step (mCons (mVar 1) (mCons (mVar 3) (mCons (mVar 6) mNil)))))) m_woven_s5 mNext)
def m_woven_s6 : MS := (mAsg (mCallF m_led (mCons (mVar 0) (mCons (mVar 1) (mCons (mVar 3) (mCons (mVar 6) mNil))))) (tgTup (tgCons (tgName 7) (tgCons (tgName 3) (tgCons (tgName 8) tgNil)))))
def m_woven_s7 : MS := (mDrop (mApp (mVar 4) (mTup (mCons (mVar 7) (mCons (mVar 8) mNil)))))
def m_woven_s3 : MS := (mFor (mEnum (mCons (mVar 2) mNil)) (tgTup (tgCons (tgName 5) (tgCons (tgName 6) tgNil))) (mSeq m_woven_s4 (mSeq m_woven_s6 m_woven_s7)))
def m_woven_s8 : MS := (mRet (mTup (mCons (mVar 4) (mCons (mOp idxM (mVar 3) (mC (.int 2))) mNil))))
def m_woven : MF := mFn 9 ((mSeq m_woven_s0 (mSeq m_woven_s1 (mSeq m_woven_s2 (mSeq m_woven_s3 m_woven_s8)))))
theorem sc_m_woven : FnScope ["rule", "world", "weaving", "state", "rows", "at", "hand", "told", "found"] ["rule", "world", "weaving"] (defScope s_woven) := ⟨rfl, rfl, rfl, by decide +kernel, rfl, by decide +kernel, by decide +kernel⟩
theorem ok_woven {P : Program} {w : PySem.World} {K : PySem.W.Frag} {mg : Str → Option Value} {base : Heap} {f : Addr} {fd : FuncData} (g : Gs K mg) (h_check_world : FN P w K mg base 5 1 "check_world" m_check_world) (h_begin : FN P w K mg base 2 1 "begin" m_begin) (h_has_step : FN P w K mg base 2 3 "has_step" m_has_step) (h_led : FN P w K mg base 4 4 "led" m_led) (x_BadWeaving : XN P w K mg base 1 "BadWeaving" "at") (F : FunD K "woven" "woven" (defArgs s_woven) (defBody s_woven) (defScope s_woven) [] [] f fd) (hg : mg "woven" = some (.ref f)) : FN P w K mg base 6 3 "woven" m_woven := by
  refine ⟨f, fd, ["rule", "world", "weaving"], ?_, hg, F.kp, F.bindsN fun _ _ _ _ _ _ us hl => match us, hl with | [_, _, _], _ => rfl⟩
  refine F.ok sc_m_woven (fun vs H Q E h => h.1) (fun cdv A outer s H vs Q E hr h => body_ok (m := (mSeq m_woven_s0 (mSeq m_woven_s1 (mSeq m_woven_s2 (mSeq m_woven_s3 m_woven_s8))))) (by decide) ?_ h)
  exact (sss_cons (ss_expr (se_callN h_check_world hr (by decide) rfl takes_cx (sa_cons (sv 1) sa_nil) (lenCons lenNil))) (sss_cons (sset 3 sc_m_woven.nd (se_callN h_begin hr (by decide) rfl takes_cx (sa_cons (sv 1) sa_nil) (lenCons lenNil))) (sss_cons (sset 4 sc_m_woven.nd (se_cell sa_nil lenNil (by decide))) (sss_cons (ss_for pass_cx rfl (si_enum rfl g.b_enumerate (sa_cons (sv 2) sa_nil)) (sg_tup rfl (sgs_cons (sn 5 sc_m_woven.nd) (sgs_cons (sn 6 sc_m_woven.nd) sgs_nil))) (sss_cons (ss_if (st_not (st_val (se_callN h_has_step hr (by decide) rfl takes_cx (sa_cons (sv 1) (sa_cons (sv 3) (sa_cons (sv 6) sa_nil))) (lenCons (lenCons (lenCons lenNil)))))) (sss_one (ss_raiseN x_BadWeaving rfl takes_cx hr (by decide) rfl (sv 5))) sss_nil) (sss_cons (ss_asg (se_callN h_led hr (by decide) rfl takes_cx (sa_cons (sv 0) (sa_cons (sv 1) (sa_cons (sv 3) (sa_cons (sv 6) sa_nil)))) (lenCons (lenCons (lenCons (lenCons lenNil))))) (sg_tup rfl (sgs_cons (sn 7 sc_m_woven.nd) (sgs_cons (sn 3 sc_m_woven.nd) (sgs_cons (sn 8 sc_m_woven.nd) sgs_nil))))) (sss_one (ss_expr (se_app (sv 4) (se_tup (sa_cons (sv 7) (sa_cons (sv 8) sa_nil)) (lenCons (lenCons lenNil)) (by decide)))))))) (sss_one (ss_ret (se_tup (sa_cons (sv 4) (sa_cons (se_ix (Room.u1 hr) (fun _ _ => rfl) (sv 3) se_int pu_ix) sa_nil)) (lenCons (lenCons lenNil)) (by decide))))))))
def m_run_s0 : MS := (mRet (mLc true [3, 4] (mSrc (mOp idxM (mCallF m_woven (mCons (mVar 0) (mCons (mVar 1) (mCons (mVar 2) mNil)))) (mC (.int 0)))) (tgTup (tgCons (tgName 3) (tgCons (tgName 4) tgNil))) mTrue (mVar 3)))
def m_run : MF := mFn 5 (m_run_s0)
theorem sc_m_run : FnScope ["rule", "world", "weaving", "told", "found"] ["rule", "world", "weaving"] (defScope s_run) := ⟨rfl, rfl, rfl, by decide +kernel, rfl, by decide +kernel, by decide +kernel⟩
theorem ok_run {P : Program} {w : PySem.World} {K : PySem.W.Frag} {mg : Str → Option Value} {base : Heap} {f : Addr} {fd : FuncData} (g : Gs K mg) (h_woven : FN P w K mg base 6 3 "woven" m_woven) (F : FunD K "run" "run" (defArgs s_run) (defBody s_run) (defScope s_run) [] [] f fd) (hg : mg "run" = some (.ref f)) : FN P w K mg base 7 3 "run" m_run := by
  refine ⟨f, fd, ["rule", "world", "weaving"], ?_, hg, F.kp, F.bindsN fun _ _ _ _ _ _ us hl => match us, hl with | [_, _, _], _ => rfl⟩
  refine F.ok sc_m_run (fun vs H Q E h => h.1) (fun cdv A outer s H vs Q E hr h => body_ok (m := m_run_s0) (by decide) ?_ h)
  exact (sss_one (ss_ret (se_lc (fr := true) (own := [("told", 3), ("found", 4)]) rfl sc_m_run.nd (si_seq (se_ix (Room.u1 hr) (fun _ _ => rfl) (se_callN h_woven hr (by decide) rfl takes_cx (sa_cons (sv 0) (sa_cons (sv 1) (sa_cons (sv 2) sa_nil))) (lenCons (lenCons (lenCons lenNil)))) se_int pu_ix)) (blkOk_by rfl) (fun _ _ _ _ _ => (sg_tup rfl (sgs_cons (sn 3 sc_m_run.nd) (sgs_cons (sn 4 sc_m_run.nd) sgs_nil)))) (fun _ _ _ _ _ => sts_nil) (fun _ _ _ _ _ => (sv 3)) (by decide))))
noncomputable def m_law_call_s0 : MS := (mAsg (mTup (mCons (mC (.int 1)) (mCons (mC (.int 2)) (mCons (mTup (mCons (mTup (mCons (mC (.int 0)) (mCons (mC (.int 0)) mNil))) mNil)) (mCons (mTup (mCons (mTup (mCons (mC (.int 0)) (mCons (mTup (mCons (mTup (mCons (mC (.str "tell")) mNil)) mNil)) mNil))) mNil)) mNil))))) (tgName 4))
noncomputable def m_law_call_s2 : MS := (mDrop (mCallF (makM "Rule" m_Rule___init__) (mCons (mC (.str "none")) (mCons (mVar 3) (mCons (mC (.str "left")) (mCons (mC (.str "now")) mNil))))))
noncomputable def m_law_call_s4 : MS := (mDrop (mMeth "Calendar" "do" m_Calendar_do (mVar 1) (mCons (mVar 3) mNil)))
noncomputable def m_law_call_s6 : MS := (mDrop (mPick m_bars m_mends (mVar 3) (mCons (mVar 0) (mCons (mVar 4) (mCons (mVar 3) mNil)))))
noncomputable def m_law_call_s8 : MS := (mDrop (mMeth "Calendar" "add" m_Calendar_add (mVar 1) (mCons (mVar 3) (mCons (mC (.int 1)) mNil))))
noncomputable def m_law_call_s10 : MS := (mDrop (mMeth "Calendar" "undo" m_Calendar_undo (mVar 1) mNil))
noncomputable def m_law_call_s12 : MS := (mDrop (mCallF m_read (mCons (mC (.str "rule")) mNil)))
noncomputable def m_law_call_s14 : MS := (mDrop (mMeth "Calendar" "add" m_Calendar_add (mVar 1) (mCons (mC (.int 0)) (mCons (mC (.int 0)) mNil))))
noncomputable def m_law_call_s16 : MS := (mDrop (mCallF m_run (mCons (mVar 0) (mCons (mTup (mCons (mC (.int 1)) (mCons (mC (.int 2)) (mCons (mTup mNil) (mCons (mTup mNil) mNil))))) (mCons (mLst mNil) mNil)))))
noncomputable def m_law_call_s17 : MS := (mDrop (mCallF m_run (mCons (mVar 0) (mCons (mVar 4) (mCons (mLst (mCons (mC (.int 0)) (mCons (mVar 3) mNil))) mNil)))))
noncomputable def m_law_call_s15 : MS := (mIfS (mTest (mOp eqM (mVar 2) (mC (.int 7)))) m_law_call_s16 m_law_call_s17)
noncomputable def m_law_call_s13 : MS := (mIfS (mTest (mOp eqM (mVar 2) (mC (.int 6)))) m_law_call_s14 m_law_call_s15)
noncomputable def m_law_call_s11 : MS := (mIfS (mTest (mOp eqM (mVar 2) (mC (.int 5)))) m_law_call_s12 m_law_call_s13)
noncomputable def m_law_call_s9 : MS := (mIfS (mTest (mOp eqM (mVar 2) (mC (.int 4)))) m_law_call_s10 m_law_call_s11)
noncomputable def m_law_call_s7 : MS := (mIfS (mTest (mOp eqM (mVar 2) (mC (.int 3)))) m_law_call_s8 m_law_call_s9)
noncomputable def m_law_call_s5 : MS := (mIfS (mTest (mOp eqM (mVar 2) (mC (.int 2)))) m_law_call_s6 m_law_call_s7)
noncomputable def m_law_call_s3 : MS := (mIfS (mTest (mOp eqM (mVar 2) (mC (.int 1)))) m_law_call_s4 m_law_call_s5)
noncomputable def m_law_call_s1 : MS := (mIfS (mTest (mOp eqM (mVar 2) (mC (.int 0)))) m_law_call_s2 m_law_call_s3)
noncomputable def m_law_call : MF := mFn 5 ((mSeq m_law_call_s0 m_law_call_s1))
theorem sc_m_law_call : FnScope ["_law_rule_here", "_law_calendar_here", "_law_what", "_law_thing", "_law_world"] ["_law_rule_here", "_law_calendar_here", "_law_what", "_law_thing"] (defScope s_law_call) := ⟨rfl, rfl, rfl, by decide +kernel, rfl, by decide +kernel, by decide +kernel⟩
theorem ok_law_call {P : Program} {w : PySem.World} {K : PySem.W.Frag} {mg : Str → Option Value} {base : Heap} {f : Addr} {fd : FuncData} (g : Gs K mg) (h_Rule___init__ : MN P w K mg base 3 5 "Rule" "__init__" m_Rule___init__) (h_Calendar_do : MN P w K mg base 3 2 "Calendar" "do" m_Calendar_do) (h_bars : FN P w K mg base 6 3 "bars" m_bars) (h_mends : FN P w K mg base 6 3 "mends" m_mends) (h_Calendar_add : MN P w K mg base 3 3 "Calendar" "add" m_Calendar_add) (h_Calendar_undo : MN P w K mg base 3 1 "Calendar" "undo" m_Calendar_undo) (h_read : FN P w K mg base 3 1 "read" m_read) (h_run : FN P w K mg base 7 3 "run" m_run) (F : FunD K "_law_call" "_law_call" (defArgs s_law_call) (defBody s_law_call) (defScope s_law_call) [] [] f fd) (hg : mg "_law_call" = some (.ref f)) : FN P w K mg base 8 4 "_law_call" m_law_call := by
  refine ⟨f, fd, ["_law_rule_here", "_law_calendar_here", "_law_what", "_law_thing"], ?_, hg, F.kp, F.bindsN fun _ _ _ _ _ _ us hl => match us, hl with | [_, _, _, _], _ => rfl⟩
  refine F.ok sc_m_law_call (fun vs H Q E h => h.1) (fun cdv A outer s H vs Q E hr h => body_ok (m := (mSeq m_law_call_s0 m_law_call_s1)) (by decide) ?_ h)
  exact (sss_cons (sset 4 sc_m_law_call.nd (se_tup (sa_cons se_int (sa_cons se_int (sa_cons (se_tup (sa_cons (se_tup (sa_cons se_int (sa_cons se_int sa_nil)) (lenCons (lenCons lenNil)) (by decide)) sa_nil) (lenCons lenNil) (by decide)) (sa_cons (se_tup (sa_cons (se_tup (sa_cons se_int (sa_cons (se_tup (sa_cons (se_tup (sa_cons se_str sa_nil) (lenCons lenNil) (by decide)) sa_nil) (lenCons lenNil) (by decide)) sa_nil)) (lenCons (lenCons lenNil)) (by decide)) sa_nil) (lenCons lenNil) (by decide)) sa_nil)))) (lenCons (lenCons (lenCons (lenCons lenNil)))) (by decide))) (sss_one (ss_if (st_cmp (opM_eq (Room.u64 hr)) pu_eq (nomark _) (sv 2) se_int) (sss_one (ss_expr (se_makeN h_Rule___init__ g.mk_Rule g.gc_Rule hr (by decide) rfl takes_cx (sa_cons se_str (sa_cons (sv 3) (sa_cons se_str (sa_cons se_str sa_nil)))) (lenCons (lenCons (lenCons (lenCons lenNil))))))) (sss_one (ss_if (st_cmp (opM_eq (Room.u64 hr)) pu_eq (nomark _) (sv 2) se_int) (sss_one (ss_expr (se_methN h_Calendar_do g.c_Calendar g.m_Calendar_do hr (by decide) takes_cx (sv 1) (sa_cons (sv 3) sa_nil) (lenCons lenNil)))) (sss_one (ss_if (st_cmp (opM_eq (Room.u64 hr)) pu_eq (nomark _) (sv 2) se_int) (sss_one (ss_expr (se_pick h_bars h_mends hr (by decide) (by decide) rfl rfl takes_cx rfl g.b_len rfl g.b_str (sv 3) (sa_cons (sv 0) (sa_cons (sv 4) (sa_cons (sv 3) sa_nil))) (lenCons (lenCons (lenCons lenNil)))))) (sss_one (ss_if (st_cmp (opM_eq (Room.u64 hr)) pu_eq (nomark _) (sv 2) se_int) (sss_one (ss_expr (se_methN h_Calendar_add g.c_Calendar g.m_Calendar_add hr (by decide) takes_cx (sv 1) (sa_cons (sv 3) (sa_cons se_int sa_nil)) (lenCons (lenCons lenNil))))) (sss_one (ss_if (st_cmp (opM_eq (Room.u64 hr)) pu_eq (nomark _) (sv 2) se_int) (sss_one (ss_expr (se_methN0 h_Calendar_undo g.c_Calendar g.m_Calendar_undo hr (by decide) takes_cx (sv 1)))) (sss_one (ss_if (st_cmp (opM_eq (Room.u64 hr)) pu_eq (nomark _) (sv 2) se_int) (sss_one (ss_expr (se_callN h_read hr (by decide) rfl takes_cx (sa_cons se_str sa_nil) (lenCons lenNil)))) (sss_one (ss_if (st_cmp (opM_eq (Room.u64 hr)) pu_eq (nomark _) (sv 2) se_int) (sss_one (ss_expr (se_methN h_Calendar_add g.c_Calendar g.m_Calendar_add hr (by decide) takes_cx (sv 1) (sa_cons se_int (sa_cons se_int sa_nil)) (lenCons (lenCons lenNil))))) (sss_one (ss_if (st_cmp (opM_eq (Room.u64 hr)) pu_eq (nomark _) (sv 2) se_int) (sss_one (ss_expr (se_callN h_run hr (by decide) rfl takes_cx (sa_cons (sv 0) (sa_cons (se_tup (sa_cons se_int (sa_cons se_int (sa_cons (se_tup sa_nil lenNil (by decide)) (sa_cons (se_tup sa_nil lenNil (by decide)) sa_nil)))) (lenCons (lenCons (lenCons (lenCons lenNil)))) (by decide)) (sa_cons (se_lst sa_nil lenNil (by decide)) sa_nil))) (lenCons (lenCons (lenCons lenNil)))))) (sss_one (ss_expr (se_callN h_run hr (by decide) rfl takes_cx (sa_cons (sv 0) (sa_cons (sv 4) (sa_cons (se_lst (sa_cons se_int (sa_cons (sv 3) sa_nil)) (lenCons (lenCons lenNil)) (by decide)) sa_nil))) (lenCons (lenCons (lenCons lenNil)))))))))))))))))))))))
noncomputable def m_law_kind_s0 : MS := (mAsg (mC .non) (tgName 4))
noncomputable def m_law_kind_s2 : MS := (mDrop (mCallF m_law_call (mCons (mVar 0) (mCons (mVar 1) (mCons (mVar 2) (mCons (mVar 3) mNil))))))
noncomputable def m_law_kind_s3 : MS := (mAsg (mLst (mCons (mC (.int 7)) (mCons (mC .non) mNil))) (tgName 4))
noncomputable def m_law_kind_s4 : MS := (mAsg (mLst (mCons (mC (.int 4)) (mCons (mC .non) mNil))) (tgName 4))
noncomputable def m_law_kind_s5 : MS := (mAsg (mLst (mCons (mC (.int 3)) (mCons (mC .non) mNil))) (tgName 4))
noncomputable def m_law_kind_s6 : MS := (mAsg (mLst (mCons (mC (.int 2)) (mCons (mC .non) mNil))) (tgName 4))
noncomputable def m_law_kind_s7 : MS := (mAsg (mLst (mCons (mC (.int 1)) (mCons (mC .non) mNil))) (tgName 4))
noncomputable def m_law_kind_s1 : MS := (mTryX ((manyC "BadRule" ["BadDeed", "BadFault", "BadSeries", "NothingDone", "BadLine", "Refused", "BadWorld", "BadWeaving"], mAsF 0 "part" 5 4) :: ((manyC "BadDeed" ["BadFault", "BadSeries", "NothingDone", "BadLine", "Refused", "BadWorld", "BadWeaving"], mSu m_law_kind_s7) :: ((manyC "BadFault" ["BadSeries", "NothingDone", "BadLine", "Refused", "BadWorld", "BadWeaving"], mSu m_law_kind_s6) :: ((manyC "BadSeries" ["NothingDone", "BadLine", "Refused", "BadWorld", "BadWeaving"], mSu m_law_kind_s5) :: ((manyC "NothingDone" ["BadLine", "Refused", "BadWorld", "BadWeaving"], mSu m_law_kind_s4) :: ((manyC "BadLine" ["Refused", "BadWorld", "BadWeaving"], mAsF 5 "line" 5 4) :: ((manyC "Refused" ["BadWorld", "BadWeaving"], mAsF 6 "deed" 5 4) :: ((manyC "BadWorld" ["BadWeaving"], mSu m_law_kind_s3) :: ((manyC "BadWeaving" [], mAsF 8 "at" 5 4) :: []))))))))) m_law_kind_s2)
noncomputable def m_law_kind_s8 : MS := (mRet (mVar 4))
noncomputable def m_law_kind : MF := mFn 6 ((mSeq m_law_kind_s0 (mSeq m_law_kind_s1 m_law_kind_s8)))
theorem sc_m_law_kind : FnScope ["_law_rule_here", "_law_calendar_here", "_law_what", "_law_thing", "_law_told", "e"] ["_law_rule_here", "_law_calendar_here", "_law_what", "_law_thing"] (defScope s_law_kind) := ⟨rfl, rfl, rfl, by decide +kernel, rfl, by decide +kernel, by decide +kernel⟩
theorem ok_law_kind {P : Program} {w : PySem.World} {K : PySem.W.Frag} {mg : Str → Option Value} {base : Heap} {f : Addr} {fd : FuncData} (g : Gs K mg) (h_law_call : FN P w K mg base 8 4 "_law_call" m_law_call) (x_BadLine : XN P w K mg base 1 "BadLine" "line") (x_BadRule : XN P w K mg base 1 "BadRule" "part") (x_BadWeaving : XN P w K mg base 1 "BadWeaving" "at") (x_Refused : XN P w K mg base 1 "Refused" "deed") (F : FunD K "_law_kind" "_law_kind" (defArgs s_law_kind) (defBody s_law_kind) (defScope s_law_kind) [] [] f fd) (hg : mg "_law_kind" = some (.ref f)) : FN P w K mg base 9 4 "_law_kind" m_law_kind := by
  refine ⟨f, fd, ["_law_rule_here", "_law_calendar_here", "_law_what", "_law_thing"], ?_, hg, F.kp, F.bindsN fun _ _ _ _ _ _ us hl => match us, hl with | [_, _, _, _], _ => rfl⟩
  refine F.ok sc_m_law_kind (fun vs H Q E h => h.1) (fun cdv A outer s H vs Q E hr h => body_ok (m := (mSeq m_law_kind_s0 (mSeq m_law_kind_s1 m_law_kind_s8))) (by decide) ?_ h)
  exact (sss_cons (sset 4 sc_m_law_kind.nd se_non) (sss_cons (ss_tryX rfl rfl sc_m_law_kind.nd takes_cx (by exact (HdsMX.named (i := 5) (j := 4) (k := 0) (c := "BadRule") rfl rfl ⟨rfl, by decide, .inl g.gc_BadRule⟩ (manyC_ok g.xm_BadRule_BadRule (by intro r hr; simp only [List.mem_cons, List.not_mem_nil, or_false] at hr; rcases hr with hr | hr | hr | hr | hr | hr | hr | hr; all_goals subst hr; first | exact g.xn_BadDeed_BadRule | exact g.xn_BadFault_BadRule | exact g.xn_BadSeries_BadRule | exact g.xn_NothingDone_BadRule | exact g.xn_BadLine_BadRule | exact g.xn_Refused_BadRule | exact g.xn_BadWorld_BadRule | exact g.xn_BadWeaving_BadRule)) manyC_is g.xf_BadRule g.n_BadRule_part rfl rfl (by decide) (by decide) rfl rfl rfl rfl (HdsMX.plain ⟨rfl, by decide, .inl g.gc_BadDeed⟩ (manyC_ok g.xm_BadDeed_BadDeed (by intro r hr; simp only [List.mem_cons, List.not_mem_nil, or_false] at hr; rcases hr with hr | hr | hr | hr | hr | hr | hr; all_goals subst hr; first | exact g.xn_BadFault_BadDeed | exact g.xn_BadSeries_BadDeed | exact g.xn_NothingDone_BadDeed | exact g.xn_BadLine_BadDeed | exact g.xn_Refused_BadDeed | exact g.xn_BadWorld_BadDeed | exact g.xn_BadWeaving_BadDeed)) (fun _ _ => (sss_one (sset 4 sc_m_law_kind.nd (se_lst (sa_cons se_int (sa_cons se_non sa_nil)) (lenCons (lenCons lenNil)) (by decide))))) (HdsMX.plain ⟨rfl, by decide, .inl g.gc_BadFault⟩ (manyC_ok g.xm_BadFault_BadFault (by intro r hr; simp only [List.mem_cons, List.not_mem_nil, or_false] at hr; rcases hr with hr | hr | hr | hr | hr | hr; all_goals subst hr; first | exact g.xn_BadSeries_BadFault | exact g.xn_NothingDone_BadFault | exact g.xn_BadLine_BadFault | exact g.xn_Refused_BadFault | exact g.xn_BadWorld_BadFault | exact g.xn_BadWeaving_BadFault)) (fun _ _ => (sss_one (sset 4 sc_m_law_kind.nd (se_lst (sa_cons se_int (sa_cons se_non sa_nil)) (lenCons (lenCons lenNil)) (by decide))))) (HdsMX.plain ⟨rfl, by decide, .inl g.gc_BadSeries⟩ (manyC_ok g.xm_BadSeries_BadSeries (by intro r hr; simp only [List.mem_cons, List.not_mem_nil, or_false] at hr; rcases hr with hr | hr | hr | hr | hr; all_goals subst hr; first | exact g.xn_NothingDone_BadSeries | exact g.xn_BadLine_BadSeries | exact g.xn_Refused_BadSeries | exact g.xn_BadWorld_BadSeries | exact g.xn_BadWeaving_BadSeries)) (fun _ _ => (sss_one (sset 4 sc_m_law_kind.nd (se_lst (sa_cons se_int (sa_cons se_non sa_nil)) (lenCons (lenCons lenNil)) (by decide))))) (HdsMX.plain ⟨rfl, by decide, .inl g.gc_NothingDone⟩ (manyC_ok g.xm_NothingDone_NothingDone (by intro r hr; simp only [List.mem_cons, List.not_mem_nil, or_false] at hr; rcases hr with hr | hr | hr | hr; all_goals subst hr; first | exact g.xn_BadLine_NothingDone | exact g.xn_Refused_NothingDone | exact g.xn_BadWorld_NothingDone | exact g.xn_BadWeaving_NothingDone)) (fun _ _ => (sss_one (sset 4 sc_m_law_kind.nd (se_lst (sa_cons se_int (sa_cons se_non sa_nil)) (lenCons (lenCons lenNil)) (by decide))))) (HdsMX.named (i := 5) (j := 4) (k := 5) (c := "BadLine") rfl rfl ⟨rfl, by decide, .inl g.gc_BadLine⟩ (manyC_ok g.xm_BadLine_BadLine (by intro r hr; simp only [List.mem_cons, List.not_mem_nil, or_false] at hr; rcases hr with hr | hr | hr; all_goals subst hr; first | exact g.xn_Refused_BadLine | exact g.xn_BadWorld_BadLine | exact g.xn_BadWeaving_BadLine)) manyC_is g.xf_BadLine g.n_BadLine_line rfl rfl (by decide) (by decide) rfl rfl rfl rfl (HdsMX.named (i := 5) (j := 4) (k := 6) (c := "Refused") rfl rfl ⟨rfl, by decide, .inl g.gc_Refused⟩ (manyC_ok g.xm_Refused_Refused (by intro r hr; simp only [List.mem_cons, List.not_mem_nil, or_false] at hr; rcases hr with hr | hr; all_goals subst hr; first | exact g.xn_BadWorld_Refused | exact g.xn_BadWeaving_Refused)) manyC_is g.xf_Refused g.n_Refused_deed rfl rfl (by decide) (by decide) rfl rfl rfl rfl (HdsMX.plain ⟨rfl, by decide, .inl g.gc_BadWorld⟩ (manyC_ok g.xm_BadWorld_BadWorld (by intro r hr; simp only [List.mem_cons, List.not_mem_nil, or_false] at hr; rcases hr with hr; all_goals subst hr; first | exact g.xn_BadWeaving_BadWorld)) (fun _ _ => (sss_one (sset 4 sc_m_law_kind.nd (se_lst (sa_cons se_int (sa_cons se_non sa_nil)) (lenCons (lenCons lenNil)) (by decide))))) (HdsMX.named (i := 5) (j := 4) (k := 8) (c := "BadWeaving") rfl rfl ⟨rfl, by decide, .inl g.gc_BadWeaving⟩ (manyC_ok g.xm_BadWeaving_BadWeaving (by intro r hr; simp at hr)) manyC_is g.xf_BadWeaving g.n_BadWeaving_at rfl rfl (by decide) (by decide) rfl rfl rfl rfl HdsMX.nil)))))))))) (fun _ _ _ tk pp => (sss_one (ss_expr (se_callN h_law_call hr (by decide) rfl tk (sa_cons (sv 0) (sa_cons (sv 1) (sa_cons (sv 2) (sa_cons (sv 3) sa_nil)))) (lenCons (lenCons (lenCons (lenCons lenNil))))))))) (sss_one (ss_ret (sv 4)))))
def m_Calendar___init___s0 : MS := (mFset "Calendar" "rule" (mVar 1) (mVar 0))
def m_Calendar___init___s1 : MS := (mFset "Calendar" "days" (mVar 2) (mVar 0))
def m_Calendar___init___s2 : MS := (mFset "Calendar" "hours" (mVar 3) (mVar 0))
def m_Calendar___init___s3 : MS := (mFset "Calendar" "rows" (mCell mNil) (mVar 0))
def m_Calendar___init___s4 : MS := (mFset "Calendar" "before" (mCell mNil) (mVar 0))
def m_Calendar___init___s5 : MS := (mFset "Calendar" "seen" (mCell mNil) (mVar 0))
def m_Calendar___init___s6 : MS := (mFset "Calendar" "rooms" (fun _ S => mkDT false [] [] S) (mVar 0))
def m_Calendar___init___s7 : MS := (mFset "Calendar" "persons" (fun _ S => mkDT false [] [] S) (mVar 0))
def m_Calendar___init___s8 : MS := (mFset "Calendar" "done" (mCell mNil) (mVar 0))
def m_Calendar___init__ : MF := mFn 4 ((mSeq m_Calendar___init___s0 (mSeq m_Calendar___init___s1 (mSeq m_Calendar___init___s2 (mSeq m_Calendar___init___s3 (mSeq m_Calendar___init___s4 (mSeq m_Calendar___init___s5 (mSeq m_Calendar___init___s6 (mSeq m_Calendar___init___s7 m_Calendar___init___s8)))))))))
theorem sc_m_Calendar___init__ : FnScope ["self", "rule", "days", "hours"] ["self", "rule", "days", "hours"] (defScope s_Calendar___init__) := ⟨rfl, rfl, rfl, by decide +kernel, rfl, by decide +kernel, by decide +kernel⟩
theorem ok_Calendar___init__ {P : Program} {w : PySem.World} {K : PySem.W.Frag} {mg : Str → Option Value} {base : Heap} {fd : FuncData} (g : Gs K mg) (F : FunD K "__init__" "Calendar.__init__" (defArgs s_Calendar___init__) (defBody s_Calendar___init__) (defScope s_Calendar___init__) [] [] (He.ma K (He.ga K "Calendar") "__init__") fd) : MN P w K mg base 1 4 "Calendar" "__init__" m_Calendar___init__ := by
  refine ⟨fd, ["self", "rule", "days", "hours"], ?_, F.bindsN fun _ _ _ _ _ _ us hl => match us, hl with | [_, _, _, _], _ => rfl⟩
  refine F.ok sc_m_Calendar___init__ (fun vs H Q E h => h.1) (fun cdv A outer s H vs Q E hr h => body_ok (m := (mSeq m_Calendar___init___s0 (mSeq m_Calendar___init___s1 (mSeq m_Calendar___init___s2 (mSeq m_Calendar___init___s3 (mSeq m_Calendar___init___s4 (mSeq m_Calendar___init___s5 (mSeq m_Calendar___init___s6 (mSeq m_Calendar___init___s7 m_Calendar___init___s8))))))))) (by decide) ?_ h)
  exact (sss_cons (ss_fset g.c_Calendar g.n_Calendar_rule (sv 1) (sv 0)) (sss_cons (ss_fset g.c_Calendar g.n_Calendar_days (sv 2) (sv 0)) (sss_cons (ss_fset g.c_Calendar g.n_Calendar_hours (sv 3) (sv 0)) (sss_cons (ss_fset g.c_Calendar g.n_Calendar_rows (se_cell sa_nil lenNil (by decide)) (sv 0)) (sss_cons (ss_fset g.c_Calendar g.n_Calendar_before (se_cell sa_nil lenNil (by decide)) (sv 0)) (sss_cons (ss_fset g.c_Calendar g.n_Calendar_seen (se_cell sa_nil lenNil (by decide)) (sv 0)) (sss_cons (ss_fset g.c_Calendar g.n_Calendar_rooms (se_dnewT (fr := false)) (sv 0)) (sss_cons (ss_fset g.c_Calendar g.n_Calendar_persons (se_dnewT (fr := false)) (sv 0)) (sss_one (ss_fset g.c_Calendar g.n_Calendar_done (se_cell sa_nil lenNil (by decide)) (sv 0)))))))))))
def m_law_calendar_s0 : MS := (mAsg (mCallF (makM "Calendar" m_Calendar___init__) (mCons (mVar 0) (mCons (mC (.int 2)) (mCons (mC (.int 3)) mNil)))) (tgName 2))
def m_law_calendar_s1 : MS := (mDrop (mMeth "Calendar" "add" m_Calendar_add (mVar 2) (mCons (mC (.int 0)) (mCons (mC (.int 0)) mNil))))
def m_law_calendar_s3 : MS := (mDrop (mMeth "Calendar" "undo" m_Calendar_undo (mVar 2) mNil))
def m_law_calendar_s2 : MS := (mIfS (mTest (mOp eqM (mVar 1) (mC (.int 4)))) m_law_calendar_s3 mNext)
def m_law_calendar_s4 : MS := (mRet (mVar 2))
def m_law_calendar : MF := mFn 3 ((mSeq m_law_calendar_s0 (mSeq m_law_calendar_s1 (mSeq m_law_calendar_s2 m_law_calendar_s4))))
theorem sc_m_law_calendar : FnScope ["_law_rule_here", "_law_what", "_law_calendar_here"] ["_law_rule_here", "_law_what"] (defScope s_law_calendar) := ⟨rfl, rfl, rfl, by decide +kernel, rfl, by decide +kernel, by decide +kernel⟩
theorem ok_law_calendar {P : Program} {w : PySem.World} {K : PySem.W.Frag} {mg : Str → Option Value} {base : Heap} {f : Addr} {fd : FuncData} (g : Gs K mg) (h_Calendar___init__ : MN P w K mg base 1 4 "Calendar" "__init__" m_Calendar___init__) (h_Calendar_add : MN P w K mg base 3 3 "Calendar" "add" m_Calendar_add) (h_Calendar_undo : MN P w K mg base 3 1 "Calendar" "undo" m_Calendar_undo) (F : FunD K "_law_calendar" "_law_calendar" (defArgs s_law_calendar) (defBody s_law_calendar) (defScope s_law_calendar) [] [] f fd) (hg : mg "_law_calendar" = some (.ref f)) : FN P w K mg base 4 2 "_law_calendar" m_law_calendar := by
  refine ⟨f, fd, ["_law_rule_here", "_law_what"], ?_, hg, F.kp, F.bindsN fun _ _ _ _ _ _ us hl => match us, hl with | [_, _], _ => rfl⟩
  refine F.ok sc_m_law_calendar (fun vs H Q E h => h.1) (fun cdv A outer s H vs Q E hr h => body_ok (m := (mSeq m_law_calendar_s0 (mSeq m_law_calendar_s1 (mSeq m_law_calendar_s2 m_law_calendar_s4)))) (by decide) ?_ h)
  exact (sss_cons (sset 2 sc_m_law_calendar.nd (se_makeN h_Calendar___init__ g.mk_Calendar g.gc_Calendar hr (by decide) rfl takes_cx (sa_cons (sv 0) (sa_cons se_int (sa_cons se_int sa_nil))) (lenCons (lenCons (lenCons lenNil))))) (sss_cons (ss_expr (se_methN h_Calendar_add g.c_Calendar g.m_Calendar_add hr (by decide) takes_cx (sv 2) (sa_cons se_int (sa_cons se_int sa_nil)) (lenCons (lenCons lenNil)))) (sss_cons (ss_if (st_cmp (opM_eq (Room.u64 hr)) pu_eq (nomark _) (sv 1) se_int) (sss_one (ss_expr (se_methN0 h_Calendar_undo g.c_Calendar g.m_Calendar_undo hr (by decide) takes_cx (sv 2)))) sss_nil) (sss_one (ss_ret (sv 2))))))
noncomputable def m_law_under_s0 : MS := (mAsg (mC (.bl false)) (tgName 4))
noncomputable def m_law_under_s2 : MS := (mDrop (mCallF m_law_call (mCons (mVar 0) (mCons (mVar 1) (mCons (mVar 2) (mCons (mVar 3) mNil))))))
noncomputable def m_law_under_s3 : MS := (mAsg (mC (.bl true)) (tgName 4))
noncomputable def m_law_under_s1 : MS := (mTry (baseC ["BadWorld", "BadFault", "BadSeries", "BadDeed", "NothingDone", "BadRule", "BadWeaving", "Refused", "BadLine"]) m_law_under_s2 m_law_under_s3)
noncomputable def m_law_under_s4 : MS := (mRet (mVar 4))
noncomputable def m_law_under : MF := mFn 5 ((mSeq m_law_under_s0 (mSeq m_law_under_s1 m_law_under_s4)))
theorem sc_m_law_under : FnScope ["_law_rule_here", "_law_calendar_here", "_law_what", "_law_thing", "_law_told"] ["_law_rule_here", "_law_calendar_here", "_law_what", "_law_thing"] (defScope s_law_under) := ⟨rfl, rfl, rfl, by decide +kernel, rfl, by decide +kernel, by decide +kernel⟩
theorem ok_law_under {P : Program} {w : PySem.World} {K : PySem.W.Frag} {mg : Str → Option Value} {base : Heap} {f : Addr} {fd : FuncData} (g : Gs K mg) (h_law_call : FN P w K mg base 8 4 "_law_call" m_law_call) (x_BadLine : XN P w K mg base 1 "BadLine" "line") (x_BadRule : XN P w K mg base 1 "BadRule" "part") (x_BadWeaving : XN P w K mg base 1 "BadWeaving" "at") (x_Refused : XN P w K mg base 1 "Refused" "deed") (F : FunD K "_law_under" "_law_under" (defArgs s_law_under) (defBody s_law_under) (defScope s_law_under) [] [] f fd) (hg : mg "_law_under" = some (.ref f)) : FN P w K mg base 9 4 "_law_under" m_law_under := by
  refine ⟨f, fd, ["_law_rule_here", "_law_calendar_here", "_law_what", "_law_thing"], ?_, hg, F.kp, F.bindsN fun _ _ _ _ _ _ us hl => match us, hl with | [_, _, _, _], _ => rfl⟩
  refine F.ok sc_m_law_under (fun vs H Q E h => h.1) (fun cdv A outer s H vs Q E hr h => body_ok (m := (mSeq m_law_under_s0 (mSeq m_law_under_s1 m_law_under_s4))) (by decide) ?_ h)
  exact (sss_cons (sset 4 sc_m_law_under.nd se_bl) (sss_cons (ss_try (ct := (baseC ["BadWorld", "BadFault", "BadSeries", "BadDeed", "NothingDone", "BadRule", "BadWeaving", "Refused", "BadLine"])) rfl rfl ⟨rfl, by decide, .inl g.gc_SeriesError⟩ takes_cx (baseC_ok (by intro r hr; simp only [List.mem_cons, List.not_mem_nil, or_false] at hr; rcases hr with hr | hr | hr | hr | hr | hr | hr | hr | hr; all_goals subst hr; first | exact g.xb_BadWorld_SeriesError | exact g.xb_BadFault_SeriesError | exact g.xb_BadSeries_SeriesError | exact g.xb_BadDeed_SeriesError | exact g.xb_NothingDone_SeriesError | exact g.xb_BadRule_SeriesError | exact g.xb_BadWeaving_SeriesError | exact g.xb_Refused_SeriesError | exact g.xb_BadLine_SeriesError)) (fun _ _ _ tk pp => (sss_one (ss_expr (se_callN h_law_call hr (by decide) rfl tk (sa_cons (sv 0) (sa_cons (sv 1) (sa_cons (sv 2) (sa_cons (sv 3) sa_nil)))) (lenCons (lenCons (lenCons (lenCons lenNil)))))))) (fun _ _ => (sss_one (sset 4 sc_m_law_under.nd se_bl)))) (sss_one (ss_ret (sv 4)))))
noncomputable def m_law_s0 : MS := (mAsg (mCallF m_law_begin (mCons (mVar 0) mNil)) (tgName 1))
noncomputable def m_law_s1 : MS := (mAsg (mCallF m_law_rule (mCons (mCallF m_law_parts (mCons (mVar 1) mNil)) mNil)) (tgName 2))
noncomputable def m_law_s2 : MS := (mAsg (mCallF m_law_draw (mCons (mVar 1) (mCons (mC (.int 9)) mNil))) (tgName 3))
noncomputable def m_law_s3 : MS := (mAsg (mCallF m_law_draw (mCons (mVar 1) (mCons (mC (.int 8)) mNil))) (tgName 4))
noncomputable def m_law_s4 : MS := (mAsg (mLst (mCons (mC .non) (mCons (mC (.int 0)) (mCons (mC (.str "kept")) (mCons (mC (.str "Move")) (mCons (mC (.str "")) (mCons (mTup mNil) (mCons (mC (.bl true)) (mCons (mLst (mCons (mC (.str "move")) mNil)) mNil))))))))) (tgName 5))
noncomputable def m_law_s5 : MS := (mAsg (mLst (mCons (mC .non) (mCons (mC (.str "off")) (mCons (mTup mNil) (mCons (mTup (mCons (mC (.str "off")) (mCons (mC (.int 0)) mNil))) (mCons (mLst (mCons (mC (.str "off")) (mCons (mC (.int 0)) (mCons (mC (.int 0)) mNil)))) (mCons (mTup (mCons (mC (.str "room")) (mCons (mC (.int 0)) (mCons (mC (.int 3)) mNil)))) (mCons (mTup (mCons (mC (.str "person")) (mCons (mC (.int 1)) mNil))) (mCons (mTup (mCons (mC (.str "one")) (mCons (mC (.int 0)) (mCons (mC (.int 2)) (mCons (mC (.int 0)) mNil))))) mNil))))))))) (tgName 6))
noncomputable def m_law_s6 : MS := (mAsg (mLst (mCons (mC .non) (mCons (mC (.str "room")) (mCons (mTup (mCons (mC (.str "room")) mNil)) (mCons (mLst (mCons (mC (.str "gone")) mNil)) (mCons (mLst (mCons (mC .non) mNil)) (mCons (mLst (mCons (mLst (mCons (mC (.str "room")) mNil)) mNil)) (mCons (mLst (mCons (mC (.str "room")) (mCons (mC (.str "ROOM")) mNil))) (mCons (fun _ S => mkD true [] [] S) mNil))))))))) (tgName 7))
noncomputable def m_law_s7 : MS := (mAsg (mLst (mCons (mC .non) (mCons (mC (.int (-1))) (mCons (mC (.bl true)) (mCons (mC (.str "0")) (mCons (mTup mNil) (mCons (mLst (mCons (mC (.int 0)) mNil)) (mCons (fun _ S => mkD true [] [] S) (mCons (mC (.bl false)) mNil))))))))) (tgName 8))
noncomputable def m_law_s8 : MS := (mAsg (mLst (mCons (mC (.int 0)) (mCons (mC (.int 1)) (mCons (mC .non) (mCons (mC (.bl true)) (mCons (mC (.str "0")) (mCons (mC (.int (-1))) (mCons (mTup mNil) (mCons (mC (.bl false)) mNil))))))))) (tgName 9))
noncomputable def m_law_s9 : MS := (mAsg (mLst (mCons (mOp idxM (mVar 5) (mVar 4)) (mCons (mOp idxM (mVar 6) (mVar 4)) (mCons (mOp idxM (mVar 7) (mVar 4)) (mCons (mOp idxM (mVar 8) (mVar 4)) (mCons (mC .non) (mCons (mC .non) (mCons (mC .non) (mCons (mC .non) (mCons (mOp idxM (mVar 9) (mVar 4)) mNil)))))))))) (tgName 10))
noncomputable def m_law_s10 : MS := (mAsg (mLst (mCons (mC (.str "singles")) (mCons (mC .non) (mCons (mC .non) (mCons (mC .non) (mCons (mC .non) (mCons (mC (.int 1)) (mCons (mTup (mCons (mC (.str "add")) (mCons (mC (.int 0)) (mCons (mC (.int 0)) mNil)))) (mCons (mC .non) (mCons (mC (.int 1)) mNil)))))))))) (tgName 11))
noncomputable def m_law_s12 : MS := (mRet (mC (.bl false)))
noncomputable def m_law_s11 : MS := (mIfS (mTest (mOp neM (mCallF m_law_kind (mCons (mVar 2) (mCons (mCallF m_law_calendar (mCons (mVar 2) (mCons (mVar 3) mNil))) (mCons (mVar 3) (mCons (mOp idxM (mVar 10) (mVar 3)) mNil))))) (mLst (mCons (mVar 3) (mCons (mOp idxM (mVar 11) (mVar 3)) mNil))))) m_law_s12 mNext)
noncomputable def m_law_s13 : MS := (mRet (mCallF m_law_under (mCons (mVar 2) (mCons (mCallF m_law_calendar (mCons (mVar 2) (mCons (mVar 3) mNil))) (mCons (mVar 3) (mCons (mOp idxM (mVar 10) (mVar 3)) mNil))))))
noncomputable def m_law : MF := mFn 12 ((mSeq m_law_s0 (mSeq m_law_s1 (mSeq m_law_s2 (mSeq m_law_s3 (mSeq m_law_s4 (mSeq m_law_s5 (mSeq m_law_s6 (mSeq m_law_s7 (mSeq m_law_s8 (mSeq m_law_s9 (mSeq m_law_s10 (mSeq m_law_s11 m_law_s13)))))))))))))
theorem sc_m_law : FnScope ["_law_script", "_law_draws", "_law_rule_here", "_law_what", "_law_at", "_law_odd", "_law_deeds", "_law_faults", "_law_people", "_law_hands", "_law_things", "_law_fields"] ["_law_script"] (defScope s_law) := ⟨rfl, rfl, rfl, by decide +kernel, rfl, by decide +kernel, by decide +kernel⟩
theorem ok_law {P : Program} {w : PySem.World} {K : PySem.W.Frag} {mg : Str → Option Value} {base : Heap} {f : Addr} {fd : FuncData} (g : Gs K mg) (h_law_begin : FN P w K mg base 1 1 "_law_begin" m_law_begin) (h_law_rule : FN P w K mg base 5 1 "_law_rule" m_law_rule) (h_law_parts : FN P w K mg base 2 1 "_law_parts" m_law_parts) (h_law_draw : FN P w K mg base 1 2 "_law_draw" m_law_draw) (h_law_kind : FN P w K mg base 9 4 "_law_kind" m_law_kind) (h_law_calendar : FN P w K mg base 4 2 "_law_calendar" m_law_calendar) (h_law_under : FN P w K mg base 9 4 "_law_under" m_law_under) (F : FunD K "law" "law" (defArgs s_law) (defBody s_law) (defScope s_law) [] [] f fd) : FnOk P w K mg base (L2.CX P w) 10 f fd ["_law_script"] (spM w K 1 m_law) := by
  refine F.ok sc_m_law (fun vs H Q E h => h.1) (fun cdv A outer s H vs Q E hr h => body_ok (m := (mSeq m_law_s0 (mSeq m_law_s1 (mSeq m_law_s2 (mSeq m_law_s3 (mSeq m_law_s4 (mSeq m_law_s5 (mSeq m_law_s6 (mSeq m_law_s7 (mSeq m_law_s8 (mSeq m_law_s9 (mSeq m_law_s10 (mSeq m_law_s11 m_law_s13))))))))))))) (by decide) ?_ h)
  exact (sss_cons (sset 1 sc_m_law.nd (se_callN h_law_begin hr (by decide) rfl takes_cx (sa_cons (sv 0) sa_nil) (lenCons lenNil))) (sss_cons (sset 2 sc_m_law.nd (se_callN h_law_rule hr (by decide) rfl takes_cx (sa_cons (se_callN h_law_parts hr (by decide) rfl takes_cx (sa_cons (sv 1) sa_nil) (lenCons lenNil)) sa_nil) (lenCons lenNil))) (sss_cons (sset 3 sc_m_law.nd (se_callN h_law_draw hr (by decide) rfl takes_cx (sa_cons (sv 1) (sa_cons se_int sa_nil)) (lenCons (lenCons lenNil)))) (sss_cons (sset 4 sc_m_law.nd (se_callN h_law_draw hr (by decide) rfl takes_cx (sa_cons (sv 1) (sa_cons se_int sa_nil)) (lenCons (lenCons lenNil)))) (sss_cons (sset 5 sc_m_law.nd (se_lst (sa_cons se_non (sa_cons se_int (sa_cons se_str (sa_cons se_str (sa_cons se_str (sa_cons (se_tup sa_nil lenNil (by decide)) (sa_cons se_bl (sa_cons (se_lst (sa_cons se_str sa_nil) (lenCons lenNil) (by decide)) sa_nil)))))))) (lenCons (lenCons (lenCons (lenCons (lenCons (lenCons (lenCons (lenCons lenNil)))))))) (by decide))) (sss_cons (sset 6 sc_m_law.nd (se_lst (sa_cons se_non (sa_cons se_str (sa_cons (se_tup sa_nil lenNil (by decide)) (sa_cons (se_tup (sa_cons se_str (sa_cons se_int sa_nil)) (lenCons (lenCons lenNil)) (by decide)) (sa_cons (se_lst (sa_cons se_str (sa_cons se_int (sa_cons se_int sa_nil))) (lenCons (lenCons (lenCons lenNil))) (by decide)) (sa_cons (se_tup (sa_cons se_str (sa_cons se_int (sa_cons se_int sa_nil))) (lenCons (lenCons (lenCons lenNil))) (by decide)) (sa_cons (se_tup (sa_cons se_str (sa_cons se_int sa_nil)) (lenCons (lenCons lenNil)) (by decide)) (sa_cons (se_tup (sa_cons se_str (sa_cons se_int (sa_cons se_int (sa_cons se_int sa_nil)))) (lenCons (lenCons (lenCons (lenCons lenNil)))) (by decide)) sa_nil)))))))) (lenCons (lenCons (lenCons (lenCons (lenCons (lenCons (lenCons (lenCons lenNil)))))))) (by decide))) (sss_cons (sset 7 sc_m_law.nd (se_lst (sa_cons se_non (sa_cons se_str (sa_cons (se_tup (sa_cons se_str sa_nil) (lenCons lenNil) (by decide)) (sa_cons (se_lst (sa_cons se_str sa_nil) (lenCons lenNil) (by decide)) (sa_cons (se_lst (sa_cons se_non sa_nil) (lenCons lenNil) (by decide)) (sa_cons (se_lst (sa_cons (se_lst (sa_cons se_str sa_nil) (lenCons lenNil) (by decide)) sa_nil) (lenCons lenNil) (by decide)) (sa_cons (se_lst (sa_cons se_str (sa_cons se_str sa_nil)) (lenCons (lenCons lenNil)) (by decide)) (sa_cons (se_dnew (fr := true)) sa_nil)))))))) (lenCons (lenCons (lenCons (lenCons (lenCons (lenCons (lenCons (lenCons lenNil)))))))) (by decide))) (sss_cons (sset 8 sc_m_law.nd (se_lst (sa_cons se_non (sa_cons (se_neg) (sa_cons se_bl (sa_cons se_str (sa_cons (se_tup sa_nil lenNil (by decide)) (sa_cons (se_lst (sa_cons se_int sa_nil) (lenCons lenNil) (by decide)) (sa_cons (se_dnew (fr := true)) (sa_cons se_bl sa_nil)))))))) (lenCons (lenCons (lenCons (lenCons (lenCons (lenCons (lenCons (lenCons lenNil)))))))) (by decide))) (sss_cons (sset 9 sc_m_law.nd (se_lst (sa_cons se_int (sa_cons se_int (sa_cons se_non (sa_cons se_bl (sa_cons se_str (sa_cons (se_neg) (sa_cons (se_tup sa_nil lenNil (by decide)) (sa_cons se_bl sa_nil)))))))) (lenCons (lenCons (lenCons (lenCons (lenCons (lenCons (lenCons (lenCons lenNil)))))))) (by decide))) (sss_cons (sset 10 sc_m_law.nd (se_lst (sa_cons (se_ix (Room.u1 hr) (fun _ _ => rfl) (sv 5) (sv 4) pu_ix) (sa_cons (se_ix (Room.u1 hr) (fun _ _ => rfl) (sv 6) (sv 4) pu_ix) (sa_cons (se_ix (Room.u1 hr) (fun _ _ => rfl) (sv 7) (sv 4) pu_ix) (sa_cons (se_ix (Room.u1 hr) (fun _ _ => rfl) (sv 8) (sv 4) pu_ix) (sa_cons se_non (sa_cons se_non (sa_cons se_non (sa_cons se_non (sa_cons (se_ix (Room.u1 hr) (fun _ _ => rfl) (sv 9) (sv 4) pu_ix) sa_nil))))))))) (lenCons (lenCons (lenCons (lenCons (lenCons (lenCons (lenCons (lenCons (lenCons lenNil))))))))) (by decide))) (sss_cons (sset 11 sc_m_law.nd (se_lst (sa_cons se_str (sa_cons se_non (sa_cons se_non (sa_cons se_non (sa_cons se_non (sa_cons se_int (sa_cons (se_tup (sa_cons se_str (sa_cons se_int (sa_cons se_int sa_nil))) (lenCons (lenCons (lenCons lenNil))) (by decide)) (sa_cons se_non (sa_cons se_int sa_nil))))))))) (lenCons (lenCons (lenCons (lenCons (lenCons (lenCons (lenCons (lenCons (lenCons lenNil))))))))) (by decide))) (sss_cons (ss_if (st_cmp (opM_ne (Room.u64 hr)) pu_ne (nomark _) (se_callN h_law_kind hr (by decide) rfl takes_cx (sa_cons (sv 2) (sa_cons (se_callN h_law_calendar hr (by decide) rfl takes_cx (sa_cons (sv 2) (sa_cons (sv 3) sa_nil)) (lenCons (lenCons lenNil))) (sa_cons (sv 3) (sa_cons (se_ix (Room.u1 hr) (fun _ _ => rfl) (sv 10) (sv 3) pu_ix) sa_nil)))) (lenCons (lenCons (lenCons (lenCons lenNil))))) (se_lst (sa_cons (sv 3) (sa_cons (se_ix (Room.u1 hr) (fun _ _ => rfl) (sv 11) (sv 3) pu_ix) sa_nil)) (lenCons (lenCons lenNil)) (by decide))) (sss_one (ss_ret se_bl)) sss_nil) (sss_one (ss_ret (se_callN h_law_under hr (by decide) rfl takes_cx (sa_cons (sv 2) (sa_cons (se_callN h_law_calendar hr (by decide) rfl takes_cx (sa_cons (sv 2) (sa_cons (sv 3) sa_nil)) (lenCons (lenCons lenNil))) (sa_cons (sv 3) (sa_cons (se_ix (Room.u1 hr) (fun _ _ => rfl) (sv 10) (sv 3) pu_ix) sa_nil)))) (lenCons (lenCons (lenCons (lenCons lenNil)))))))))))))))))))
end Lw
set_option Elab.async false
set_option linter.all false
set_option maxRecDepth 100000
set_option maxHeartbeats 4000000
namespace Mi
open PySem PySem.Spec PyProof.Rows L2
section
variable {ρ : Ev} {S : Sto} {a b c : ME} {m m' : MS} {ma : MA} {t u : MT} {d : MV} {i : Nat}
@[simp] theorem w_var' : mVar i ρ S = (match ρ[i]? with
  | some (some d) => .ok d S
  | _ => .stk) := rfl
@[simp] theorem w_c : mC d ρ S = .ok d S := rfl
@[simp] theorem w_op {f : MV → MV → Sto → R MV} : mOp f a b ρ S = (a ρ S).bind fun x S1 => (b ρ S1).bind fun y S2 => f x y S2 := rfl
@[simp] theorem w_test : mTest a ρ S = (a ρ S).bind toB := rfl
@[simp] theorem w_not : mNot t ρ S = (t ρ S).bind fun b S1 => .ok (!b) S1 := rfl
@[simp] theorem w_and : mAnd t u ρ S = (t ρ S).bind fun x S1 => if x then u ρ S1 else .ok false S1 := rfl
@[simp] theorem w_or : mOr t u ρ S = (t ρ S).bind fun x S1 => if x then .ok true S1 else u ρ S1 := rfl
@[simp] theorem w_andV : mAndV a b ρ S = (mTest a ρ S).bind fun x S1 => if x then b ρ S1 else .ok (.bl false) S1 := rfl
@[simp] theorem w_orV : mOrV a b ρ S = (mTest a ρ S).bind fun x S1 => if x then .ok (.bl true) S1 else b ρ S1 := rfl
@[simp] theorem w_notV : mNotV a ρ S = (mTest a ρ S).bind fun x S1 => .ok (.bl (!x)) S1 := rfl
@[simp] theorem w_if : mIf t a b ρ S = (t ρ S).bind fun x S1 => if x then a ρ S1 else b ρ S1 := rfl
@[simp] theorem w_nil : mNil ρ S = .ok [] S := rfl
@[simp] theorem w_cons : mCons a ma ρ S = (a ρ S).bind fun x S1 => (ma ρ S1).bind fun xs S2 => .ok (x :: xs) S2 := rfl
@[simp] theorem w_tup : mTup ma ρ S = (ma ρ S).bind fun xs S1 => .ok (.tup xs) S1 := rfl
@[simp] theorem w_lst : mLst ma ρ S = (ma ρ S).bind fun xs S1 => .ok (.lst xs) S1 := rfl
@[simp] theorem w_callF {f : List MV → Sto → R MV} : mCallF f ma ρ S = (ma ρ S).bind f := rfl
@[simp] theorem w_true : mTrue ρ S = .ok true S := rfl
@[simp] theorem w_toB {x : Bool} : toB (.bl x) S = .ok x S := rfl
@[simp] theorem w_next : mNext ρ S = .nx ρ S := rfl
@[simp] theorem w_ifS : mIfS t m m' ρ S = (t ρ S).thn ρ fun x S1 => if x then m ρ S1 else m' ρ S1 := rfl
@[simp] theorem w_ret : mRet a ρ S = (a ρ S).thn ρ fun d S1 => .rt d S1 := rfl
@[simp] theorem w_asg {g : Tg} : mAsg a g ρ S = (a ρ S).thn ρ fun d S1 => oS (g.f d ρ) S1 := rfl
@[simp] theorem w_name : (tgName i).f d ρ = some (ρ.set i (some d)) := rfl
@[simp] theorem w_oS {ρ' : Ev} : oS (some ρ') S = .nx ρ' S := rfl
@[simp] theorem w_toR {S1 : Sto} : toR (.rt d S1) = .ok d S1 := rfl
@[simp] theorem w_toRn : toR (.nx ρ S) = .ok .non S := rfl
end
theorem enmI_ty {α : Type} (enc : α → MV) : ∀ (xs : List α) (k : Nat), enmI k (xs.map enc) = (xs.zipIdx k).map fun x => .tup [.int (x.2 : Nat), enc x.1]
  | [], k => rfl
  | x :: xs, k => by rw [List.map_cons, enmI, enmI_ty enc xs (k + 1)]; rfl
theorem zipI_ty {α β : Type} (f : α → MV) (g : β → MV) : ∀ (xs : List α) (ys : List β), zipI (xs.map f) (ys.map g) = (xs.zip ys).map fun x => .tup [f x.1, g x.2]
  | [], ys => by simp [zipI]
  | x :: xs, [] => by simp [zipI]
  | x :: xs, y :: ys => by rw [List.map_cons, List.map_cons, zipI, zipI_ty f g xs ys]; rfl
def hv : Option Int → MV
  | none => .non
  | some i => .int i
@[simp] theorem eq_int {a b : Int} {S : Sto} : eqM (.int a) (.int b) S = .ok (.bl (decide (a = b))) S := by simp [eqM, eqB, scalM, seqM]
@[simp] theorem ne_int {a b : Int} {S : Sto} : neM (.int a) (.int b) S = .ok (.bl (!decide (a = b))) S := by simp [neM, eqB, scalM, seqM]
@[simp] theorem eq_str {a b : Str} {S : Sto} : eqM (.str a) (.str b) S = .ok (.bl (decide (a = b))) S := by simp [eqM, eqB, scalM, seqM]
@[simp] theorem ne_str {a b : Str} {S : Sto} : neM (.str a) (.str b) S = .ok (.bl (!decide (a = b))) S := by simp [neM, eqB, scalM, seqM]
@[simp] theorem eq_hv {a b : Option Int} {S : Sto} : eqM (hv a) (hv b) S = .ok (.bl (decide (a = b))) S := by
  cases a <;> cases b <;> simp [hv, eqM, eqB, scalM, seqM]
@[simp] theorem ne_hv {a b : Option Int} {S : Sto} : neM (hv a) (hv b) S = .ok (.bl (!decide (a = b))) S := by
  cases a <;> cases b <;> simp [hv, neM, eqB, scalM, seqM]
@[simp] theorem is_hv {a : Option Int} {S : Sto} : isM (hv a) .non S = .ok (.bl (decide (a = none))) S := by
  cases a <;> simp [hv, isM, isB]
@[simp] theorem isn_hv {a : Option Int} {S : Sto} : isnM (hv a) .non S = .ok (.bl (!decide (a = none))) S := by
  cases a <;> simp [hv, isnM, isB]
theorem atI_nat {xs : List MV} {d : Nat} {x : MV} (h : xs[d]? = some x) : atI xs (d : Int) = some x := by
  have hl := (List.getElem?_eq_some_iff.mp h).1
  have e : ixN xs.length (d : Int) = some d := by
    unfold ixN
    simp
    omega
  unfold atI
  rw [e]; exact h
theorem ix_tup {xs : List MV} {d : Nat} {x : MV} {S : Sto} (h : xs[d]? = some x) : idxM (.tup xs) (.int (d : Int)) S = .ok x S := by
  unfold idxM; simp only [seqOf]; rw [atI_nat h]
theorem ix_lst {xs : List MV} {d : Nat} {x : MV} {S : Sto} (h : xs[d]? = some x) : idxM (.lst xs) (.int (d : Int)) S = .ok x S := by
  unfold idxM; simp only [seqOf, lstOf]; rw [atI_nat h]
@[simp] theorem w_wipe0 {ρ : Ev} : wipeE ρ [] = ρ := rfl
@[simp] theorem w_wipe1 {ρ : Ev} {v : Nat} {vs : List Nat} : wipeE ρ (v :: vs) = (wipeE ρ vs).set v none := rfl
theorem anyM_bl {xs : List Bool} {S : Sto} : anyM [.lst (xs.map MV.bl)] S = .ok (.bl (xs.any id)) S := by
  have : ∀ xs : List Bool, allBl (xs.map MV.bl) = some xs := fun xs => by
    induction xs with
    | nil => rfl
    | cons x xs ih => simp [allBl, ih]
  simp [anyM, overBl, lstOf, this]
theorem allM_bl {xs : List Bool} {S : Sto} : allM [.lst (xs.map MV.bl)] S = .ok (.bl (xs.all id)) S := by
  have : ∀ xs : List Bool, allBl (xs.map MV.bl) = some xs := fun xs => by
    induction xs with
    | nil => rfl
    | cons x xs ih => simp [allBl, ih]
  simp [allM, overBl, lstOf, this]
end Mi
set_option Elab.async false
set_option linter.all false
set_option maxRecDepth 100000
set_option maxHeartbeats 1000000
namespace Mi
open PySem PySem.Spec PyProof.Rows L2
def RS.nxt (r : RS) (k : Ev → Sto → RS) : RS := match r with
  | .nx ρ S => k ρ S
  | r => r
section
variable {ρ : Ev} {S : Sto} {a b c : ME} {m m' : MS} {ma : MA} {t u : MT} {d : MV} {i : Nat} {cl : Str} {k : Ev → Sto → RS}
@[simp] theorem nxt_nx : (RS.nx ρ S).nxt k = k ρ S := rfl
@[simp] theorem nxt_rt : (RS.rt d S).nxt k = .rt d S := rfl
@[simp] theorem nxt_exc : (RS.exc cl d ρ S).nxt k = .exc cl d ρ S := rfl
@[simp] theorem nxt_stk : RS.stk.nxt k = .stk := rfl
@[simp] theorem w_seq' : mSeq m m' ρ S = (m ρ S).nxt m' := by unfold mSeq RS.nxt; cases m ρ S <;> rfl
@[simp] theorem w_drop : mDrop a ρ S = (a ρ S).thn ρ fun _ S1 => .nx ρ S1 := rfl
@[simp] theorem w_stk : mStk ρ S = .stk := rfl
@[simp] theorem toR_exc : toR (.exc cl d ρ S) = .exc cl d S := rfl
@[simp] theorem toR_stk : toR .stk = .stk := rfl
@[simp] theorem w_src : mSrc a ρ S = (a ρ S).bind srcOf := rfl
@[simp] theorem w_rng : mRng ma ρ S = (ma ρ S).bind rngOf := rfl
@[simp] theorem w_rng2 : mRng2 ma ρ S = (ma ρ S).bind rng2Of := rfl
@[simp] theorem w_enum : mEnum ma ρ S = (ma ρ S).bind enmOf := rfl
@[simp] theorem w_zip2 : mZip2 ma ρ S = (ma ρ S).bind zp2Of := rfl
@[simp] theorem w_zip3 : mZip3 ma ρ S = (ma ρ S).bind zp3Of := rfl
@[simp] theorem w_ezip : mEzip ma ρ S = (ma ρ S).bind ezOf := rfl
@[simp] theorem w_for' {mi : Ev → Sto → R Src} {g : Tg} {body : MS} : mFor mi g body ρ S = (mi ρ S).thn ρ fun src S1 => forGo (fun S => src.ok S) g body src.items ρ S1 := rfl
@[simp] theorem w_lc' {fr : Bool} {vs : List Nat} {mi : Ev → Sto → R Src} {g : Tg} {tt : MT} {te : ME} : mLc fr vs mi g tt te ρ S = (mi ρ S).bind fun src S1 =>
  if src.items.length ≤ sizeLine then (lcGo (fun S => src.ok S) g tt te (wipeE ρ vs) src.items [] S1).bind (mkL fr) else .stk := rfl
@[simp] theorem w_mkLt {xs : List MV} : mkL true xs S = .ok (.lst xs) S := rfl
@[simp] theorem w_mkLf {xs : List MV} : mkL false xs S = .ok (.ref S.length) (S ++ [.lst xs]) := rfl
@[simp] theorem w_fld {c f : Str} : mFld c f a ρ S = (a ρ S).bind fun d S1 => fldM c f d S1 := rfl
@[simp] theorem w_slice {lo hi : Ev → Sto → R (Option Int)} : mSlice a lo hi ρ S = (a ρ S).bind fun d S1 => (lo ρ S1).bind fun l S2 => (hi ρ S2).bind fun h S3 => slcM d l h S3 := rfl
@[simp] theorem w_oNone : moNone ρ S = .ok none S := rfl
@[simp] theorem w_oSome : moSome a ρ S = (a ρ S).bind fun d S1 => match d with
  | .int i => .ok (some i) S1
  | _ => .stk := rfl
@[simp] theorem w_cell : mCell ma ρ S = (ma ρ S).bind fun xs S1 => .ok (.ref S1.length) (S1 ++ [.lst xs]) := rfl
@[simp] theorem w_truth : mTruth a ρ S = (a ρ S).bind truW := rfl
@[simp] theorem w_isi {t : String} : mIsi t a ρ S = (a ρ S).bind fun d S1 => isiM t [d] S1 := rfl
@[simp] theorem w_dct {fr : Bool} {ks : List Key} : mDct fr ks ma ρ S = (ma ρ S).bind fun ds S1 => mkD fr ks ds S1 := rfl
@[simp] theorem w_mkDt {ks : List Key} {ds : List MV} : mkD true ks ds S = .ok (.dct ks ds) S := rfl
@[simp] theorem w_mkDf {ks : List Key} {ds : List MV} : mkD false ks ds S = .ok (.ref S.length) (S ++ [.dct ks ds]) := rfl
@[simp] theorem w_chain {f g : MV → MV → Sto → R MV} : mChain f g a b c ρ S = (a ρ S).bind fun x S1 => (b ρ S1).bind fun y S2 => (f x y S2).bind fun z S3 => (toB z S3).bind fun k S4 =>
  if k then (c ρ S4).bind fun w S5 => g y w S5 else .ok (.bl false) S4 := rfl
@[simp] theorem bind_ite {α β : Type} {p : Prop} [Decidable p] {x y : R α} {f : α → Sto → R β} : (if p then x else y).bind f = if p then x.bind f else y.bind f := by split <;> rfl
@[simp] theorem thn_ite {α : Type} {p : Prop} [Decidable p] {x y : R α} {f : α → Sto → RS} : (if p then x else y).thn ρ f = if p then x.thn ρ f else y.thn ρ f := by split <;> rfl
@[simp] theorem nxt_ite {p : Prop} [Decidable p] {x y : RS} : (if p then x else y).nxt k = if p then x.nxt k else y.nxt k := by split <;> rfl
@[simp] theorem toR_ite {p : Prop} [Decidable p] {x y : RS} : toR (if p then x else y) = if p then toR x else toR y := by split <;> rfl
@[simp] theorem toB_ite {p : Prop} [Decidable p] {x y : MV} : toB (if p then x else y) S = if p then toB x S else toB y S := by split <;> rfl
end
@[simp] theorem str_inj {a b : String} : (Str.ofString a = Str.ofString b) ↔ a = b := by
  constructor
  · intro h
    rw [Str.ofString_eq_toList, Str.ofString_eq_toList] at h
    have h := congrArg (fun s => s.cps.toList) h
    simp only [List.map_inj_right (f := Char.toNat) (fun a b e => Char.toNat_inj.mp e)] at h
    exact String.toList_inj.mp h
  · rintro rfl; rfl
def fillF (J : List Nat) (f : Nat → Option MV) : Nat → Ev → Ev
  | _, [] => []
  | i, x :: xs => (if i ∈ J then f i else x) :: fillF J f (i + 1) xs
def SameE (J : List Nat) : Nat → Ev → Ev → Prop
  | _, [], [] => True
  | i, x :: xs, y :: ys => (i ∈ J ∨ x = y) ∧ SameE J (i + 1) xs ys
  | _, _, _ => False
theorem SameE.fill {J : List Nat} : ∀ {i : Nat} {ρ0 ρ : Ev}, SameE J i ρ0 ρ → ∃ f, ρ = fillF J f i ρ0
  | i, [], [], _ => ⟨fun _ => none, rfl⟩
  | i, [], _ :: _, h => h.elim
  | i, _ :: _, [], h => h.elim
  | i, x :: xs, y :: ys, h => by
    obtain ⟨f, e⟩ := SameE.fill (i := i + 1) h.2
    refine ⟨fun j => if j = i then y else f j, ?_⟩
    rw [fillF]
    have e2 : ∀ (xs : Ev) (k : Nat), i < k → fillF J (fun j => if j = i then y else f j) k xs = fillF J f k xs := by
      intro xs
      induction xs with
      | nil => intro k _; rfl
      | cons x xs ih =>
        intro k hk
        rw [fillF, fillF, ih (k + 1) (by omega)]
        have : ¬ k = i := by omega
        simp [this]
    rw [e2 xs (i + 1) (by omega), ← e]
    rcases h.1 with h1 | h1
    · simp [h1]
    · subst h1; by_cases hi : i ∈ J <;> simp [hi]
@[simp] theorem same_nil {J : List Nat} {i : Nat} : SameE J i [] [] := trivial
@[simp] theorem same_cons {J : List Nat} {i : Nat} {x y : Option MV} {xs ys : Ev} : SameE J i (x :: xs) (y :: ys) ↔ (i ∈ J ∨ x = y) ∧ SameE J (i + 1) xs ys := Iff.rfl
@[simp] theorem fill_nil {J : List Nat} {f : Nat → Option MV} {i : Nat} : fillF J f i [] = [] := rfl
@[simp] theorem fill_cons {J : List Nat} {f : Nat → Option MV} {i : Nat} {x : Option MV} {xs : Ev} : fillF J f i (x :: xs) = (if i ∈ J then f i else x) :: fillF J f (i + 1) xs := rfl
@[simp] theorem enmI_ty' {α : Type} (enc : α → MV) (xs : List α) (k : Nat) : enmI k (xs.map enc) = (xs.zipIdx k).map fun x => .tup [.int (x.2 : Nat), enc x.1] := enmI_ty enc xs k
@[simp] theorem zipI_ty' {α β : Type} (f : α → MV) (g : β → MV) (xs : List α) (ys : List β) : zipI (xs.map f) (ys.map g) = (xs.zip ys).map fun x => .tup [f x.1, g x.2] := zipI_ty f g xs ys
@[simp] theorem int_eq {a b : Nat} : ((a : Int) = (b : Int)) ↔ a = b := by omega
@[simp] theorem ev0_eq {N : Nat} {ds : List MV} : ev0 N ds = ds.map some ++ List.replicate (N - ds.length) none := rfl
/-- a turn of the loop: it returns d where b, else goes on, the slots the same outside of J -/
def Out (J : List Nat) (ρ0 : Ev) (S : Sto) (d : MV) (r : RS) (b : Bool) : Prop := match r with
  | .rt d' S' => b = true ∧ d' = d ∧ S' = S
  | .nx ρ S' => b = false ∧ SameE J 0 ρ0 ρ ∧ S' = S
  | _ => False
section
variable {J : List Nat} {ρ0 ρ : Ev} {S S' : Sto} {d d' : MV} {b : Bool}
@[simp] theorem out_rt : Out J ρ0 S d (.rt d' S') b ↔ b = true ∧ d' = d ∧ S' = S := Iff.rfl
@[simp] theorem out_nx : Out J ρ0 S d (.nx ρ S') b ↔ b = false ∧ SameE J 0 ρ0 ρ ∧ S' = S := Iff.rfl
@[simp] theorem out_ite {p : Prop} [Decidable p] {x y : RS} : Out J ρ0 S d (if p then x else y) b ↔ if p then Out J ρ0 S d x b else Out J ρ0 S d y b := by split <;> rfl
end
/-- run a target and a body -/
def turn (g : Tg) (body : MS) (x : MV) (ρ : Ev) (S : Sto) : RS := match g.f x ρ with
  | some ρ1 => body ρ1 S
  | none => .stk
@[simp] theorem turn_name {i : Nat} {body : MS} {x : MV} {ρ : Ev} {S : Sto} : turn (tgName i) body x ρ S = body (ρ.set i (some x)) S := rfl
@[simp] theorem turn_2 {i j : Nat} {body : MS} {x y : MV} {ρ : Ev} {S : Sto} : turn (tgTup (tgCons (tgName i) (tgCons (tgName j) tgNil))) body (.tup [x, y]) ρ S = body ((ρ.set i (some x)).set j (some y)) S := rfl
@[simp] theorem turn_3 {i j l : Nat} {body : MS} {x y z : MV} {ρ : Ev} {S : Sto} : turn (tgTup (tgCons (tgName i) (tgCons (tgName j) (tgCons (tgName l) tgNil)))) body (.tup [x, y, z]) ρ S = body (((ρ.set i (some x)).set j (some y)).set l (some z)) S := rfl
@[simp] theorem turn_12 {i j l : Nat} {body : MS} {x y z : MV} {ρ : Ev} {S : Sto} : turn (tgTup (tgCons (tgName i) (tgCons (tgTup (tgCons (tgName j) (tgCons (tgName l) tgNil))) tgNil))) body (.tup [x, .tup [y, z]]) ρ S = body (((ρ.set i (some x)).set j (some y)).set l (some z)) S := rfl
@[simp] theorem turn_13 {i j l q : Nat} {body : MS} {x y z w : MV} {ρ : Ev} {S : Sto} : turn (tgTup (tgCons (tgName i) (tgCons (tgTup (tgCons (tgName j) (tgCons (tgName l) (tgCons (tgName q) tgNil)))) tgNil))) body (.tup [x, .tup [y, z, w]]) ρ S = body ((((ρ.set i (some x)).set j (some y)).set l (some z)).set q (some w)) S := rfl
@[simp] theorem asg_2 {i j : Nat} {x y : MV} {ρ : Ev} : (tgTup (tgCons (tgName i) (tgCons (tgName j) tgNil))).f (.tup [x, y]) ρ = some ((ρ.set i (some x)).set j (some y)) := rfl
@[simp] theorem asg_3 {i j l : Nat} {x y z : MV} {ρ : Ev} : (tgTup (tgCons (tgName i) (tgCons (tgName j) (tgCons (tgName l) tgNil)))).f (.tup [x, y, z]) ρ = some (((ρ.set i (some x)).set j (some y)).set l (some z)) := rfl
@[simp] theorem asg_4 {i j l q : Nat} {x y z w : MV} {ρ : Ev} : (tgTup (tgCons (tgName i) (tgCons (tgName j) (tgCons (tgName l) (tgCons (tgName q) tgNil))))).f (.tup [x, y, z, w]) ρ = some ((((ρ.set i (some x)).set j (some y)).set l (some z)).set q (some w)) := rfl
@[simp] theorem asg_12 {i j l : Nat} {x y z : MV} {ρ : Ev} : (tgTup (tgCons (tgName i) (tgCons (tgTup (tgCons (tgName j) (tgCons (tgName l) tgNil))) tgNil))).f (.tup [x, .tup [y, z]]) ρ = some (((ρ.set i (some x)).set j (some y)).set l (some z)) := rfl
@[simp] theorem asg_13 {i j l q : Nat} {x y z w : MV} {ρ : Ev} : (tgTup (tgCons (tgName i) (tgCons (tgTup (tgCons (tgName j) (tgCons (tgName l) (tgCons (tgName q) tgNil)))) tgNil))).f (.tup [x, .tup [y, z, w]]) ρ = some ((((ρ.set i (some x)).set j (some y)).set l (some z)).set q (some w)) := rfl
def turnE {α : Type} (g : Tg) (te : Ev → Sto → R α) (x : MV) (ρ : Ev) (S : Sto) : R α := match g.f x ρ with
  | some ρ1 => te ρ1 S
  | none => .stk
section
variable {α : Type} {te : Ev → Sto → R α} {ρ : Ev} {S : Sto} {x y z w : MV} {i j l q : Nat}
@[simp] theorem turnE_name : turnE (tgName i) te x ρ S = te (ρ.set i (some x)) S := rfl
@[simp] theorem turnE_2 : turnE (tgTup (tgCons (tgName i) (tgCons (tgName j) tgNil))) te (.tup [x, y]) ρ S = te ((ρ.set i (some x)).set j (some y)) S := rfl
@[simp] theorem turnE_3 : turnE (tgTup (tgCons (tgName i) (tgCons (tgName j) (tgCons (tgName l) tgNil)))) te (.tup [x, y, z]) ρ S = te (((ρ.set i (some x)).set j (some y)).set l (some z)) S := rfl
@[simp] theorem turnE_12 : turnE (tgTup (tgCons (tgName i) (tgCons (tgTup (tgCons (tgName j) (tgCons (tgName l) tgNil))) tgNil))) te (.tup [x, .tup [y, z]]) ρ S = te (((ρ.set i (some x)).set j (some y)).set l (some z)) S := rfl
@[simp] theorem turnE_13 : turnE (tgTup (tgCons (tgName i) (tgCons (tgTup (tgCons (tgName j) (tgCons (tgName l) (tgCons (tgName q) tgNil)))) tgNil))) te (.tup [x, .tup [y, z, w]]) ρ S = te ((((ρ.set i (some x)).set j (some y)).set l (some z)).set q (some w)) S := rfl
end
section
variable {a b c d : MV} {xs : List MV} {S : Sto}
@[simp] theorem ix_t0 : idxM (.tup (a :: xs)) (.int 0) S = .ok a S := by simpa using ix_tup (xs := a :: xs) (d := 0) rfl
@[simp] theorem ix_t1 : idxM (.tup (a :: b :: xs)) (.int 1) S = .ok b S := by simpa using ix_tup (xs := a :: b :: xs) (d := 1) rfl
@[simp] theorem ix_t2 : idxM (.tup (a :: b :: c :: xs)) (.int 2) S = .ok c S := by simpa using ix_tup (xs := a :: b :: c :: xs) (d := 2) rfl
@[simp] theorem ix_t3 : idxM (.tup (a :: b :: c :: d :: xs)) (.int 3) S = .ok d S := by simpa using ix_tup (xs := a :: b :: c :: d :: xs) (d := 3) rfl
@[simp] theorem ix_l0 : idxM (.lst (a :: xs)) (.int 0) S = .ok a S := by simpa using ix_lst (xs := a :: xs) (d := 0) rfl
@[simp] theorem ix_l1 : idxM (.lst (a :: b :: xs)) (.int 1) S = .ok b S := by simpa using ix_lst (xs := a :: b :: xs) (d := 1) rfl
@[simp] theorem ix_l2 : idxM (.lst (a :: b :: c :: xs)) (.int 2) S = .ok c S := by simpa using ix_lst (xs := a :: b :: c :: xs) (d := 2) rfl
@[simp] theorem ix_l3 : idxM (.lst (a :: b :: c :: d :: xs)) (.int 3) S = .ok d S := by simpa using ix_lst (xs := a :: b :: c :: d :: xs) (d := 3) rfl
end
section
variable {xs : List MV} {S : Sto} {i j : Int}
@[simp] theorem src_tup : srcOf (.tup xs) S = .ok (.seq (.tup xs) xs) S := rfl
@[simp] theorem src_lst : srcOf (.lst xs) S = .ok (.seq (.lst xs) xs) S := rfl
@[simp] theorem enm_tup : enmOf [.tup xs] S = .ok (.enm (.tup xs) xs) S := rfl
@[simp] theorem enm_lst : enmOf [.lst xs] S = .ok (.enm (.lst xs) xs) S := rfl
@[simp] theorem it_seq {d : MV} : (Src.seq d xs).items = xs := rfl
@[simp] theorem it_enm {d : MV} : (Src.enm d xs).items = enmI 0 xs := rfl
@[simp] theorem len_enmI : ∀ (k : Nat) (xs : List MV), (enmI k xs).length = xs.length
  | _, [] => rfl
  | k, _ :: xs => by rw [enmI, List.length_cons, len_enmI, List.length_cons]
@[simp] theorem it_ezp {d e : MV} {ys : List MV} : (Src.ezp d xs e ys).items = enmI 0 (zipI xs ys) := rfl
@[simp] theorem it_zp2 {d e : MV} {ys : List MV} : (Src.zp2 d xs e ys).items = zipI xs ys := rfl
@[simp] theorem ok_seqT : (Src.seq (.tup xs) xs).ok S = true := by simp [Src.ok, seqOf]
@[simp] theorem ok_seqL : (Src.seq (.lst xs) xs).ok S = true := by simp [Src.ok, seqOf, lstOf]
@[simp] theorem ok_enmT : (Src.enm (.tup xs) xs).ok S = true := by simp [Src.ok, seqOf]
@[simp] theorem ok_enmL : (Src.enm (.lst xs) xs).ok S = true := by simp [Src.ok, seqOf, lstOf]
@[simp] theorem ok_ezpT {ys : List MV} : (Src.ezp (.tup xs) xs (.tup ys) ys).ok S = true := by simp [Src.ok, seqOf]
@[simp] theorem ok_zp2T {ys : List MV} : (Src.zp2 (.tup xs) xs (.tup ys) ys).ok S = true := by simp [Src.ok, seqOf]
@[simp] theorem ok_rng {lo : Int} {n : Nat} : (Src.rng lo n).ok S = true := rfl
@[simp] theorem ez_tup {ys : List MV} : ezOf [.tup xs, .tup ys] S = .ok (.ezp (.tup xs) xs (.tup ys) ys) S := rfl
@[simp] theorem zp_tup {ys : List MV} : zp2Of [.tup xs, .tup ys] S = .ok (.zp2 (.tup xs) xs (.tup ys) ys) S := rfl
@[simp] theorem tup_lst : tupM [.lst xs] S = .ok (.tup xs) S := rfl
@[simp] theorem tup_tup : tupM [.tup xs] S = .ok (.tup xs) S := rfl
@[simp] theorem add_int : addM (.int i) (.int j) S = .ok (.int (i + j)) S := rfl
@[simp] theorem sub_int : subM (.int i) (.int j) S = .ok (.int (i - j)) S := rfl
@[simp] theorem lt_int : ltM (.int i) (.int j) S = .ok (.bl (decide (i < j))) S := rfl
@[simp] theorem le_int : leM (.int i) (.int j) S = .ok (.bl (decide (i ≤ j))) S := rfl
@[simp] theorem gt_int : gtM (.int i) (.int j) S = .ok (.bl (decide (j < i))) S := rfl
@[simp] theorem ge_int : geM (.int i) (.int j) S = .ok (.bl (decide (j ≤ i))) S := rfl
end
end Mi
set_option Elab.async false
set_option linter.all false
set_option maxRecDepth 100000
set_option maxHeartbeats 1000000
namespace Mi
open PySem PySem.Spec PyProof.Rows L2
section
variable {S : Sto} {o o' : MO} {d : MV} {xs : List MV}
@[simp] theorem set_last : (S ++ [o]).set S.length o' = S ++ [o'] := by simp
@[simp] theorem app_last (h : xs.length < sizeLine) : appM (.ref S.length) d (S ++ [.lst xs]) = .ok .non (S ++ [.lst (xs ++ [d])]) := by
  unfold appM
  simp [h]
@[simp] theorem isLst_last : isLst (S ++ [.lst xs]) (.ref S.length) = true := by simp [isLst, lstOf]
@[simp] theorem seq_last : seqOf (S ++ [.lst xs]) (.ref S.length) = some xs := by simp [seqOf, lstOf]
@[simp] theorem tup_last : tupM [.ref S.length] (S ++ [.lst xs]) = .ok (.tup xs) (S ++ [.lst xs]) := by simp [tupM, seqOf, lstOf]
@[simp] theorem w_app {a b : ME} {ρ : Ev} : mApp a b ρ S = (a ρ S).bind fun od S1 => if isLst S1 od then (b ρ S1).bind fun d S2 => appM od d S2 else .stk := rfl
end
/-- ended: nothing follows -/
def Ended (r : RS) (r' : R MV) : Prop := toR r = r' ∧ ∀ k, r.nxt k = r
def Gen {β : Type} (J : List Nat) (En : β → Ev) (St : β → Sto) (Inv : β → Prop) (r : RS) : β ⊕ R MV → Prop
  | .inl s => ∃ ρ, r = .nx ρ (St s) ∧ SameE J 0 (En s) ρ ∧ Inv s
  | .inr r' => Ended r r'
@[simp] theorem gen_l {β : Type} {J : List Nat} {En : β → Ev} {St : β → Sto} {Inv : β → Prop} {ρ : Ev} {S : Sto} {s : β} : Gen J En St Inv (.nx ρ S) (.inl s) ↔ S = St s ∧ SameE J 0 (En s) ρ ∧ Inv s := by
  constructor
  · rintro ⟨ρ', e, h⟩; cases e; exact ⟨rfl, h⟩
  · rintro ⟨rfl, h⟩; exact ⟨_, rfl, h⟩
@[simp] theorem ended_rt {d : MV} {S : Sto} {r : R MV} : Ended (.rt d S) r ↔ .ok d S = r := ⟨fun h => h.1, fun h => ⟨h, fun _ => rfl⟩⟩
@[simp] theorem ended_exc {c : Str} {d : MV} {S : Sto} {ρ : Ev} {r : R MV} : Ended (.exc c d ρ S) r ↔ .exc c d S = r := ⟨fun h => h.1, fun h => ⟨h, fun _ => rfl⟩⟩
@[simp] theorem gen_r {β : Type} {J : List Nat} {En : β → Ev} {St : β → Sto} {Inv : β → Prop} {r : RS} {r' : R MV} : Gen J En St Inv r (.inr r') ↔ Ended r r' := Iff.rfl
theorem forGo_cons {ok : Sto → Bool} {g : Tg} {body : MS} {x : MV} {xs : List MV} {ρ : Ev} {S : Sto} (h : ok S = true) : forGo ok g body (x :: xs) ρ S = (turn g body x ρ S).nxt (forGo ok g body xs) := by
  rw [forGo, if_pos h]
  unfold turn
  cases g.f x ρ with
  | none => rfl
  | some ρ1 =>
    dsimp only
    cases body ρ1 S <;> rfl
end Mi
set_option Elab.async false
set_option linter.all false
set_option maxRecDepth 100000
set_option maxHeartbeats 1000000
namespace Mi
open PySem PySem.Spec PyProof.Rows L2
theorem refs_map {α : Type} {b : Nat} {f : α → MV} {xs : List α} (h : ∀ x ∈ xs, refsB b (f x) = true) : refsBs b (xs.map f) = true := by
  induction xs with
  | nil => rfl
  | cons x xs ih => rw [List.map_cons, refsBs, h x List.mem_cons_self, ih fun y hy => h y (List.mem_cons_of_mem _ hy)]; rfl
theorem strOk_lit (x : String) : PyData.strOk (Str.ofString x) = true := by
  rw [Str.ofString_eq_toList]
  unfold PyData.strOk
  simp only [List.all_toArray, List.all_map, List.all_eq_true, Function.comp_apply, decide_eq_true_eq]
  intro c _
  have := c.valid
  have h : c.toNat.isValidChar := this
  rcases h with h | h
  · exact Nat.lt_trans h (by decide)
  · exact h.2
@[simp] theorem sh_lit (x : String) : sh (.str (Str.ofString x)) = true := strOk_lit x
end Mi
set_option Elab.async false
set_option linter.all false
set_option maxRecDepth 100000
set_option maxHeartbeats 1000000
namespace Mi
open PySem PySem.Spec PyProof.Rows L2
section
variable {xs : List MV} {S : Sto} {i j : Int} {b : Bool}
@[simp] theorem len_tup : lenM [.tup xs] S = .ok (.int (xs.length : Nat)) S := rfl
@[simp] theorem len_lst : lenM [.lst xs] S = .ok (.int (xs.length : Nat)) S := rfl
@[simp] theorem len_dct {ks : List Key} : lenM [.dct ks xs] S = .ok (.int (ks.length : Nat)) S := rfl
@[simp] theorem any_ty {α : Type} {p : α → Bool} {xs : List α} : anyM [.lst (xs.map fun x => .bl (p x))] S = .ok (.bl (xs.any p)) S := by
  have e := anyM_bl (xs := xs.map p) (S := S)
  rw [List.map_map] at e
  rw [show (xs.map fun x => MV.bl (p x)) = xs.map (MV.bl ∘ p) from rfl, e, List.any_map]; rfl
@[simp] theorem all_ty {α : Type} {p : α → Bool} {xs : List α} : allM [.lst (xs.map fun x => .bl (p x))] S = .ok (.bl (xs.all p)) S := by
  have e := allM_bl (xs := xs.map p) (S := S)
  rw [List.map_map] at e
  rw [show (xs.map fun x => MV.bl (p x)) = xs.map (MV.bl ∘ p) from rfl, e, List.all_map]; rfl
theorem allIn_ty : ∀ ns : List Int, allIn (ns.map MV.int) = some ns
  | [] => rfl
  | n :: ns => by simp [allIn, allIn_ty ns]
@[simp] theorem sum_ty {α : Type} {f : α → Int} {xs : List α} : sumM [.lst (xs.map fun x => .int (f x))] S = .ok (.int (xs.map f).sum) S := by
  have := allIn_ty (xs.map f)
  rw [List.map_map] at this
  simp only [sumM, lstOf]
  rw [show (xs.map fun x => MV.int (f x)) = xs.map (MV.int ∘ f) from rfl, this]
@[simp] theorem int_int : intM [.int i] S = .ok (.int i) S := rfl
@[simp] theorem int_bl : intM [.bl b] S = .ok (.int (if b then 1 else 0)) S := rfl
@[simp] theorem lstT_tup : lstM true [.tup xs] S = .ok (.lst xs) S := rfl
@[simp] theorem lstT_lst : lstM true [.lst xs] S = .ok (.lst xs) S := rfl
@[simp] theorem lstF_tup : lstM false [.tup xs] S = .ok (.ref S.length) (S ++ [.lst xs]) := rfl
@[simp] theorem lstF_lst : lstM false [.lst xs] S = .ok (.ref S.length) (S ++ [.lst xs]) := rfl
@[simp] theorem isi_int_int : isiM "int" [.int i] S = .ok (.bl true) S := rfl
@[simp] theorem isi_int_bl : isiM "int" [.bl b] S = .ok (.bl true) S := rfl
@[simp] theorem isi_int_non : isiM "int" [.non] S = .ok (.bl false) S := rfl
@[simp] theorem isi_int_str {x : Str} : isiM "int" [.str x] S = .ok (.bl false) S := rfl
@[simp] theorem isi_int_tup : isiM "int" [.tup xs] S = .ok (.bl false) S := rfl
@[simp] theorem isi_int_lst : isiM "int" [.lst xs] S = .ok (.bl false) S := rfl
@[simp] theorem isi_bl_int : isiM "bool" [.int i] S = .ok (.bl false) S := rfl
@[simp] theorem isi_bl_bl : isiM "bool" [.bl b] S = .ok (.bl true) S := rfl
@[simp] theorem isi_bl_str {x : Str} : isiM "bool" [.str x] S = .ok (.bl false) S := rfl
@[simp] theorem isi_bl_tup : isiM "bool" [.tup xs] S = .ok (.bl false) S := rfl
@[simp] theorem isi_bl_lst : isiM "bool" [.lst xs] S = .ok (.bl false) S := rfl
@[simp] theorem isi_str_str {x : Str} : isiM "str" [.str x] S = .ok (.bl true) S := rfl
@[simp] theorem isi_str_tup : isiM "str" [.tup xs] S = .ok (.bl false) S := rfl
@[simp] theorem isi_str_lst : isiM "str" [.lst xs] S = .ok (.bl false) S := rfl
@[simp] theorem isi_str_int : isiM "str" [.int i] S = .ok (.bl false) S := rfl
@[simp] theorem isi_tup_tup : isiM "tuple" [.tup xs] S = .ok (.bl true) S := rfl
@[simp] theorem isi_tup_lst : isiM "tuple" [.lst xs] S = .ok (.bl false) S := rfl
@[simp] theorem isi_tup_str {x : Str} : isiM "tuple" [.str x] S = .ok (.bl false) S := rfl
@[simp] theorem isi_tup_int : isiM "tuple" [.int i] S = .ok (.bl false) S := rfl
@[simp] theorem isi_lst_lst : isiM "list" [.lst xs] S = .ok (.bl true) S := rfl
@[simp] theorem isi_lst_tup : isiM "list" [.tup xs] S = .ok (.bl false) S := rfl
@[simp] theorem tru_bl : truW (.bl b) S = .ok b S := rfl
@[simp] theorem tru_tup : truW (.tup xs) S = .ok (!xs.isEmpty) S := rfl
@[simp] theorem tru_lst : truW (.lst xs) S = .ok (!xs.isEmpty) S := rfl
end
@[simp] theorem w_lc2 {fr : Bool} {vs vs1 : List Nat} {mi mi1 : Ev → Sto → R Src} {g g1 : Tg} {tt tt1 : MT} {te : ME} {ρ : Ev} {S : Sto} : mLc2 fr vs vs1 mi g tt mi1 g1 tt1 te ρ S = (mi ρ S).bind fun src S1 =>
  (lc2Go (fun S => src.ok S) g tt mi1 vs1 g1 tt1 te (wipeE ρ vs) src.items [] S1).bind (mkL fr) := rfl
end Mi
set_option Elab.async false
set_option linter.all false
set_option maxRecDepth 10000
set_option maxHeartbeats 400000
namespace Lw
open PySem PySem.Spec PyProof.Rows L2 Mi
structure Day where
  a : Option Int
  b : Option Int
  s : Bool
  deriving DecidableEq
structure Row where
  who : Int
  base : Int
  days : List Day
  deriving DecidableEq
def Day.half (d : Day) : Bool → Option Int
  | false => d.a
  | true => d.b
def pDay (d : Day) : MV := .tup [hv d.a, hv d.b, .bl d.s]
def pRow (r : Row) : MV := .tup [.int r.who, .int r.base, .tup (r.days.map pDay)]
def pSt (rs : List Row) : MV := .tup (rs.map pRow)
def lDay (d : Day) : MV := .lst [hv d.a, hv d.b, .bl d.s]
def lRow (r : Row) : MV := .dct [.inr "who", .inr "base", .inr "days"] [.int r.who, .int r.base, .lst (r.days.map lDay)]
def dayAt (r : Row) (d : Nat) : Day := r.days.getD d ⟨none, none, false⟩
def rowAt (rs : List Row) (k : Nat) : Row := rs.getD k ⟨0, 0, []⟩
/-- no other series has the half at the hour of the day -/
def takes (rs : List Row) (k d : Nat) (h : Option Int) (half : Bool) (i : Nat) (r : Row) : Bool :=
  !decide (i = k) && ((!half || decide (r.who = (rowAt rs k).who)) && decide ((dayAt r d).half half = h))
def free (rs : List Row) (k d : Nat) (h : Option Int) (half : Bool) : Bool := !rs.zipIdx.any fun x => takes rs k d h half x.2 x.1
/-- all rows have as many days -/
def Wide (D : Nat) (rs : List Row) : Prop := ∀ r ∈ rs, r.days.length = D
theorem row_at {rs : List Row} {k : Nat} (hk : k < rs.length) : rs[k]? = some (rowAt rs k) := by
  unfold rowAt
  rw [List.getD_eq_getElem?_getD, List.getElem?_eq_getElem hk]; rfl
theorem Wide.at {D : Nat} {rs : List Row} (W : Wide D rs) {k : Nat} (hk : k < rs.length) : (rowAt rs k).days.length = D := W _ (List.mem_of_getElem? (row_at hk))
theorem Wide.set {D : Nat} {rs : List Row} (W : Wide D rs) {k : Nat} {r : Row} (h : r.days.length = D) : Wide D (rs.set k r) := fun x hx => by
  rcases List.mem_or_eq_of_mem_set hx with h1 | h1
  · exact W x h1
  · rw [h1]; exact h
@[simp] theorem row0 {r : Row} {S : Sto} : idxM (pRow r) (.int 0) S = .ok (.int r.who) S := rfl
@[simp] theorem row1 {r : Row} {S : Sto} : idxM (pRow r) (.int 1) S = .ok (.int r.base) S := rfl
@[simp] theorem row2 {r : Row} {S : Sto} : idxM (pRow r) (.int 2) S = .ok (.tup (r.days.map pDay)) S := rfl
@[simp] theorem day0 {d : Day} {S : Sto} : idxM (pDay d) (.int 0) S = .ok (hv d.a) S := rfl
@[simp] theorem day1 {d : Day} {S : Sto} : idxM (pDay d) (.int 1) S = .ok (hv d.b) S := rfl
@[simp] theorem day2 {d : Day} {S : Sto} : idxM (pDay d) (.int 2) S = .ok (.bl d.s) S := rfl
@[simp] theorem lrow0 {r : Row} {S : Sto} : idxM (lRow r) (.str "who") S = .ok (.int r.who) S := rfl
@[simp] theorem lrow1 {r : Row} {S : Sto} : idxM (lRow r) (.str "base") S = .ok (.int r.base) S := rfl
@[simp] theorem lrow2 {r : Row} {S : Sto} : idxM (lRow r) (.str "days") S = .ok (.lst (r.days.map lDay)) S := rfl
@[simp] theorem lday0 {d : Day} {S : Sto} : idxM (lDay d) (.int 0) S = .ok (hv d.a) S := rfl
@[simp] theorem lday1 {d : Day} {S : Sto} : idxM (lDay d) (.int 1) S = .ok (hv d.b) S := rfl
@[simp] theorem lday2 {d : Day} {S : Sto} : idxM (lDay d) (.int 2) S = .ok (.bl d.s) S := rfl
def gap (rs : List Row) (k : Nat) (h : Int) : Bool := !(rowAt rs k).days.zipIdx.any fun x => !decide (x.1.a = none) && (!free rs k x.2 (some h) false || !free rs k x.2 (some h) true)
abbrev Hrs := List (Option Int)
def hrs (r : Row) : Hrs := r.days.map fun d => d.b
def pHrs (h : Hrs) : MV := .tup (h.map hv)
def pRule (c s h t : Str) : MV := .obj "Rule" ["checking", "singles", "halves", "telling"] [.str c, .str s, .str h, .str t]
@[simp] theorem fld_c {c s h t : Str} {S : Sto} : fldM "Rule" "checking" (pRule c s h t) S = .ok (.str c) S := rfl
@[simp] theorem fld_s {c s h t : Str} {S : Sto} : fldM "Rule" "singles" (pRule c s h t) S = .ok (.str s) S := rfl
@[simp] theorem fld_h {c s h t : Str} {S : Sto} : fldM "Rule" "halves" (pRule c s h t) S = .ok (.str h) S := rfl
@[simp] theorem fld_t {c s h t : Str} {S : Sto} : fldM "Rule" "telling" (pRule c s h t) S = .ok (.str t) S := rfl
def rday (s : Str) (hours base : Int) (d : Day) (h : Int) : Day := match d.a with
  | none => d
  | some a => if d.s = true ∧ s = "keep" then d else if d.s = true ∧ s = "move" then ⟨some ((a + h - base) % hours), d.b, true⟩ else ⟨some h, d.b, false⟩
def rdays (s : Str) (hours : Int) (r : Row) (h : Int) : List Day := r.days.map fun d => rday s hours r.base d h
def pdays (r : Row) : List Day := r.days.map fun d => ⟨d.a, d.a, d.s⟩
def clash (rs : List Row) (k : Nat) (old new : List Day) (half : Bool) : Bool := (old.zip new).zipIdx.any fun x => !decide (x.1.1.half half = x.1.2.half half) && !free rs k x.2 (x.1.2.half half) half
abbrev OSt := Option (List Row)
def roomSet (c s : Str) (hours : Int) (rs : List Row) (k : Nat) (h : Int) : OSt :=
  if c ≠ "none" ∧ clash rs k (rowAt rs k).days (rdays s hours (rowAt rs k) h) false = true then none else some (rs.set k ⟨(rowAt rs k).who, h, rdays s hours (rowAt rs k) h⟩)
def personSet (c : Str) (rs : List Row) (k : Nat) : OSt :=
  if c = "both" ∧ clash rs k (rowAt rs k).days (pdays (rowAt rs k)) true = true then none else some (rs.set k ⟨(rowAt rs k).who, (rowAt rs k).base, pdays (rowAt rs k)⟩)
def backDay (now old : Day) : Day := if now.a = none then now else ⟨old.a, now.b, old.s⟩
def backRow (r o : Row) : Row := ⟨r.who, o.base, List.zipWith backDay r.days o.days⟩
def takenBack (rs : List Row) (k : Nat) (o : Row) : List Row := rs.set k (backRow (rowAt rs k) o)
def oneSet (c : Str) (rs : List Row) (k d : Nat) (h : Int) : OSt :=
  if (dayAt (rowAt rs k) d).a = none ∨ (c ≠ "none" ∧ free rs k d (some h) false = false) ∨ (c = "both" ∧ free rs k d (some h) true = false) then none
  else some (rs.set k ⟨(rowAt rs k).who, (rowAt rs k).base, (rowAt rs k).days.set d ⟨some h, some h, true⟩⟩)
def offSet (rs : List Row) (k d : Nat) : OSt :=
  if (dayAt (rowAt rs k) d).a = none then none else some (rs.set k ⟨(rowAt rs k).who, (rowAt rs k).base, (rowAt rs k).days.set d ⟨none, none, false⟩⟩)
inductive Step where
  | find (h : Int) | room (h : Int) | person | one (d : Nat) (h : Int) | off (d : Nat) | tell
  deriving DecidableEq
def pStep : Step → MV
  | .find h => .tup [.str "find", .int h]
  | .room h => .tup [.str "room", .int h]
  | .person => .tup [.str "person"]
  | .one d h => .tup [.str "one", .int (d : Nat), .int h]
  | .off d => .tup [.str "off", .int (d : Nat)]
  | .tell => .tup [.str "tell"]
def Step.word : Step → Str
  | .find _ => "find"
  | .room _ => "room"
  | .person => "person"
  | .one _ _ => "one"
  | .off _ => "off"
  | .tell => "tell"
@[simp] theorem step_w {s : Step} {S : Sto} : idxM (pStep s) (.int 0) S = .ok (.str s.word) S := by cases s <;> rfl
/-- what a hand remembers -/
structure Mem where
  found : Option Bool
  seen : Option Hrs
  old : Option Row
  deriving DecidableEq
def oB : Option Bool → MV
  | none => .non
  | some b => .bl b
def oH : Option Hrs → MV
  | none => .non
  | some h => pHrs h
def oR : Option Row → MV
  | none => .non
  | some r => pRow r
def olR : Option Row → MV
  | none => .non
  | some r => lRow r
def oSt : OSt → MV
  | none => .non
  | some rs => pSt rs
def pMem (m : Mem) : MV := .tup [oB m.found, oH m.seen, oR m.old]
inductive Told where
  | b (b : Bool) | hrs (h : Hrs) | done | refused
  deriving DecidableEq
def pTold : Told → MV
  | .b b => .bl b
  | .hrs h => pHrs h
  | .done => .str "done"
  | .refused => .str "refused"
/-- a rule's parts -/
structure Par where
  c : Str
  s : Str
  h : Str
  t : Str
  deriving DecidableEq
def pPar (p : Par) : MV := pRule p.c p.s p.h p.t
def lPar (p : Par) : MV := .lst [.str p.c, .str p.s, .str p.h, .str p.t]
structure POk (p : Par) : Prop where
  c : p.c = "none" ∨ p.c = "room" ∨ p.c = "both"
  s : p.s = "keep" ∨ p.s = "move" ∨ p.s = "reset"
  h : p.h = "left" ∨ p.h = "undone"
  t : p.t = "now" ∨ p.t = "seen"
def fin (o : OSt) (m m' : Mem) (rs : List Row) : Told × Mem × List Row := match o with
  | none => (.refused, m, rs)
  | some rs' => (.done, m', rs')
/-- a step: what it tells, what is remembered, the standing -/
def stepT (p : Par) (H : Int) (rs : List Row) (k : Nat) (m : Mem) : Step → Told × Mem × List Row
  | .find h => (.b (gap rs k h), ⟨some (gap rs k h), some (hrs (rowAt rs k)), m.old⟩, rs)
  | .tell => (.hrs (if p.t = "seen" then m.seen.getD (hrs (rowAt rs k)) else hrs (rowAt rs k)), ⟨m.found, some (if p.t = "seen" then m.seen.getD (hrs (rowAt rs k)) else hrs (rowAt rs k)), m.old⟩, rs)
  | .room h => fin (if m.found = some false then none else roomSet p.c p.s H rs k h) m ⟨m.found, m.seen, some (rowAt rs k)⟩ rs
  | .person => match personSet p.c rs k with
    | some rs' => (.done, m, rs')
    | none => if p.h = "undone" then (match m.old with
      | some o => (.refused, ⟨m.found, m.seen, none⟩, takenBack rs k o)
      | none => (.refused, m, rs)) else (.refused, m, rs)
  | .one d h => fin (oneSet p.c rs k d h) m m rs
  | .off d => fin (offSet rs k d) m m rs
structure World where
  D : Nat
  H : Nat
  ser : List (Int × Int)
  hands : List (Nat × List Step)
  deriving DecidableEq
def pHand (h : Nat × List Step) : MV := .tup [.int (h.1 : Nat), .tup (h.2.map pStep)]
def pSer (s : Int × Int) : MV := .tup [.int s.1, .int s.2]
def pWorld (W : World) : MV := .tup [.int (W.D : Nat), .int (W.H : Nat), .tup (W.ser.map pSer), .tup (W.hands.map pHand)]
/-- a state: the next steps, what hands remember, the standing -/
structure WS where
  places : List Nat
  mems : List Mem
  rows : List Row
  deriving DecidableEq
def pNat (n : Nat) : MV := .int (n : Nat)
def pWS (s : WS) : MV := .tup [.tup (s.places.map pNat), .tup (s.mems.map pMem), pSt s.rows]
def placeAt (s : WS) (n : Nat) : Nat := s.places.getD n 0
def handAt (W : World) (n : Nat) : Nat × List Step := W.hands.getD n (0, [])
def stepAt (W : World) (s : WS) (n : Nat) : Step := (handAt W n).2.getD (placeAt s n) .tell
def memAt (s : WS) (n : Nat) : Mem := s.mems.getD n ⟨none, none, none⟩
def hasT (W : World) (s : WS) (n : Nat) : Bool := decide (placeAt s n < (handAt W n).2.length)
def nextT (p : Par) (W : World) (s : WS) (n : Nat) : Told × Mem × List Row := stepT p W.H s.rows (handAt W n).1 (memAt s n) (stepAt W s n)
def afterT (p : Par) (W : World) (s : WS) (n : Nat) : WS := ⟨s.places.set n (placeAt s n + 1), s.mems.set n (nextT p W s n).2.1, (nextT p W s n).2.2⟩
/-- a step of a world -/
def SOk (W : World) : Step → Prop
  | .find h => 0 ≤ h ∧ h < W.H
  | .room h => 0 ≤ h ∧ h < W.H
  | .person => True
  | .one d h => d < W.D ∧ 0 ≤ h ∧ h < W.H
  | .off d => d < W.D
  | .tell => True
structure WOk (W : World) : Prop where
  D1 : 1 ≤ W.D
  D2 : W.D ≤ 2
  H1 : 2 ≤ W.H
  H2 : W.H ≤ 3
  n1 : 1 ≤ W.ser.length
  n2 : W.ser.length ≤ 3
  ser : ∀ x ∈ W.ser, 0 ≤ x.1 ∧ x.1 ≤ 2 ∧ 0 ≤ x.2 ∧ x.2 < W.H
  nd : (W.ser.map (·.2)).Nodup
  h1 : 1 ≤ W.hands.length
  h2 : W.hands.length ≤ 3
  hand : ∀ h ∈ W.hands, h.1 < W.ser.length ∧ 1 ≤ h.2.length ∧ h.2.length ≤ 4 ∧ ∀ s ∈ h.2, SOk W s
  sum : (W.hands.map fun h => h.2.length).sum ≤ 8
/-- a state of a world -/
structure StOk (W : World) (s : WS) : Prop where
  pl : s.places.length = W.hands.length
  ml : s.mems.length = W.hands.length
  rl : s.rows.length = W.ser.length
  wide : Wide W.D s.rows
  olds : ∀ m ∈ s.mems, ∀ o, m.old = some o → o.days.length = W.D
  place : ∀ n, n < W.hands.length → placeAt s n ≤ (handAt W n).2.length
section
variable {b : Nat}
@[simp] theorem rf_hv {h : Option Int} : refsB b (hv h) = true := by cases h <;> rfl
@[simp] theorem rf_day {d : Day} : refsB b (pDay d) = true := by simp [pDay, refsB, refsBs]
@[simp] theorem rf_lday {d : Day} : refsB b (lDay d) = true := by simp [lDay, refsB, refsBs]
@[simp] theorem rf_row {r : Row} : refsB b (pRow r) = true := by
  have := refs_map (b := b) (f := pDay) (xs := r.days) fun _ _ => rf_day
  simp [pRow, refsB, refsBs, this]
@[simp] theorem rf_lrow {r : Row} : refsB b (lRow r) = true := by
  have := refs_map (b := b) (f := lDay) (xs := r.days) fun _ _ => rf_lday
  simp [lRow, refsB, refsBs, this]
@[simp] theorem rf_st {rs : List Row} : refsB b (pSt rs) = true := by
  have := refs_map (b := b) (f := pRow) (xs := rs) fun _ _ => rf_row
  simp [pSt, refsB, this]
@[simp] theorem rf_hrs {h : Hrs} : refsB b (pHrs h) = true := by
  have := refs_map (b := b) (f := hv) (xs := h) fun _ _ => rf_hv
  simp [pHrs, refsB, this]
@[simp] theorem rf_par {p : Par} : refsB b (pPar p) = true := by simp [pPar, pRule, refsB, refsBs]
@[simp] theorem rf_lpar {p : Par} : refsB b (lPar p) = true := by simp [lPar, refsB, refsBs]
@[simp] theorem rf_oB {o : Option Bool} : refsB b (oB o) = true := by cases o <;> rfl
@[simp] theorem rf_oH {o : Option Hrs} : refsB b (oH o) = true := by cases o <;> simp [oH, refsB]
@[simp] theorem rf_oR {o : Option Row} : refsB b (oR o) = true := by cases o <;> simp [oR, refsB]
@[simp] theorem rf_olR {o : Option Row} : refsB b (olR o) = true := by cases o <;> simp [olR, refsB]
@[simp] theorem rf_oSt {o : OSt} : refsB b (oSt o) = true := by cases o <;> simp [oSt, refsB]
@[simp] theorem rf_mem {m : Mem} : refsB b (pMem m) = true := by simp [pMem, refsB, refsBs]
@[simp] theorem rf_told {t : Told} : refsB b (pTold t) = true := by cases t <;> simp [pTold, refsB]
@[simp] theorem rf_step {s : Step} : refsB b (pStep s) = true := by cases s <;> simp [pStep, refsB, refsBs]
@[simp] theorem rf_hand {h : Nat × List Step} : refsB b (pHand h) = true := by
  have := refs_map (b := b) (f := pStep) (xs := h.2) fun _ _ => rf_step
  simp [pHand, refsB, refsBs, this]
@[simp] theorem rf_world {W : World} : refsB b (pWorld W) = true := by
  have h1 := refs_map (b := b) (f := pHand) (xs := W.hands) fun _ _ => rf_hand
  have h2 := refs_map (b := b) (f := pSer) (xs := W.ser) fun _ _ => by simp [pSer, refsB, refsBs]
  simp [pWorld, refsB, refsBs, h1, h2]
@[simp] theorem rf_ws {s : WS} : refsB b (pWS s) = true := by
  have h1 := refs_map (b := b) (f := pMem) (xs := s.mems) fun _ _ => rf_mem
  have h2 := refs_map (b := b) (f := pNat) (xs := s.places) fun _ _ => rfl
  simp [pWS, refsB, refsBs, h1, h2]
end
end Lw
set_option Elab.async false
set_option linter.all false
set_option maxRecDepth 10000
set_option maxHeartbeats 400000
namespace Lw
open PySem PySem.Spec PyProof.Rows L2 Mi
@[simp] theorem enm_st {rs : List Row} {S : Sto} : enmOf [pSt rs] S = .ok (.enm (pSt rs) (rs.map pRow)) S := rfl
@[simp] theorem ok_enmS {rs : List Row} {S : Sto} : (Src.enm (pSt rs) (rs.map pRow)).ok S = true := by simp [pSt]
end Lw
set_option Elab.async false
set_option linter.all false
set_option maxRecDepth 10000
set_option maxHeartbeats 400000
namespace Lw
open PySem PySem.Spec PyProof.Rows L2 Mi
@[simp] theorem slc_st {rs : List Row} {lo hi : Option Int} {S : Sto} : slcM (pSt rs) lo hi S = slcM (.tup (rs.map pRow)) lo hi S := rfl
end Lw
set_option Elab.async false
set_option linter.all false
set_option maxRecDepth 10000
set_option maxHeartbeats 400000
namespace Lw
open PySem PySem.Spec PyProof.Rows L2 Mi
@[simp] theorem mem0 {m : Mem} {S : Sto} : idxM (pMem m) (.int 0) S = .ok (oB m.found) S := rfl
@[simp] theorem mem1 {m : Mem} {S : Sto} : idxM (pMem m) (.int 1) S = .ok (oH m.seen) S := rfl
@[simp] theorem mem2 {m : Mem} {S : Sto} : idxM (pMem m) (.int 2) S = .ok (oR m.old) S := rfl
@[simp] theorem isn_hrs {h : Hrs} {S : Sto} : isnM (pHrs h) .non S = .ok (.bl true) S := rfl
@[simp] theorem is_st {rs : List Row} {S : Sto} : isM (pSt rs) .non S = .ok (.bl false) S := rfl
@[simp] theorem isn_st {rs : List Row} {S : Sto} : isnM (pSt rs) .non S = .ok (.bl true) S := rfl
@[simp] theorem isn_row {r : Row} {S : Sto} : isnM (pRow r) .non S = .ok (.bl true) S := rfl
@[simp] theorem is_nn {S : Sto} : isM .non .non S = .ok (.bl true) S := rfl
@[simp] theorem isn_nn {S : Sto} : isnM .non .non S = .ok (.bl false) S := rfl
@[simp] theorem is_false {o : Option Bool} {S : Sto} : isM (oB o) (.bl false) S = .ok (.bl (decide (o = some false))) S := by
  cases o with
  | none => rfl
  | some b => cases b <;> rfl
end Lw
set_option Elab.async false
set_option linter.all false
set_option maxRecDepth 10000
set_option maxHeartbeats 400000
namespace Lw
open PySem PySem.Spec PyProof.Rows L2 Mi
@[simp] theorem stp_find {h : Int} {S : Sto} : idxM (pStep (.find h)) (.int 1) S = .ok (.int h) S := rfl
@[simp] theorem stp_room {h : Int} {S : Sto} : idxM (pStep (.room h)) (.int 1) S = .ok (.int h) S := rfl
@[simp] theorem stp_one1 {d : Nat} {h : Int} {S : Sto} : idxM (pStep (.one d h)) (.int 1) S = .ok (.int (d : Nat)) S := rfl
@[simp] theorem stp_one2 {d : Nat} {h : Int} {S : Sto} : idxM (pStep (.one d h)) (.int 2) S = .ok (.int h) S := rfl
@[simp] theorem stp_off {d : Nat} {S : Sto} : idxM (pStep (.off d)) (.int 1) S = .ok (.int (d : Nat)) S := rfl
@[simp] theorem wld0 {W : World} {S : Sto} : idxM (pWorld W) (.int 0) S = .ok (.int (W.D : Nat)) S := rfl
@[simp] theorem wld1 {W : World} {S : Sto} : idxM (pWorld W) (.int 1) S = .ok (.int (W.H : Nat)) S := rfl
@[simp] theorem wld2 {W : World} {S : Sto} : idxM (pWorld W) (.int 2) S = .ok (.tup (W.ser.map pSer)) S := rfl
@[simp] theorem wld3 {W : World} {S : Sto} : idxM (pWorld W) (.int 3) S = .ok (.tup (W.hands.map pHand)) S := rfl
@[simp] theorem list_enm {xs : List MV} {S : Sto} (h : xs.length ≤ sizeLine) : lstE [.tup xs] S = .ok (.lst (enmI 0 xs)) S := by simp [lstE, seqOf, h]
theorem sh_hv {h : Option Int} : sh (hv h) = true := by cases h <;> rfl
theorem shs_map {α : Type} {f : α → MV} (hf : ∀ x, sh (f x) = true) : ∀ xs : List α, shs (xs.map f) = true
  | [] => rfl
  | x :: xs => by rw [List.map_cons, shs, hf, shs_map hf xs]; rfl
theorem dpts_map {α : Type} {f : α → MV} {n : Nat} : ∀ xs : List α, (∀ x ∈ xs, dpt (f x) ≤ n) → dpts (xs.map f) ≤ n
  | [], _ => by simp [dpts]
  | x :: xs, hf => by
    rw [List.map_cons, dpts]
    exact Nat.max_le.mpr ⟨hf x List.mem_cons_self, dpts_map xs fun y hy => hf y (List.mem_cons_of_mem _ hy)⟩
theorem sh_hrs {h : Hrs} : sh (pHrs h) = true := by rw [pHrs, sh]; exact shs_map (fun _ => sh_hv) h
theorem dpt_hv {h : Option Int} : dpt (hv h) = 0 := by cases h <;> rfl
theorem dpt_hrs {h : Hrs} : dpt (pHrs h) ≤ 1 := by
  rw [pHrs, dpt]
  have := dpts_map (f := hv) (n := 0) h fun _ _ => by rw [dpt_hv]; exact Nat.le_refl _
  omega
theorem sh_told {t : Told} : sh (pTold t) = true := by
  cases t with
  | b b => rfl
  | hrs h => exact sh_hrs
  | done => exact sh_lit _
  | refused => exact sh_lit _
theorem dpt_told {t : Told} : dpt (pTold t) ≤ 1 := by
  cases t with
  | hrs h => exact dpt_hrs
  | _ => exact Nat.zero_le _
theorem deref_told {S : Sto} {t : Told} : deref S (pTold t) = pTold t := by cases t <;> rfl
@[simp] theorem told_done {t : Told} {S : Sto} : eqM (pTold t) (.str "done") S = .ok (.bl (decide (t = .done))) S := by
  show eqM (pTold t) (pTold .done) S = _
  rw [eqM_sh (deref_told (t := t)) (deref_told (t := .done)) sh_told (sh_told (t := .done)) (Nat.le_trans dpt_told (by omega)) (by decide)]
  cases t with
  | b b => simp [pTold, cn]
  | hrs h => simp [pTold, cn, pHrs]
  | done => simp [pTold, cn]
  | refused => simp [pTold, cn]
def pStr (s : Str) : MV := .str s
@[simp] theorem app_lastS {S : Sto} {xs : List Str} {x : Str} (h : xs.length < sizeLine) : appM (.ref S.length) (.str x) (S ++ [.lst (xs.map pStr)]) = .ok .non (S ++ [.lst ((xs ++ [x]).map pStr)]) := by
  rw [app_last (by simpa using h)]; simp [pStr]
end Lw
set_option Elab.async false
set_option linter.all false
set_option maxRecDepth 10000
set_option maxHeartbeats 400000
namespace Lw
open PySem PySem.Spec PyProof.Rows L2 Mi
theorem hand_at {W : World} {n : Nat} (h : n < W.hands.length) : W.hands[n]? = some (handAt W n) := by
  unfold handAt
  rw [List.getElem?_eq_getElem h, List.getD_eq_getElem?_getD, List.getElem?_eq_getElem h]; rfl
theorem mem_at {s : WS} {n : Nat} (h : n < s.mems.length) : s.mems[n]? = some (memAt s n) := by
  unfold memAt
  rw [List.getElem?_eq_getElem h, List.getD_eq_getElem?_getD, List.getElem?_eq_getElem h]; rfl
theorem fin_len {o : OSt} {m m' : Mem} {rs : List Row} (h : ∀ rs', o = some rs' → rs'.length = rs.length) : (fin o m m' rs).2.2.length = rs.length := by
  cases o with
  | none => rfl
  | some rs' => exact h rs' rfl
theorem roomSet_len {c s : Str} {H h : Int} {rs rs' : List Row} {k : Nat} (e : roomSet c s H rs k h = some rs') : rs'.length = rs.length := by
  unfold roomSet at e; split at e
  · cases e
  · cases e; simp
theorem personSet_len {c : Str} {rs rs' : List Row} {k : Nat} (e : personSet c rs k = some rs') : rs'.length = rs.length := by
  unfold personSet at e; split at e
  · cases e
  · cases e; simp
theorem oneSet_len {c : Str} {h : Int} {rs rs' : List Row} {k d : Nat} (e : oneSet c rs k d h = some rs') : rs'.length = rs.length := by
  unfold oneSet at e; split at e
  · cases e
  · cases e; simp
theorem offSet_len {rs rs' : List Row} {k d : Nat} (e : offSet rs k d = some rs') : rs'.length = rs.length := by
  unfold offSet at e; split at e
  · cases e
  · cases e; simp
theorem stepT_len {p : Par} {H : Int} {rs : List Row} {k : Nat} {m : Mem} {s : Step} : (stepT p H rs k m s).2.2.length = rs.length := by
  cases s with
  | find h => rfl
  | tell => rfl
  | room h =>
    refine fin_len fun rs' e => ?_
    split at e
    · cases e
    · exact roomSet_len e
  | person =>
    rw [stepT]
    cases e : personSet p.c rs k with
    | some rs' => exact personSet_len e
    | none =>
      dsimp only
      split
      · cases m.old with
        | none => rfl
        | some o => simp [takenBack]
      · rfl
  | one d h => exact fin_len fun rs' e => oneSet_len e
  | off d => exact fin_len fun rs' e => offSet_len e
theorem fin_wide {D : Nat} {o : OSt} {m m' : Mem} {rs : List Row} (W : Wide D rs) (h : ∀ rs', o = some rs' → Wide D rs') : Wide D (fin o m m' rs).2.2 := by
  cases o with
  | none => exact W
  | some rs' => exact h rs' rfl
theorem stepT_wide {p : Par} {H : Int} {D : Nat} {rs : List Row} {k : Nat} {m : Mem} {s : Step} (W : Wide D rs) (hk : k < rs.length) (ho : ∀ o, m.old = some o → o.days.length = D) : Wide D (stepT p H rs k m s).2.2 := by
  have hd := W.at hk
  cases s with
  | find h => exact W
  | tell => exact W
  | room h =>
    refine fin_wide W fun rs' e => ?_
    split at e
    · cases e
    · unfold roomSet at e; split at e
      · cases e
      · cases e; exact W.set (by simp [rdays, hd])
  | person =>
    rw [stepT]
    cases e : personSet p.c rs k with
    | some rs' =>
      unfold personSet at e; split at e
      · cases e
      · cases e; exact W.set (by simp [pdays, hd])
    | none =>
      dsimp only
      split
      · cases eo : m.old with
        | none => exact W
        | some o => exact W.set (by simp [backRow, hd, ho o eo])
      · exact W
  | one d h =>
    refine fin_wide W fun rs' e => ?_
    unfold oneSet at e; split at e
    · cases e
    · cases e; exact W.set (by simp [hd])
  | off d =>
    refine fin_wide W fun rs' e => ?_
    unfold offSet at e; split at e
    · cases e
    · cases e; exact W.set (by simp [hd])
theorem fin_old {D : Nat} {o : OSt} {m m' : Mem} {rs : List Row} (h : ∀ r, m.old = some r → r.days.length = D) (h' : ∀ r, m'.old = some r → r.days.length = D) : ∀ r, (fin o m m' rs).2.1.old = some r → r.days.length = D := by
  cases o with
  | none => exact h
  | some rs' => exact h'
theorem stepT_old {p : Par} {H : Int} {D : Nat} {rs : List Row} {k : Nat} {m : Mem} {s : Step} (W : Wide D rs) (hk : k < rs.length) (ho : ∀ o, m.old = some o → o.days.length = D) : ∀ o, (stepT p H rs k m s).2.1.old = some o → o.days.length = D := by
  cases s with
  | find h => exact ho
  | tell => exact ho
  | room h => exact fin_old ho fun r e => by cases e; exact W.at hk
  | person =>
    rw [stepT]
    cases e : personSet p.c rs k with
    | some rs' => exact ho
    | none =>
      dsimp only
      split
      · cases eo : m.old with
        | none => dsimp only; intro o e; rw [eo] at e; cases e
        | some o => dsimp only; intro o e; cases e
      · exact ho
  | one d h => exact fin_old ho ho
  | off d => exact fin_old ho ho
/-- the state behind a step is one -/
theorem StOk.after {p : Par} {W : World} (w : WOk W) {s : WS} (h : StOk W s) {n : Nat} (hn : n < W.hands.length) (hs : hasT W s n = true) : StOk W (afterT p W s n) := by
  have hk : (handAt W n).1 < s.rows.length := by rw [h.rl]; exact (w.hand _ (List.mem_of_getElem? (hand_at hn))).1
  have ho : ∀ o, (memAt s n).old = some o → o.days.length = W.D := fun o e => h.olds (memAt s n) (List.mem_of_getElem? (mem_at (by rw [h.ml]; exact hn))) o e
  refine ⟨by simp [afterT, h.pl], by simp [afterT, h.ml], ?_, ?_, ?_, ?_⟩
  · show (stepT p W.H s.rows (handAt W n).1 (memAt s n) (stepAt W s n)).2.2.length = _
    rw [stepT_len, h.rl]
  · exact stepT_wide h.wide hk ho
  · intro m hm o eo
    rcases List.mem_or_eq_of_mem_set hm with hm | hm
    · exact h.olds m hm o eo
    · subst hm; exact stepT_old h.wide hk ho o eo
  · intro i hi
    show (s.places.set n (placeAt s n + 1)).getD i 0 ≤ _
    simp only [List.getD_eq_getElem?_getD]
    by_cases e : i = n
    · subst e
      rw [List.getElem?_set_self (by rw [h.pl]; exact hi)]
      have := of_decide_eq_true hs
      show placeAt s i + 1 ≤ _
      omega
    · rw [List.getElem?_set_ne (Ne.symm e)]
      have := h.place i hi
      unfold placeAt at this
      rwa [List.getD_eq_getElem?_getD] at this
theorem StOk.days {W : World} (w : WOk W) {s : WS} (h : StOk W s) : (s.rows.flatMap fun r => r.days).length ≤ 1000 := by
  have : ∀ rs : List Row, Wide W.D rs → (rs.flatMap fun r => r.days).length = rs.length * W.D := by
    intro rs hw
    induction rs with
    | nil => simp
    | cons r rs ih =>
      rw [List.flatMap_cons, List.length_append, hw r List.mem_cons_self, ih fun x hx => hw x (List.mem_cons_of_mem _ hx), List.length_cons, Nat.succ_mul]
      omega
  rw [this _ h.wide, h.rl]
  have h1 := w.n2
  have h2 := w.D2
  have : W.ser.length * W.D ≤ 3 * 2 := Nat.mul_le_mul h1 h2
  omega
end Lw
set_option Elab.async false
set_option linter.all false
set_option maxRecDepth 10000
set_option maxHeartbeats 400000
namespace Lw
open PySem PySem.Spec PyProof.Rows L2 Mi
@[simp] theorem w_dc {fr : Bool} {vs : List Nat} {mi : Ev → Sto → R Src} {g : Tg} {tt : MT} {tk tv : ME} {ρ : Ev} {S : Sto} : mDc fr vs mi g tt tk tv ρ S = (mi ρ S).bind fun src S1 =>
  if src.items.length ≤ sizeLine then (dcGo (fun S => src.ok S) g tt tk tv (wipeE ρ vs) src.items [] [] S1).bind fun p S2 => mkD fr p.1 p.2 S2 else .stk := rfl
@[simp] theorem is_whole_eq {i a b : Int} {S : Sto} : m_is_whole [.int i, .int a, .int b] S = .ok (.bl (decide (a ≤ i ∧ i ≤ b))) S := by
  simp [m_is_whole, mFn, m_is_whole_s0]
  split <;> simp_all
  omega
end Lw
set_option Elab.async false
set_option linter.all false
set_option maxRecDepth 10000
set_option maxHeartbeats 400000
namespace Lw
open PySem PySem.Spec PyProof.Rows L2 Mi
def pTF (x : Told × List Str) : MV := .tup [pTold x.1, .lst (x.2.map pStr)]
@[simp] theorem rf_tf {b : Nat} {x : Told × List Str} : refsB b (pTF x) = true := by
  have := refs_map (b := b) (f := pStr) (xs := x.2) fun _ _ => rfl
  simp [pTF, refsB, refsBs, this]
end Lw
set_option Elab.async false
set_option linter.all false
set_option maxRecDepth 10000
set_option maxHeartbeats 400000
namespace Lw
open PySem PySem.Spec PyProof.Rows L2 Mi
def hb (half : Bool) : MV := .int (if half then 1 else 0)
@[simp] theorem rng_nat {n : Nat} {S : Sto} (h : n ≤ 1000) : rngOf [.int (n : Nat)] S = .ok (.rng 0 n) S := by
  have e : rngOf [.int (n : Nat)] S = if Nat.blt n 4611686018427387904 then .ok (.rng 0 (n : Int).toNat) S else .stk := rfl
  rw [e, if_pos (by simp [Nat.blt]; omega), Int.toNat_natCast]
@[simp] theorem it_rng {n : Nat} : (Src.rng 0 n).items = (List.range n).map pNat := by
  simp [Src.items, pNat]
@[simp] theorem ix_half {d : Day} {half : Bool} {S : Sto} : idxM (lDay d) (hb half) S = .ok (hv (d.half half)) S := by cases half <;> rfl
end Lw
set_option Elab.async false
set_option linter.all false
set_option maxRecDepth 10000
set_option maxHeartbeats 400000
namespace Lw
open PySem PySem.Spec PyProof.Rows L2 Mi
@[simp] theorem lpar0 {p : Par} {S : Sto} : idxM (lPar p) (.int 0) S = .ok (.str p.c) S := rfl
@[simp] theorem lpar1 {p : Par} {S : Sto} : idxM (lPar p) (.int 1) S = .ok (.str p.s) S := rfl
@[simp] theorem lpar2 {p : Par} {S : Sto} : idxM (lPar p) (.int 2) S = .ok (.str p.h) S := rfl
@[simp] theorem lpar3 {p : Par} {S : Sto} : idxM (lPar p) (.int 3) S = .ok (.str p.t) S := rfl
end Lw
set_option Elab.async false
set_option linter.all false
set_option maxRecDepth 10000
set_option maxHeartbeats 400000
namespace Lw
open PySem PySem.Spec PyProof.Rows L2 Mi
@[simp] theorem w_sub {e o i : ME} {ρ : Ev} {S : Sto} : mSub e o i ρ S = (e ρ S).thn ρ fun d S1 => (o ρ S1).thn ρ fun od S2 => (i ρ S2).thn ρ fun id S3 => match setM od id d S3 with
  | some S4 => .nx ρ S4
  | none => .stk := rfl
end Lw
set_option Elab.async false
set_option linter.all false
set_option maxRecDepth 10000
set_option maxHeartbeats 400000
namespace Lw
open PySem PySem.Spec PyProof.Rows L2 Mi
@[simp] theorem isn_int {a : Int} {S : Sto} : isnM (.int a) .non S = .ok (.bl true) S := rfl
@[simp] theorem is_int {a : Int} {S : Sto} : isM (.int a) .non S = .ok (.bl false) S := rfl
end Lw
set_option Elab.async false
set_option linter.all false
set_option maxRecDepth 10000
set_option maxHeartbeats 400000
set_option Elab.async false
set_option linter.all false
set_option maxRecDepth 10000
set_option maxHeartbeats 400000
namespace Lw
open PySem PySem.Spec PyProof.Rows L2 Mi
@[simp] theorem isn_olR {o : Option Row} {S : Sto} : isnM (olR o) .non S = .ok (.bl (!decide (o = none))) S := by cases o <;> rfl
@[simp] theorem is_olR {o : Option Row} {S : Sto} : isM (olR o) .non S = .ok (.bl (decide (o = none))) S := by cases o <;> rfl
@[simp] theorem is_oH {o : Option Hrs} {S : Sto} : isM (oH o) .non S = .ok (.bl (decide (o = none))) S := by cases o <;> rfl
@[simp] theorem isn_lrow {r : Row} {S : Sto} : isnM (lRow r) .non S = .ok (.bl true) S := rfl
@[simp] theorem stp_last1 {d : Nat} {h : Int} {S : Sto} : idxM (pStep (.one d h)) (.int (-1)) S = .ok (.int h) S := rfl
@[simp] theorem stp_last2 {d : Nat} {S : Sto} : idxM (pStep (.off d)) (.int (-1)) S = .ok (.int (d : Nat)) S := rfl
abbrev handK : List Key := [.inr "next", .inr "found", .inr "seen", .inr "old"]
def lHand (n : Nat) (m : Mem) : MO := .dct handK [.int (n : Nat), oB m.found, oH m.seen, olR m.old]
def lv (r : Nat) (hs : List Nat) : MV := .dct [.inr "rows", .inr "hands"] [.ref r, .lst (hs.map .ref)]
@[simp] theorem lv_rows {r : Nat} {hs : List Nat} {S : Sto} : idxM (lv r hs) (.str "rows") S = .ok (.ref r) S := rfl
@[simp] theorem lv_hands {r : Nat} {hs : List Nat} {S : Sto} : idxM (lv r hs) (.str "hands") S = .ok (.lst (hs.map .ref)) S := rfl
/-- the cells of a law's state -/
structure LSt (S : Sto) (r : Nat) (hs : List Nat) (s : WS) : Prop where
  rows : S[r]? = some (.lst (s.rows.map lRow))
  len : hs.length = s.mems.length
  hand : ∀ (n h : Nat), hs[n]? = some h → S[h]? = some (lHand (placeAt s n) (memAt s n))
  ne : ∀ (n h : Nat), hs[n]? = some h → r ≠ h
  inj : hs.Nodup
end Lw
set_option Elab.async false
set_option linter.all false
set_option maxRecDepth 10000
set_option maxHeartbeats 400000
namespace Lw
open PySem PySem.Spec PyProof.Rows L2 Mi
def hsN (b n : Nat) : List Nat := (List.range n).map fun i => b + 1 + i
def cells (n : Nat) (s : WS) : Sto := .lst (s.rows.map lRow) :: (List.range n).map fun i => lHand (placeAt s i) (memAt s i)
theorem hsN_get {b n i : Nat} (h : i < n) : (hsN b n)[i]? = some (b + 1 + i) := by
  unfold hsN; rw [List.getElem?_map, List.getElem?_range h]; rfl
theorem LSt.of {S e : Sto} {n : Nat} {s : WS} (h : s.mems.length = n) : LSt (S ++ (cells n s ++ e)) S.length (hsN S.length n) s := by
  refine ⟨?_, by simp [hsN, h], ?_, ?_, ?_⟩
  · rw [List.getElem?_append_right (Nat.le_refl _)]; simp [cells]
  · intro i x hx
    by_cases hi : i < n
    · rw [hsN_get hi] at hx
      cases hx
      rw [List.getElem?_append_right (by omega)]
      have : S.length + 1 + i - S.length = i + 1 := by omega
      rw [this, cells, List.cons_append, List.getElem?_cons_succ, List.getElem?_append_left (by simpa using hi), List.getElem?_map, List.getElem?_range hi]; rfl
    · rw [List.getElem?_eq_none (by simp [hsN]; omega)] at hx; cases hx
  · intro i x hx
    unfold hsN at hx
    rw [List.getElem?_map] at hx
    cases e : (List.range n)[i]? with
    | none => rw [e] at hx; cases hx
    | some j => rw [e] at hx; cases hx; show S.length ≠ S.length + 1 + j; omega
  · unfold hsN
    exact List.Pairwise.map _ (fun a b hab hc => hab (by omega)) List.nodup_range
theorem LSt.app {S e : Sto} {r : Nat} {hs : List Nat} {s : WS} (L : LSt S r hs s) : LSt (S ++ e) r hs s := by
  have up : ∀ {n : Nat} {o : MO}, S[n]? = some o → (S ++ e)[n]? = some o := fun {n o} h => by rw [List.getElem?_append_left (List.getElem?_eq_some_iff.mp h).1]; exact h
  exact ⟨up L.rows, L.len, fun n h hn => up (L.hand n h hn), L.ne, L.inj⟩
end Lw
set_option Elab.async false
set_option linter.all false
set_option maxRecDepth 10000
set_option maxHeartbeats 400000
set_option Elab.async false
set_option linter.all false
set_option maxRecDepth 10000
set_option maxHeartbeats 400000
set_option linter.all false
set_option maxRecDepth 100000
set_option maxHeartbeats 4000000
namespace Lw
open PySem PySem.Spec PyProof.Rows L2 Mi
structure Dr where
  ns : List Int
  i : Nat
  b : Int
  s : Int
def dr (d : Dr) : MO := .lst [.lst (d.ns.map MV.int), .int d.i, .int d.b, .int d.s]
def drS (d : Dr) : Dr := if d.b = 0 then (match d.ns[d.i]? with
  | some c => if 10 ^ 18 ≤ c then ⟨d.ns, d.i + 1, c, d.s⟩ else ⟨d.ns, d.i + 1, d.b, (d.s * 48271 + c * 69621 + 11) % 2147483647⟩
  | none => ⟨d.ns, d.i, d.b, (d.s * 48271 + 7) % 2147483647⟩) else d
def drK (d : Dr) (n : Int) : Int := if 0 < (drS d).b then (drS d).b % n else (drS d).s * 16807 % 2147483629 % n
def drN (d : Dr) (n : Int) : Dr := if 0 < (drS d).b then ⟨(drS d).ns, (drS d).i, (drS d).b / n, (drS d).s⟩ else drS d
theorem m38 (d : Dr) (T : Sto) (n : Int) : ∃ y, m_law_draw_s0 [some (.ref 0), some (.int n), none, none] (dr d :: T) = .nx [some (.ref 0), some (.int n), none, y] (dr (drS d) :: T) := by
  by_cases hb : d.b = 0
  · by_cases hl : d.i < d.ns.length
    · have hc : d.ns[d.i]? = some d.ns[d.i] := List.getElem?_eq_getElem hl
      by_cases h18 : (10 : Int) ^ 18 ≤ d.ns[d.i]
      · refine ⟨some (.int d.ns[d.i]), ?_⟩
        have h18' : (1000000000000000000 : Int) ≤ d.ns[d.i] := by simpa using h18
        simp [m_law_draw_s0, m_law_draw_s1, m_law_draw_s2, m_law_draw_s3, m_law_draw_s4, m_law_draw_s5, m_law_draw_s6, m_law_draw_s7, mSeq, mIfS, mTest, mOp, mVar, mC, mCallF, mCons, mNil, mSub, mAsg, tgName, oS, toB, idxM, seqOf, lstOf, atI, ixN, eqM, eqB, scalM, seqM, cmpI, lenM, intM, addM, mulM, modM, powM, setM, dr, drS, hb, hl, hc, h18']
      · refine ⟨some (.int d.ns[d.i]), ?_⟩
        have h18' : ¬ (1000000000000000000 : Int) ≤ d.ns[d.i] := by simpa using h18
        simp [m_law_draw_s0, m_law_draw_s1, m_law_draw_s2, m_law_draw_s3, m_law_draw_s4, m_law_draw_s5, m_law_draw_s6, m_law_draw_s7, mSeq, mIfS, mTest, mOp, mVar, mC, mCallF, mCons, mNil, mSub, mAsg, tgName, oS, toB, idxM, seqOf, lstOf, atI, ixN, eqM, eqB, scalM, seqM, cmpI, lenM, intM, addM, mulM, modM, powM, setM, dr, drS, hb, hl, hc, h18']
    · have hc : d.ns[d.i]? = none := List.getElem?_eq_none (by omega)
      refine ⟨none, ?_⟩
      simp [m_law_draw_s0, m_law_draw_s1, m_law_draw_s2, m_law_draw_s3, m_law_draw_s4, m_law_draw_s5, m_law_draw_s6, m_law_draw_s7, mSeq, mIfS, mTest, mOp, mVar, mC, mCallF, mCons, mNil, mSub, mAsg, tgName, oS, toB, idxM, seqOf, lstOf, atI, ixN, eqM, eqB, scalM, seqM, cmpI, lenM, intM, addM, mulM, modM, powM, setM, dr, drS, hb, hl, hc]
  · refine ⟨none, ?_⟩
    simp [m_law_draw_s0, mNext, mIfS, mTest, mOp, mVar, mC, toB, idxM, seqOf, lstOf, atI, ixN, eqM, eqB, scalM, seqM, dr, drS, hb]
theorem draw_eq (d : Dr) (T : Sto) (n : Int) (h0 : 0 < n) (h1 : n < 1073741824) : m_law_draw [.ref 0, .int n] (dr d :: T) = .ok (.int (drK d n)) (dr (drN d n) :: T) := by
  obtain ⟨y, e⟩ := m38 d T n
  have e0 : ev0 4 [.ref 0, .int n] = [some (.ref 0), some (.int n), none, none] := rfl
  unfold m_law_draw mFn
  rw [e0]
  simp only [mSeq, e]
  by_cases hb : 0 < (drS d).b
  · simp [m_law_draw_s8, m_law_draw_s9, m_law_draw_s10, m_law_draw_s11, mNext, mSeq, mRet, mIfS, mTest, mOp, mVar, mC, mCallF, mCons, mNil, mSub, mAsg, tgName, oS, toB, toR, idxM, seqOf, lstOf, atI, ixN, cmpI, intM, modM, fdivM, setM, dr, drK, drN, hb, h0, h1]
  · simp [m_law_draw_s8, m_law_draw_s9, m_law_draw_s10, m_law_draw_s11, m_law_draw_s12, mNext, mSeq, mRet, mIfS, mTest, mOp, mVar, mC, mCallF, mCons, mNil, mSub, mAsg, tgName, oS, toB, toR, idxM, seqOf, lstOf, atI, ixN, cmpI, intM, mulM, modM, fdivM, setM, dr, drK, drN, hb, h0, h1]
theorem drK_lt (d : Dr) (n : Int) (h0 : 0 < n) : 0 ≤ drK d n ∧ drK d n < n := by
  unfold drK
  split
  · exact ⟨Int.emod_nonneg _ (by omega), Int.emod_lt_of_pos _ h0⟩
  · exact ⟨Int.emod_nonneg _ (by omega), Int.emod_lt_of_pos _ h0⟩
end Lw
set_option Elab.async false
set_option linter.all false
set_option maxRecDepth 10000
set_option maxHeartbeats 400000
namespace Lw
open PySem PySem.Spec PyProof.Rows L2 Mi
theorem draw {d : Dr} {T : Sto} {n : Nat} (h0 : 0 < n) (h1 : n ≤ 1000) : ∃ (k : Nat) (d' : Dr), k < n ∧ m_law_draw [.ref 0, .int (n : Nat)] (dr d :: T) = .ok (.int (k : Nat)) (dr d' :: T) := by
  have e := draw_eq d T (n : Int) (by omega) (by omega)
  obtain ⟨a, b⟩ := drK_lt d (n : Int) (by omega)
  refine ⟨(drK d n).toNat, drN d n, by omega, ?_⟩
  rw [e, Int.toNat_of_nonneg a]
theorem pick {xs : List MV} {k : Nat} {S : Sto} (h : k < xs.length) : ∃ x ∈ xs, idxM (.lst xs) (.int (k : Int)) S = .ok x S := ⟨xs[k], List.getElem_mem h, ix_lst (List.getElem?_eq_getElem h)⟩
def lits (ys : List String) : List MV := ys.map fun y : String => MV.str (Str.ofString y)
theorem in_strs {x : Str} {ys : List String} {S : Sto} (hx : sh (.str x) = true) : inM (.str x) (.tup (lits ys)) S = .ok (.bl (ys.any fun y : String => decide (x = Str.ofString y))) S := by
  have s1 : shs (lits ys) = true := shs_map (fun y => sh_lit y) ys
  have d1 : dpts (lits ys) ≤ 0 := dpts_map ys fun _ _ => Nat.le_refl _
  unfold inM
  rw [inB_sh (c := .tup (lits ys)) (ys := lits ys) (.inl rfl) hx s1 (by simp [dpt]) (by omega)]
  have : ∀ ys : List String, decide (cn (.str x) ∈ cns (lits ys)) = ys.any fun y : String => decide (x = Str.ofString y) := fun ys => by
    induction ys with
    | nil => rfl
    | cons y ys ih =>
      rw [lits, List.map_cons, ← lits, cns, List.any_cons, ← ih]
      simp [cn]
      congr
  simp only [this]
theorem fset_last {S : Sto} {c f : Str} {fs : List Str} {ds : List MV} {x : MV} (h : fs.length < 900) : fsetM c f (.ref S.length) x (S ++ [.obj c fs ds]) = some (S ++ [.obj c (fput fs ds f x).1 (fput fs ds f x).2]) := by
  unfold fsetM
  simp [h]
@[simp] theorem w_fset {c f : Str} {e o : ME} {ρ : Ev} {S : Sto} : mFset c f e o ρ S = (e ρ S).thn ρ fun d S1 => (o ρ S1).thn ρ fun od S2 => match fsetM c f od d S2 with
  | some S3 => .nx ρ S3
  | none => .stk := rfl
@[simp] theorem w_ninM {a b : MV} {S : Sto} {k : Bool} (h : inM a b S = .ok (.bl k) S) : ninM a b S = .ok (.bl (!k)) S := by
  unfold inM at h
  unfold ninM
  cases e : inB S a b with
  | none => simp [e] at h
  | some k' => rw [e] at h; cases h; rfl
theorem law_rule_eq {p : Par} (hp : POk p) {S : Sto} : m_law_rule [lPar p] S = .ok (pPar p) S := by
  have sc : sh (.str p.c) = true := by rcases hp.c with h | h | h <;> rw [h] <;> exact sh_lit _
  have ss : sh (.str p.s) = true := by rcases hp.s with h | h | h <;> rw [h] <;> exact sh_lit _
  have sh' : sh (.str p.h) = true := by rcases hp.h with h | h <;> rw [h] <;> exact sh_lit _
  have st : sh (.str p.t) = true := by rcases hp.t with h | h <;> rw [h] <;> exact sh_lit _
  have i1 : ∀ S, ninM (.str p.c) (.tup [.str "none", .str "room", .str "both"]) S = .ok (.bl false) S := fun S => by
    show ninM (.str p.c) (.tup (lits ["none", "room", "both"])) S = _
    rw [w_ninM (in_strs (ys := ["none", "room", "both"]) sc)]
    rcases hp.c with h | h | h <;> simp [h]
  have i2 : ∀ S, ninM (.str p.s) (.tup [.str "keep", .str "move", .str "reset"]) S = .ok (.bl false) S := fun S => by
    show ninM (.str p.s) (.tup (lits ["keep", "move", "reset"])) S = _
    rw [w_ninM (in_strs (ys := ["keep", "move", "reset"]) ss)]
    rcases hp.s with h | h | h <;> simp [h]
  have i3 : ∀ S, ninM (.str p.h) (.tup [.str "left", .str "undone"]) S = .ok (.bl false) S := fun S => by
    show ninM (.str p.h) (.tup (lits ["left", "undone"])) S = _
    rw [w_ninM (in_strs (ys := ["left", "undone"]) sh')]
    rcases hp.h with h | h <;> simp [h]
  have i4 : ∀ S, ninM (.str p.t) (.tup [.str "now", .str "seen"]) S = .ok (.bl false) S := fun S => by
    show ninM (.str p.t) (.tup (lits ["now", "seen"])) S = _
    rw [w_ninM (in_strs (ys := ["now", "seen"]) st)]
    rcases hp.t with h | h <;> simp [h]
  have init : m_Rule___init__ [.ref S.length, .str p.c, .str p.s, .str p.h, .str p.t] (S ++ [.obj "Rule" [] []]) = .ok .non (S ++ [.obj "Rule" ["checking", "singles", "halves", "telling"] [.str p.c, .str p.s, .str p.h, .str p.t]]) := by
    have z : ∀ S, zp3Of [d_PARTS, .tup [.str p.c, .str p.s, .str p.h, .str p.t], d_VALUES] S = .ok (.zp3 d_PARTS [.str "checking", .str "singles", .str "halves", .str "telling"] (.tup [.str p.c, .str p.s, .str p.h, .str p.t]) [.str p.c, .str p.s, .str p.h, .str p.t] d_VALUES [.tup [.str "none", .str "room", .str "both"], .tup [.str "keep", .str "move", .str "reset"], .tup [.str "left", .str "undone"], .tup [.str "now", .str "seen"]]) S := fun S => rfl
    have zo : ∀ S, Src.ok S (.zp3 d_PARTS [.str "checking", .str "singles", .str "halves", .str "telling"] (.tup [.str p.c, .str p.s, .str p.h, .str p.t]) [.str p.c, .str p.s, .str p.h, .str p.t] d_VALUES [.tup [.str "none", .str "room", .str "both"], .tup [.str "keep", .str "move", .str "reset"], .tup [.str "left", .str "undone"], .tup [.str "now", .str "seen"]]) = true := fun S => by simp [Src.ok, seqOf, d_PARTS, d_VALUES]
    simp only [m_Rule___init__, mFn, w_seq', m_Rule___init___s0, w_for', w_zip3, w_cons, w_nil, w_c, w_tup, w_var', ev0_eq, List.map_cons, List.map_nil, List.cons_append, List.nil_append, List.getElem?_cons_succ, List.getElem?_cons_zero, R.bind_ok, z, R.thn_ok]
    simp [Src.items, zipI3, forGo_cons, zo, forGo, m_Rule___init___s1, i1, i2, i3, i4, m_Rule___init___s3, m_Rule___init___s4, m_Rule___init___s5, m_Rule___init___s6, fset_last, fput]
  refine frzF_ok (S' := S ++ [.obj "Rule" ["checking", "singles", "halves", "telling"] [.str p.c, .str p.s, .str p.h, .str p.t]]) (d := .ref S.length) ?_ ?_ (by simp)
  · simp [mFn, m_law_rule_s0, makM, init]
  · simp [frz, pPar, pRule, refsB]
theorem law_values_eq {S : Sto} : m_law_values [] S = .ok (.lst [.lst [.str "none", .str "room", .str "both"], .lst [.str "keep", .str "move", .str "reset"], .lst [.str "left", .str "undone"], .lst [.str "now", .str "seen"]]) S := by
  simp [m_law_values, mFn, m_law_values_s0]
theorem law_parts_eq {d : Dr} {T : Sto} : ∃ p d', POk p ∧ m_law_parts [.ref 0] (dr d :: T) = .ok (lPar p) (dr d' :: T) := by
  obtain ⟨k1, d1, h1, e1⟩ := draw (d := d) (T := T) (n := 3) (by decide) (by decide)
  obtain ⟨k2, d2, h2, e2⟩ := draw (d := d1) (T := T) (n := 3) (by decide) (by decide)
  obtain ⟨k3, d3, h3, e3⟩ := draw (d := d2) (T := T) (n := 2) (by decide) (by decide)
  obtain ⟨k4, d4, h4, e4⟩ := draw (d := d3) (T := T) (n := 2) (by decide) (by decide)
  obtain ⟨x1, m1, f1⟩ := pick (xs := [.str "none", .str "room", .str "both"]) (S := dr d1 :: T) h1
  obtain ⟨x2, m2, f2⟩ := pick (xs := [.str "keep", .str "move", .str "reset"]) (S := dr d2 :: T) h2
  obtain ⟨x3, m3, f3⟩ := pick (xs := [.str "left", .str "undone"]) (S := dr d3 :: T) h3
  obtain ⟨x4, m4, f4⟩ := pick (xs := [.str "now", .str "seen"]) (S := dr d4 :: T) h4
  have g1 : ∃ c : Str, x1 = .str c ∧ (c = "none" ∨ c = "room" ∨ c = "both") := by simp at m1; rcases m1 with h | h | h <;> exact ⟨_, h, by simp⟩
  have g2 : ∃ c : Str, x2 = .str c ∧ (c = "keep" ∨ c = "move" ∨ c = "reset") := by simp at m2; rcases m2 with h | h | h <;> exact ⟨_, h, by simp⟩
  have g3 : ∃ c : Str, x3 = .str c ∧ (c = "left" ∨ c = "undone") := by simp at m3; rcases m3 with h | h <;> exact ⟨_, h, by simp⟩
  have g4 : ∃ c : Str, x4 = .str c ∧ (c = "now" ∨ c = "seen") := by simp at m4; rcases m4 with h | h <;> exact ⟨_, h, by simp⟩
  obtain ⟨c1, rfl, q1⟩ := g1
  obtain ⟨c2, rfl, q2⟩ := g2
  obtain ⟨c3, rfl, q3⟩ := g3
  obtain ⟨c4, rfl, q4⟩ := g4
  refine ⟨⟨c1, c2, c3, c4⟩, d4, ⟨q1, q2, q3, q4⟩, ?_⟩
  have z4 : 4 ≤ sizeLine := by rw [sizeLine_eq]; omega
  simp at e1 e2 e3 e4 f1 f2 f3 f4
  simp [m_law_parts, mFn, m_law_parts_s0, law_values_eq, z4, lcGo, tgName, e1, e2, e3, e4, f1, f2, f3, f4, lPar]
end Lw
set_option Elab.async false
set_option linter.all false
set_option maxRecDepth 100000
set_option maxHeartbeats 4000000
namespace Lw
open PySem PySem.Spec PyProof.Rows L2 Mi
def okT : RS → Bool
  | .rt (.bl true) _ => true
  | _ => false
theorem okT_ex {r : RS} (h : okT r = true) : ∃ S', r = .rt (.bl true) S' := by
  unfold okT at h
  split at h
  · exact ⟨_, rfl⟩
  · cases h
noncomputable def tailS : MS := mSeq m_law_s4 (mSeq m_law_s5 (mSeq m_law_s6 (mSeq m_law_s7 (mSeq m_law_s8 (mSeq m_law_s9 (mSeq m_law_s10 (mSeq m_law_s11 m_law_s13)))))))
def envT (x : MV) (r : MV) (k a : Int) : Ev := [some x, some (.ref 0), some r, some (.int k), some (.int a), none, none, none, none, none, none, none]
section
variable (x : MV) (o : MO) (c s h t : Str)
theorem t00 : okT (tailS (envT x (pRule c s h t) 0 0) [o]) = true := by kernel_rfl
theorem t01 : okT (tailS (envT x (pRule c s h t) 0 1) [o]) = true := by kernel_rfl
theorem t02 : okT (tailS (envT x (pRule c s h t) 0 2) [o]) = true := by kernel_rfl
theorem t03 : okT (tailS (envT x (pRule c s h t) 0 3) [o]) = true := by kernel_rfl
theorem t04 : okT (tailS (envT x (pRule c s h t) 0 4) [o]) = true := by kernel_rfl
theorem t05 : okT (tailS (envT x (pRule c s h t) 0 5) [o]) = true := by kernel_rfl
theorem t06 : okT (tailS (envT x (pRule c s h t) 0 6) [o]) = true := by kernel_rfl
theorem t07 : okT (tailS (envT x (pRule c s h t) 0 7) [o]) = true := by kernel_rfl
theorem t10 : okT (tailS (envT x (pRule c s h t) 1 0) [o]) = true := by kernel_rfl
theorem t11 : okT (tailS (envT x (pRule c s h t) 1 1) [o]) = true := by kernel_rfl
theorem t12 : okT (tailS (envT x (pRule c s h t) 1 2) [o]) = true := by kernel_rfl
theorem t13 : okT (tailS (envT x (pRule c s h t) 1 3) [o]) = true := by kernel_rfl
theorem t14 : okT (tailS (envT x (pRule c s h t) 1 4) [o]) = true := by kernel_rfl
theorem t15 : okT (tailS (envT x (pRule c s h t) 1 5) [o]) = true := by kernel_rfl
theorem t16 : okT (tailS (envT x (pRule c s h t) 1 6) [o]) = true := by kernel_rfl
theorem t17 : okT (tailS (envT x (pRule c s h t) 1 7) [o]) = true := by kernel_rfl
theorem t30 : okT (tailS (envT x (pRule c s h t) 3 0) [o]) = true := by kernel_rfl
theorem t31 : okT (tailS (envT x (pRule c s h t) 3 1) [o]) = true := by kernel_rfl
theorem t32 : okT (tailS (envT x (pRule c s h t) 3 2) [o]) = true := by kernel_rfl
theorem t33 : okT (tailS (envT x (pRule c s h t) 3 3) [o]) = true := by kernel_rfl
theorem t34 : okT (tailS (envT x (pRule c s h t) 3 4) [o]) = true := by kernel_rfl
theorem t35 : okT (tailS (envT x (pRule c s h t) 3 5) [o]) = true := by kernel_rfl
theorem t36 : okT (tailS (envT x (pRule c s h t) 3 6) [o]) = true := by kernel_rfl
theorem t37 : okT (tailS (envT x (pRule c s h t) 3 7) [o]) = true := by kernel_rfl
theorem t40 : okT (tailS (envT x (pRule c s h t) 4 0) [o]) = true := by kernel_rfl
theorem t41 : okT (tailS (envT x (pRule c s h t) 4 1) [o]) = true := by kernel_rfl
theorem t42 : okT (tailS (envT x (pRule c s h t) 4 2) [o]) = true := by kernel_rfl
theorem t43 : okT (tailS (envT x (pRule c s h t) 4 3) [o]) = true := by kernel_rfl
theorem t44 : okT (tailS (envT x (pRule c s h t) 4 4) [o]) = true := by kernel_rfl
theorem t45 : okT (tailS (envT x (pRule c s h t) 4 5) [o]) = true := by kernel_rfl
theorem t46 : okT (tailS (envT x (pRule c s h t) 4 6) [o]) = true := by kernel_rfl
theorem t47 : okT (tailS (envT x (pRule c s h t) 4 7) [o]) = true := by kernel_rfl
theorem t50 : okT (tailS (envT x (pRule c s h t) 5 0) [o]) = true := by kernel_rfl
theorem t51 : okT (tailS (envT x (pRule c s h t) 5 1) [o]) = true := by kernel_rfl
theorem t52 : okT (tailS (envT x (pRule c s h t) 5 2) [o]) = true := by kernel_rfl
theorem t53 : okT (tailS (envT x (pRule c s h t) 5 3) [o]) = true := by kernel_rfl
theorem t54 : okT (tailS (envT x (pRule c s h t) 5 4) [o]) = true := by kernel_rfl
theorem t55 : okT (tailS (envT x (pRule c s h t) 5 5) [o]) = true := by kernel_rfl
theorem t56 : okT (tailS (envT x (pRule c s h t) 5 6) [o]) = true := by kernel_rfl
theorem t57 : okT (tailS (envT x (pRule c s h t) 5 7) [o]) = true := by kernel_rfl
theorem t60 : okT (tailS (envT x (pRule c s h t) 6 0) [o]) = true := by kernel_rfl
theorem t61 : okT (tailS (envT x (pRule c s h t) 6 1) [o]) = true := by kernel_rfl
theorem t62 : okT (tailS (envT x (pRule c s h t) 6 2) [o]) = true := by kernel_rfl
theorem t63 : okT (tailS (envT x (pRule c s h t) 6 3) [o]) = true := by kernel_rfl
theorem t64 : okT (tailS (envT x (pRule c s h t) 6 4) [o]) = true := by kernel_rfl
theorem t65 : okT (tailS (envT x (pRule c s h t) 6 5) [o]) = true := by kernel_rfl
theorem t66 : okT (tailS (envT x (pRule c s h t) 6 6) [o]) = true := by kernel_rfl
theorem t67 : okT (tailS (envT x (pRule c s h t) 6 7) [o]) = true := by kernel_rfl
theorem t70 : okT (tailS (envT x (pRule c s h t) 7 0) [o]) = true := by kernel_rfl
theorem t71 : okT (tailS (envT x (pRule c s h t) 7 1) [o]) = true := by kernel_rfl
theorem t72 : okT (tailS (envT x (pRule c s h t) 7 2) [o]) = true := by kernel_rfl
theorem t73 : okT (tailS (envT x (pRule c s h t) 7 3) [o]) = true := by kernel_rfl
theorem t74 : okT (tailS (envT x (pRule c s h t) 7 4) [o]) = true := by kernel_rfl
theorem t75 : okT (tailS (envT x (pRule c s h t) 7 5) [o]) = true := by kernel_rfl
theorem t76 : okT (tailS (envT x (pRule c s h t) 7 6) [o]) = true := by kernel_rfl
theorem t77 : okT (tailS (envT x (pRule c s h t) 7 7) [o]) = true := by kernel_rfl
theorem t8now0 : okT (tailS (envT x (pRule c s h "now") 8 0) [o]) = true := by kernel_rfl
theorem t8now1 : okT (tailS (envT x (pRule c s h "now") 8 1) [o]) = true := by kernel_rfl
theorem t8now2 : okT (tailS (envT x (pRule c s h "now") 8 2) [o]) = true := by kernel_rfl
theorem t8now3 : okT (tailS (envT x (pRule c s h "now") 8 3) [o]) = true := by kernel_rfl
theorem t8now4 : okT (tailS (envT x (pRule c s h "now") 8 4) [o]) = true := by kernel_rfl
theorem t8now5 : okT (tailS (envT x (pRule c s h "now") 8 5) [o]) = true := by kernel_rfl
theorem t8now6 : okT (tailS (envT x (pRule c s h "now") 8 6) [o]) = true := by kernel_rfl
theorem t8now7 : okT (tailS (envT x (pRule c s h "now") 8 7) [o]) = true := by kernel_rfl
theorem t8seen0 : okT (tailS (envT x (pRule c s h "seen") 8 0) [o]) = true := by kernel_rfl
theorem t8seen1 : okT (tailS (envT x (pRule c s h "seen") 8 1) [o]) = true := by kernel_rfl
theorem t8seen2 : okT (tailS (envT x (pRule c s h "seen") 8 2) [o]) = true := by kernel_rfl
theorem t8seen3 : okT (tailS (envT x (pRule c s h "seen") 8 3) [o]) = true := by kernel_rfl
theorem t8seen4 : okT (tailS (envT x (pRule c s h "seen") 8 4) [o]) = true := by kernel_rfl
theorem t8seen5 : okT (tailS (envT x (pRule c s h "seen") 8 5) [o]) = true := by kernel_rfl
theorem t8seen6 : okT (tailS (envT x (pRule c s h "seen") 8 6) [o]) = true := by kernel_rfl
theorem t8seen7 : okT (tailS (envT x (pRule c s h "seen") 8 7) [o]) = true := by kernel_rfl
end
def faultsL : List MV := [.non, .str "room", .tup [.str "room"], .lst [.str "gone"], .lst [.non], .lst [.lst [.str "room"]], .lst [.str "room", .str "ROOM"], .dct [] []]
def worldE : MV := .tup [.int 1, .int 2, .tup [.tup [.int 0, .int 0]], .tup [.tup [.int 0, .tup [.tup [.str "tell"]]]]]
section
variable (r w : MV) (S : Sto)
theorem bars0 : m_bars [r, worldE, .non] S = .exc "BadFault" .non S := by kernel_rfl
theorem mends0 : m_mends [r, worldE, .non] S = .exc "BadFault" .non S := by kernel_rfl
theorem show0 : showM (.non) = true := by kernel_rfl
theorem bars1 : m_bars [r, worldE, .str "room"] S = .exc "BadFault" .non S := by kernel_rfl
theorem mends1 : m_mends [r, worldE, .str "room"] S = .exc "BadFault" .non S := by kernel_rfl
theorem show1 : showM (.str "room") = true := by kernel_rfl
theorem bars2 : m_bars [r, worldE, .tup [.str "room"]] S = .exc "BadFault" .non S := by kernel_rfl
theorem mends2 : m_mends [r, worldE, .tup [.str "room"]] S = .exc "BadFault" .non S := by kernel_rfl
theorem show2 : showM (.tup [.str "room"]) = true := by kernel_rfl
theorem bars3 : m_bars [r, worldE, .lst [.str "gone"]] S = .exc "BadFault" .non S := by kernel_rfl
theorem mends3 : m_mends [r, worldE, .lst [.str "gone"]] S = .exc "BadFault" .non S := by kernel_rfl
theorem show3 : showM (.lst [.str "gone"]) = true := by kernel_rfl
theorem bars4 : m_bars [r, worldE, .lst [.non]] S = .exc "BadFault" .non S := by kernel_rfl
theorem mends4 : m_mends [r, worldE, .lst [.non]] S = .exc "BadFault" .non S := by kernel_rfl
theorem show4 : showM (.lst [.non]) = true := by kernel_rfl
theorem bars5 : m_bars [r, worldE, .lst [.lst [.str "room"]]] S = .exc "BadFault" .non S := by kernel_rfl
theorem mends5 : m_mends [r, worldE, .lst [.lst [.str "room"]]] S = .exc "BadFault" .non S := by kernel_rfl
theorem show5 : showM (.lst [.lst [.str "room"]]) = true := by kernel_rfl
theorem bars6 : m_bars [r, worldE, .lst [.str "room", .str "ROOM"]] S = .exc "BadFault" .non S := by kernel_rfl
theorem mends6 : m_mends [r, worldE, .lst [.str "room", .str "ROOM"]] S = .exc "BadFault" .non S := by kernel_rfl
theorem show6 : showM (.lst [.str "room", .str "ROOM"]) = true := by kernel_rfl
theorem bars7 : m_bars [r, worldE, .dct [] []] S = .exc "BadFault" .non S := by kernel_rfl
theorem mends7 : m_mends [r, worldE, .dct [] []] S = .exc "BadFault" .non S := by kernel_rfl
theorem show7 : showM (.dct [] []) = true := by kernel_rfl
end
theorem both_eq : ∀ th ∈ faultsL, ∀ (r : MV) (S : Sto), mBoth m_bars m_mends [r, worldE, th] S = .exc "BadFault" .non S ∧ showM th = true := by
  intro th m r S
  simp only [faultsL, List.mem_cons, List.not_mem_nil, or_false] at m
  rcases m with rfl | rfl | rfl | rfl | rfl | rfl | rfl | rfl
  · exact ⟨mBoth_eq (bars0 r S) (mends0 r S), show0⟩
  · exact ⟨mBoth_eq (bars1 r S) (mends1 r S), show1⟩
  · exact ⟨mBoth_eq (bars2 r S) (mends2 r S), show2⟩
  · exact ⟨mBoth_eq (bars3 r S) (mends3 r S), show3⟩
  · exact ⟨mBoth_eq (bars4 r S) (mends4 r S), show4⟩
  · exact ⟨mBoth_eq (bars5 r S) (mends5 r S), show5⟩
  · exact ⟨mBoth_eq (bars6 r S) (mends6 r S), show6⟩
  · exact ⟨mBoth_eq (bars7 r S) (mends7 r S), show7⟩
end Lw
set_option Elab.async false
set_option linter.all false
set_option maxRecDepth 100000
set_option maxHeartbeats 4000000
namespace Lw
open PySem PySem.Spec PyProof.Rows L2 Mi
theorem call2 {th : MV} (h : th ∈ faultsL) (r cal : MV) (S : Sto) : m_law_call [r, cal, .int 2, th] S = .exc "BadFault" .non S := by
  obtain ⟨h1, h2⟩ := both_eq th h r S
  have s0 : m_law_call_s0 (ev0 5 [r, cal, .int 2, th]) S = .nx [some r, some cal, some (.int 2), some th, some worldE] S := by kernel_rfl
  have e : (mPick m_bars m_mends (mVar 3) (mCons (mVar 0) (mCons (mVar 4) (mCons (mVar 3) mNil)))) [some r, some cal, some (.int 2), some th, some worldE] S = .exc "BadFault" .non S := by
    show (if showM th = true then mBoth m_bars m_mends [r, worldE, th] S else .stk) = _
    rw [if_pos h2, h1]
  have s6 : m_law_call_s6 [some r, some cal, some (.int 2), some th, some worldE] S = .exc "BadFault" .non [some r, some cal, some (.int 2), some th, some worldE] S := by
    show ((mPick m_bars m_mends (mVar 3) (mCons (mVar 0) (mCons (mVar 4) (mCons (mVar 3) mNil)))) [some r, some cal, some (.int 2), some th, some worldE] S).thn _ _ = _
    rw [e]; rfl
  have s1 : m_law_call_s1 [some r, some cal, some (.int 2), some th, some worldE] S = m_law_call_s6 [some r, some cal, some (.int 2), some th, some worldE] S := by kernel_rfl
  simp only [m_law_call, mFn]
  rw [w_seq', s0, nxt_nx, s1, s6]
  rfl
theorem kind2 {th : MV} (h : th ∈ faultsL) (r cal : MV) (S : Sto) : m_law_kind [r, cal, .int 2, th] S = .ok (.lst [.int 2, .non]) S := by
  have s0 : m_law_kind_s0 (ev0 6 [r, cal, .int 2, th]) S = .nx [some r, some cal, some (.int 2), some th, some .non, none] S := by kernel_rfl
  have s2 : m_law_kind_s2 [some r, some cal, some (.int 2), some th, some .non, none] S = .exc "BadFault" .non [some r, some cal, some (.int 2), some th, some .non, none] S := by
    show (m_law_call [r, cal, .int 2, th] S).thn _ _ = _
    rw [call2 h]; rfl
  have s1 : m_law_kind_s1 [some r, some cal, some (.int 2), some th, some .non, none] S = .nx [some r, some cal, some (.int 2), some th, some (.lst [.int 2, .non]), none] S := by
    unfold m_law_kind_s1 mTryX
    rw [s2]
    kernel_rfl
  simp only [m_law_kind, mFn]
  rw [w_seq', s0, nxt_nx, w_seq', s1, nxt_nx]
  rfl
theorem under2 {th : MV} (h : th ∈ faultsL) (r cal : MV) (S : Sto) : m_law_under [r, cal, .int 2, th] S = .ok (.bl true) S := by
  have s0 : m_law_under_s0 (ev0 5 [r, cal, .int 2, th]) S = .nx [some r, some cal, some (.int 2), some th, some (.bl false)] S := by kernel_rfl
  have s2 : m_law_under_s2 [some r, some cal, some (.int 2), some th, some (.bl false)] S = .exc "BadFault" .non [some r, some cal, some (.int 2), some th, some (.bl false)] S := by
    show (m_law_call [r, cal, .int 2, th] S).thn _ _ = _
    rw [call2 h]; rfl
  have s1 : m_law_under_s1 [some r, some cal, some (.int 2), some th, some (.bl false)] S = .nx [some r, some cal, some (.int 2), some th, some (.bl true)] S := by
    unfold m_law_under_s1 mTry
    rw [s2]
    kernel_rfl
  simp only [m_law_under, mFn]
  rw [w_seq', s0, nxt_nx, w_seq', s1, nxt_nx]
  rfl
def stoOf : R MV → Sto
  | .ok _ S => S
  | _ => []
def calS (r : MV) (S : Sto) : Sto := stoOf (m_law_calendar [r, .int 2] S)
noncomputable def preS : MS := mSeq m_law_s4 (mSeq m_law_s5 (mSeq m_law_s6 (mSeq m_law_s7 (mSeq m_law_s8 (mSeq m_law_s9 m_law_s10)))))
noncomputable def rho (x r : MV) (a : Int) (o : MO) : Ev := match preS (envT x r 2 a) [o] with
  | .nx ρ _ => ρ
  | _ => []
def refOf : R MV → MV
  | .ok d _ => d
  | _ => .non
section
variable (x : MV) (o : MO) (c s h t : Str)
theorem t20 : okT (tailS (envT x (pRule c s h t) 2 0) [o]) = true := by
  have m : (.non : MV) ∈ faultsL := by simp [faultsL]
  have e : tailS (envT x (pRule c s h t) 2 0) [o] = mSeq m_law_s11 m_law_s13 (rho x (pRule c s h t) 0 o) [o] := by kernel_rfl
  have a1 : (mCons (mVar 2) (mCons (mCallF m_law_calendar (mCons (mVar 2) (mCons (mVar 3) mNil))) (mCons (mVar 3) (mCons (mOp idxM (mVar 10) (mVar 3)) mNil)))) (rho x (pRule c s h t) 0 o) [o] = .ok [pRule c s h t, .ref 1, .int 2, .non] (calS (pRule c s h t) [o]) := by kernel_rfl
  have k1 : (mCallF m_law_kind (mCons (mVar 2) (mCons (mCallF m_law_calendar (mCons (mVar 2) (mCons (mVar 3) mNil))) (mCons (mVar 3) (mCons (mOp idxM (mVar 10) (mVar 3)) mNil))))) (rho x (pRule c s h t) 0 o) [o] = .ok (.lst [.int 2, .non]) (calS (pRule c s h t) [o]) := by
    unfold mCallF at a1 ⊢
    rw [a1]
    exact kind2 m _ _ _
  have s11 : m_law_s11 (rho x (pRule c s h t) 0 o) [o] = .nx (rho x (pRule c s h t) 0 o) (calS (pRule c s h t) [o]) := by
    unfold m_law_s11
    generalize mCallF m_law_kind (mCons (mVar 2) (mCons (mCallF m_law_calendar (mCons (mVar 2) (mCons (mVar 3) mNil))) (mCons (mVar 3) (mCons (mOp idxM (mVar 10) (mVar 3)) mNil)))) = A at k1 ⊢
    unfold mIfS mTest mOp
    rw [k1]
    kernel_rfl
  have a2 : (mCons (mVar 2) (mCons (mCallF m_law_calendar (mCons (mVar 2) (mCons (mVar 3) mNil))) (mCons (mVar 3) (mCons (mOp idxM (mVar 10) (mVar 3)) mNil)))) (rho x (pRule c s h t) 0 o) (calS (pRule c s h t) [o]) = .ok [pRule c s h t, refOf (m_law_calendar [pRule c s h t, .int 2] (calS (pRule c s h t) [o])), .int 2, .non] (calS (pRule c s h t) (calS (pRule c s h t) [o])) := by kernel_rfl
  have k2 : (mCallF m_law_under (mCons (mVar 2) (mCons (mCallF m_law_calendar (mCons (mVar 2) (mCons (mVar 3) mNil))) (mCons (mVar 3) (mCons (mOp idxM (mVar 10) (mVar 3)) mNil))))) (rho x (pRule c s h t) 0 o) (calS (pRule c s h t) [o]) = .ok (.bl true) (calS (pRule c s h t) (calS (pRule c s h t) [o])) := by
    unfold mCallF at a2 ⊢
    rw [a2]
    exact under2 m _ _ _
  have s13 : m_law_s13 (rho x (pRule c s h t) 0 o) (calS (pRule c s h t) [o]) = .rt (.bl true) (calS (pRule c s h t) (calS (pRule c s h t) [o])) := by
    unfold m_law_s13
    generalize mCallF m_law_under (mCons (mVar 2) (mCons (mCallF m_law_calendar (mCons (mVar 2) (mCons (mVar 3) mNil))) (mCons (mVar 3) (mCons (mOp idxM (mVar 10) (mVar 3)) mNil)))) = A at k2 ⊢
    unfold mRet
    rw [k2]
    rfl
  rw [e, w_seq', s11, nxt_nx, s13]
  rfl
theorem t21 : okT (tailS (envT x (pRule c s h t) 2 1) [o]) = true := by
  have m : (.str "room" : MV) ∈ faultsL := by simp [faultsL]
  have e : tailS (envT x (pRule c s h t) 2 1) [o] = mSeq m_law_s11 m_law_s13 (rho x (pRule c s h t) 1 o) [o] := by kernel_rfl
  have a1 : (mCons (mVar 2) (mCons (mCallF m_law_calendar (mCons (mVar 2) (mCons (mVar 3) mNil))) (mCons (mVar 3) (mCons (mOp idxM (mVar 10) (mVar 3)) mNil)))) (rho x (pRule c s h t) 1 o) [o] = .ok [pRule c s h t, .ref 1, .int 2, .str "room"] (calS (pRule c s h t) [o]) := by kernel_rfl
  have k1 : (mCallF m_law_kind (mCons (mVar 2) (mCons (mCallF m_law_calendar (mCons (mVar 2) (mCons (mVar 3) mNil))) (mCons (mVar 3) (mCons (mOp idxM (mVar 10) (mVar 3)) mNil))))) (rho x (pRule c s h t) 1 o) [o] = .ok (.lst [.int 2, .non]) (calS (pRule c s h t) [o]) := by
    unfold mCallF at a1 ⊢
    rw [a1]
    exact kind2 m _ _ _
  have s11 : m_law_s11 (rho x (pRule c s h t) 1 o) [o] = .nx (rho x (pRule c s h t) 1 o) (calS (pRule c s h t) [o]) := by
    unfold m_law_s11
    generalize mCallF m_law_kind (mCons (mVar 2) (mCons (mCallF m_law_calendar (mCons (mVar 2) (mCons (mVar 3) mNil))) (mCons (mVar 3) (mCons (mOp idxM (mVar 10) (mVar 3)) mNil)))) = A at k1 ⊢
    unfold mIfS mTest mOp
    rw [k1]
    kernel_rfl
  have a2 : (mCons (mVar 2) (mCons (mCallF m_law_calendar (mCons (mVar 2) (mCons (mVar 3) mNil))) (mCons (mVar 3) (mCons (mOp idxM (mVar 10) (mVar 3)) mNil)))) (rho x (pRule c s h t) 1 o) (calS (pRule c s h t) [o]) = .ok [pRule c s h t, refOf (m_law_calendar [pRule c s h t, .int 2] (calS (pRule c s h t) [o])), .int 2, .str "room"] (calS (pRule c s h t) (calS (pRule c s h t) [o])) := by kernel_rfl
  have k2 : (mCallF m_law_under (mCons (mVar 2) (mCons (mCallF m_law_calendar (mCons (mVar 2) (mCons (mVar 3) mNil))) (mCons (mVar 3) (mCons (mOp idxM (mVar 10) (mVar 3)) mNil))))) (rho x (pRule c s h t) 1 o) (calS (pRule c s h t) [o]) = .ok (.bl true) (calS (pRule c s h t) (calS (pRule c s h t) [o])) := by
    unfold mCallF at a2 ⊢
    rw [a2]
    exact under2 m _ _ _
  have s13 : m_law_s13 (rho x (pRule c s h t) 1 o) (calS (pRule c s h t) [o]) = .rt (.bl true) (calS (pRule c s h t) (calS (pRule c s h t) [o])) := by
    unfold m_law_s13
    generalize mCallF m_law_under (mCons (mVar 2) (mCons (mCallF m_law_calendar (mCons (mVar 2) (mCons (mVar 3) mNil))) (mCons (mVar 3) (mCons (mOp idxM (mVar 10) (mVar 3)) mNil)))) = A at k2 ⊢
    unfold mRet
    rw [k2]
    rfl
  rw [e, w_seq', s11, nxt_nx, s13]
  rfl
theorem t22 : okT (tailS (envT x (pRule c s h t) 2 2) [o]) = true := by
  have m : (.tup [.str "room"] : MV) ∈ faultsL := by simp [faultsL]
  have e : tailS (envT x (pRule c s h t) 2 2) [o] = mSeq m_law_s11 m_law_s13 (rho x (pRule c s h t) 2 o) [o] := by kernel_rfl
  have a1 : (mCons (mVar 2) (mCons (mCallF m_law_calendar (mCons (mVar 2) (mCons (mVar 3) mNil))) (mCons (mVar 3) (mCons (mOp idxM (mVar 10) (mVar 3)) mNil)))) (rho x (pRule c s h t) 2 o) [o] = .ok [pRule c s h t, .ref 1, .int 2, .tup [.str "room"]] (calS (pRule c s h t) [o]) := by kernel_rfl
  have k1 : (mCallF m_law_kind (mCons (mVar 2) (mCons (mCallF m_law_calendar (mCons (mVar 2) (mCons (mVar 3) mNil))) (mCons (mVar 3) (mCons (mOp idxM (mVar 10) (mVar 3)) mNil))))) (rho x (pRule c s h t) 2 o) [o] = .ok (.lst [.int 2, .non]) (calS (pRule c s h t) [o]) := by
    unfold mCallF at a1 ⊢
    rw [a1]
    exact kind2 m _ _ _
  have s11 : m_law_s11 (rho x (pRule c s h t) 2 o) [o] = .nx (rho x (pRule c s h t) 2 o) (calS (pRule c s h t) [o]) := by
    unfold m_law_s11
    generalize mCallF m_law_kind (mCons (mVar 2) (mCons (mCallF m_law_calendar (mCons (mVar 2) (mCons (mVar 3) mNil))) (mCons (mVar 3) (mCons (mOp idxM (mVar 10) (mVar 3)) mNil)))) = A at k1 ⊢
    unfold mIfS mTest mOp
    rw [k1]
    kernel_rfl
  have a2 : (mCons (mVar 2) (mCons (mCallF m_law_calendar (mCons (mVar 2) (mCons (mVar 3) mNil))) (mCons (mVar 3) (mCons (mOp idxM (mVar 10) (mVar 3)) mNil)))) (rho x (pRule c s h t) 2 o) (calS (pRule c s h t) [o]) = .ok [pRule c s h t, refOf (m_law_calendar [pRule c s h t, .int 2] (calS (pRule c s h t) [o])), .int 2, .tup [.str "room"]] (calS (pRule c s h t) (calS (pRule c s h t) [o])) := by kernel_rfl
  have k2 : (mCallF m_law_under (mCons (mVar 2) (mCons (mCallF m_law_calendar (mCons (mVar 2) (mCons (mVar 3) mNil))) (mCons (mVar 3) (mCons (mOp idxM (mVar 10) (mVar 3)) mNil))))) (rho x (pRule c s h t) 2 o) (calS (pRule c s h t) [o]) = .ok (.bl true) (calS (pRule c s h t) (calS (pRule c s h t) [o])) := by
    unfold mCallF at a2 ⊢
    rw [a2]
    exact under2 m _ _ _
  have s13 : m_law_s13 (rho x (pRule c s h t) 2 o) (calS (pRule c s h t) [o]) = .rt (.bl true) (calS (pRule c s h t) (calS (pRule c s h t) [o])) := by
    unfold m_law_s13
    generalize mCallF m_law_under (mCons (mVar 2) (mCons (mCallF m_law_calendar (mCons (mVar 2) (mCons (mVar 3) mNil))) (mCons (mVar 3) (mCons (mOp idxM (mVar 10) (mVar 3)) mNil)))) = A at k2 ⊢
    unfold mRet
    rw [k2]
    rfl
  rw [e, w_seq', s11, nxt_nx, s13]
  rfl
theorem t23 : okT (tailS (envT x (pRule c s h t) 2 3) [o]) = true := by
  have m : (.lst [.str "gone"] : MV) ∈ faultsL := by simp [faultsL]
  have e : tailS (envT x (pRule c s h t) 2 3) [o] = mSeq m_law_s11 m_law_s13 (rho x (pRule c s h t) 3 o) [o] := by kernel_rfl
  have a1 : (mCons (mVar 2) (mCons (mCallF m_law_calendar (mCons (mVar 2) (mCons (mVar 3) mNil))) (mCons (mVar 3) (mCons (mOp idxM (mVar 10) (mVar 3)) mNil)))) (rho x (pRule c s h t) 3 o) [o] = .ok [pRule c s h t, .ref 1, .int 2, .lst [.str "gone"]] (calS (pRule c s h t) [o]) := by kernel_rfl
  have k1 : (mCallF m_law_kind (mCons (mVar 2) (mCons (mCallF m_law_calendar (mCons (mVar 2) (mCons (mVar 3) mNil))) (mCons (mVar 3) (mCons (mOp idxM (mVar 10) (mVar 3)) mNil))))) (rho x (pRule c s h t) 3 o) [o] = .ok (.lst [.int 2, .non]) (calS (pRule c s h t) [o]) := by
    unfold mCallF at a1 ⊢
    rw [a1]
    exact kind2 m _ _ _
  have s11 : m_law_s11 (rho x (pRule c s h t) 3 o) [o] = .nx (rho x (pRule c s h t) 3 o) (calS (pRule c s h t) [o]) := by
    unfold m_law_s11
    generalize mCallF m_law_kind (mCons (mVar 2) (mCons (mCallF m_law_calendar (mCons (mVar 2) (mCons (mVar 3) mNil))) (mCons (mVar 3) (mCons (mOp idxM (mVar 10) (mVar 3)) mNil)))) = A at k1 ⊢
    unfold mIfS mTest mOp
    rw [k1]
    kernel_rfl
  have a2 : (mCons (mVar 2) (mCons (mCallF m_law_calendar (mCons (mVar 2) (mCons (mVar 3) mNil))) (mCons (mVar 3) (mCons (mOp idxM (mVar 10) (mVar 3)) mNil)))) (rho x (pRule c s h t) 3 o) (calS (pRule c s h t) [o]) = .ok [pRule c s h t, refOf (m_law_calendar [pRule c s h t, .int 2] (calS (pRule c s h t) [o])), .int 2, .lst [.str "gone"]] (calS (pRule c s h t) (calS (pRule c s h t) [o])) := by kernel_rfl
  have k2 : (mCallF m_law_under (mCons (mVar 2) (mCons (mCallF m_law_calendar (mCons (mVar 2) (mCons (mVar 3) mNil))) (mCons (mVar 3) (mCons (mOp idxM (mVar 10) (mVar 3)) mNil))))) (rho x (pRule c s h t) 3 o) (calS (pRule c s h t) [o]) = .ok (.bl true) (calS (pRule c s h t) (calS (pRule c s h t) [o])) := by
    unfold mCallF at a2 ⊢
    rw [a2]
    exact under2 m _ _ _
  have s13 : m_law_s13 (rho x (pRule c s h t) 3 o) (calS (pRule c s h t) [o]) = .rt (.bl true) (calS (pRule c s h t) (calS (pRule c s h t) [o])) := by
    unfold m_law_s13
    generalize mCallF m_law_under (mCons (mVar 2) (mCons (mCallF m_law_calendar (mCons (mVar 2) (mCons (mVar 3) mNil))) (mCons (mVar 3) (mCons (mOp idxM (mVar 10) (mVar 3)) mNil)))) = A at k2 ⊢
    unfold mRet
    rw [k2]
    rfl
  rw [e, w_seq', s11, nxt_nx, s13]
  rfl
theorem t24 : okT (tailS (envT x (pRule c s h t) 2 4) [o]) = true := by
  have m : (.lst [.non] : MV) ∈ faultsL := by simp [faultsL]
  have e : tailS (envT x (pRule c s h t) 2 4) [o] = mSeq m_law_s11 m_law_s13 (rho x (pRule c s h t) 4 o) [o] := by kernel_rfl
  have a1 : (mCons (mVar 2) (mCons (mCallF m_law_calendar (mCons (mVar 2) (mCons (mVar 3) mNil))) (mCons (mVar 3) (mCons (mOp idxM (mVar 10) (mVar 3)) mNil)))) (rho x (pRule c s h t) 4 o) [o] = .ok [pRule c s h t, .ref 1, .int 2, .lst [.non]] (calS (pRule c s h t) [o]) := by kernel_rfl
  have k1 : (mCallF m_law_kind (mCons (mVar 2) (mCons (mCallF m_law_calendar (mCons (mVar 2) (mCons (mVar 3) mNil))) (mCons (mVar 3) (mCons (mOp idxM (mVar 10) (mVar 3)) mNil))))) (rho x (pRule c s h t) 4 o) [o] = .ok (.lst [.int 2, .non]) (calS (pRule c s h t) [o]) := by
    unfold mCallF at a1 ⊢
    rw [a1]
    exact kind2 m _ _ _
  have s11 : m_law_s11 (rho x (pRule c s h t) 4 o) [o] = .nx (rho x (pRule c s h t) 4 o) (calS (pRule c s h t) [o]) := by
    unfold m_law_s11
    generalize mCallF m_law_kind (mCons (mVar 2) (mCons (mCallF m_law_calendar (mCons (mVar 2) (mCons (mVar 3) mNil))) (mCons (mVar 3) (mCons (mOp idxM (mVar 10) (mVar 3)) mNil)))) = A at k1 ⊢
    unfold mIfS mTest mOp
    rw [k1]
    kernel_rfl
  have a2 : (mCons (mVar 2) (mCons (mCallF m_law_calendar (mCons (mVar 2) (mCons (mVar 3) mNil))) (mCons (mVar 3) (mCons (mOp idxM (mVar 10) (mVar 3)) mNil)))) (rho x (pRule c s h t) 4 o) (calS (pRule c s h t) [o]) = .ok [pRule c s h t, refOf (m_law_calendar [pRule c s h t, .int 2] (calS (pRule c s h t) [o])), .int 2, .lst [.non]] (calS (pRule c s h t) (calS (pRule c s h t) [o])) := by kernel_rfl
  have k2 : (mCallF m_law_under (mCons (mVar 2) (mCons (mCallF m_law_calendar (mCons (mVar 2) (mCons (mVar 3) mNil))) (mCons (mVar 3) (mCons (mOp idxM (mVar 10) (mVar 3)) mNil))))) (rho x (pRule c s h t) 4 o) (calS (pRule c s h t) [o]) = .ok (.bl true) (calS (pRule c s h t) (calS (pRule c s h t) [o])) := by
    unfold mCallF at a2 ⊢
    rw [a2]
    exact under2 m _ _ _
  have s13 : m_law_s13 (rho x (pRule c s h t) 4 o) (calS (pRule c s h t) [o]) = .rt (.bl true) (calS (pRule c s h t) (calS (pRule c s h t) [o])) := by
    unfold m_law_s13
    generalize mCallF m_law_under (mCons (mVar 2) (mCons (mCallF m_law_calendar (mCons (mVar 2) (mCons (mVar 3) mNil))) (mCons (mVar 3) (mCons (mOp idxM (mVar 10) (mVar 3)) mNil)))) = A at k2 ⊢
    unfold mRet
    rw [k2]
    rfl
  rw [e, w_seq', s11, nxt_nx, s13]
  rfl
theorem t25 : okT (tailS (envT x (pRule c s h t) 2 5) [o]) = true := by
  have m : (.lst [.lst [.str "room"]] : MV) ∈ faultsL := by simp [faultsL]
  have e : tailS (envT x (pRule c s h t) 2 5) [o] = mSeq m_law_s11 m_law_s13 (rho x (pRule c s h t) 5 o) [o] := by kernel_rfl
  have a1 : (mCons (mVar 2) (mCons (mCallF m_law_calendar (mCons (mVar 2) (mCons (mVar 3) mNil))) (mCons (mVar 3) (mCons (mOp idxM (mVar 10) (mVar 3)) mNil)))) (rho x (pRule c s h t) 5 o) [o] = .ok [pRule c s h t, .ref 1, .int 2, .lst [.lst [.str "room"]]] (calS (pRule c s h t) [o]) := by kernel_rfl
  have k1 : (mCallF m_law_kind (mCons (mVar 2) (mCons (mCallF m_law_calendar (mCons (mVar 2) (mCons (mVar 3) mNil))) (mCons (mVar 3) (mCons (mOp idxM (mVar 10) (mVar 3)) mNil))))) (rho x (pRule c s h t) 5 o) [o] = .ok (.lst [.int 2, .non]) (calS (pRule c s h t) [o]) := by
    unfold mCallF at a1 ⊢
    rw [a1]
    exact kind2 m _ _ _
  have s11 : m_law_s11 (rho x (pRule c s h t) 5 o) [o] = .nx (rho x (pRule c s h t) 5 o) (calS (pRule c s h t) [o]) := by
    unfold m_law_s11
    generalize mCallF m_law_kind (mCons (mVar 2) (mCons (mCallF m_law_calendar (mCons (mVar 2) (mCons (mVar 3) mNil))) (mCons (mVar 3) (mCons (mOp idxM (mVar 10) (mVar 3)) mNil)))) = A at k1 ⊢
    unfold mIfS mTest mOp
    rw [k1]
    kernel_rfl
  have a2 : (mCons (mVar 2) (mCons (mCallF m_law_calendar (mCons (mVar 2) (mCons (mVar 3) mNil))) (mCons (mVar 3) (mCons (mOp idxM (mVar 10) (mVar 3)) mNil)))) (rho x (pRule c s h t) 5 o) (calS (pRule c s h t) [o]) = .ok [pRule c s h t, refOf (m_law_calendar [pRule c s h t, .int 2] (calS (pRule c s h t) [o])), .int 2, .lst [.lst [.str "room"]]] (calS (pRule c s h t) (calS (pRule c s h t) [o])) := by kernel_rfl
  have k2 : (mCallF m_law_under (mCons (mVar 2) (mCons (mCallF m_law_calendar (mCons (mVar 2) (mCons (mVar 3) mNil))) (mCons (mVar 3) (mCons (mOp idxM (mVar 10) (mVar 3)) mNil))))) (rho x (pRule c s h t) 5 o) (calS (pRule c s h t) [o]) = .ok (.bl true) (calS (pRule c s h t) (calS (pRule c s h t) [o])) := by
    unfold mCallF at a2 ⊢
    rw [a2]
    exact under2 m _ _ _
  have s13 : m_law_s13 (rho x (pRule c s h t) 5 o) (calS (pRule c s h t) [o]) = .rt (.bl true) (calS (pRule c s h t) (calS (pRule c s h t) [o])) := by
    unfold m_law_s13
    generalize mCallF m_law_under (mCons (mVar 2) (mCons (mCallF m_law_calendar (mCons (mVar 2) (mCons (mVar 3) mNil))) (mCons (mVar 3) (mCons (mOp idxM (mVar 10) (mVar 3)) mNil)))) = A at k2 ⊢
    unfold mRet
    rw [k2]
    rfl
  rw [e, w_seq', s11, nxt_nx, s13]
  rfl
theorem t26 : okT (tailS (envT x (pRule c s h t) 2 6) [o]) = true := by
  have m : (.lst [.str "room", .str "ROOM"] : MV) ∈ faultsL := by simp [faultsL]
  have e : tailS (envT x (pRule c s h t) 2 6) [o] = mSeq m_law_s11 m_law_s13 (rho x (pRule c s h t) 6 o) [o] := by kernel_rfl
  have a1 : (mCons (mVar 2) (mCons (mCallF m_law_calendar (mCons (mVar 2) (mCons (mVar 3) mNil))) (mCons (mVar 3) (mCons (mOp idxM (mVar 10) (mVar 3)) mNil)))) (rho x (pRule c s h t) 6 o) [o] = .ok [pRule c s h t, .ref 1, .int 2, .lst [.str "room", .str "ROOM"]] (calS (pRule c s h t) [o]) := by kernel_rfl
  have k1 : (mCallF m_law_kind (mCons (mVar 2) (mCons (mCallF m_law_calendar (mCons (mVar 2) (mCons (mVar 3) mNil))) (mCons (mVar 3) (mCons (mOp idxM (mVar 10) (mVar 3)) mNil))))) (rho x (pRule c s h t) 6 o) [o] = .ok (.lst [.int 2, .non]) (calS (pRule c s h t) [o]) := by
    unfold mCallF at a1 ⊢
    rw [a1]
    exact kind2 m _ _ _
  have s11 : m_law_s11 (rho x (pRule c s h t) 6 o) [o] = .nx (rho x (pRule c s h t) 6 o) (calS (pRule c s h t) [o]) := by
    unfold m_law_s11
    generalize mCallF m_law_kind (mCons (mVar 2) (mCons (mCallF m_law_calendar (mCons (mVar 2) (mCons (mVar 3) mNil))) (mCons (mVar 3) (mCons (mOp idxM (mVar 10) (mVar 3)) mNil)))) = A at k1 ⊢
    unfold mIfS mTest mOp
    rw [k1]
    kernel_rfl
  have a2 : (mCons (mVar 2) (mCons (mCallF m_law_calendar (mCons (mVar 2) (mCons (mVar 3) mNil))) (mCons (mVar 3) (mCons (mOp idxM (mVar 10) (mVar 3)) mNil)))) (rho x (pRule c s h t) 6 o) (calS (pRule c s h t) [o]) = .ok [pRule c s h t, refOf (m_law_calendar [pRule c s h t, .int 2] (calS (pRule c s h t) [o])), .int 2, .lst [.str "room", .str "ROOM"]] (calS (pRule c s h t) (calS (pRule c s h t) [o])) := by kernel_rfl
  have k2 : (mCallF m_law_under (mCons (mVar 2) (mCons (mCallF m_law_calendar (mCons (mVar 2) (mCons (mVar 3) mNil))) (mCons (mVar 3) (mCons (mOp idxM (mVar 10) (mVar 3)) mNil))))) (rho x (pRule c s h t) 6 o) (calS (pRule c s h t) [o]) = .ok (.bl true) (calS (pRule c s h t) (calS (pRule c s h t) [o])) := by
    unfold mCallF at a2 ⊢
    rw [a2]
    exact under2 m _ _ _
  have s13 : m_law_s13 (rho x (pRule c s h t) 6 o) (calS (pRule c s h t) [o]) = .rt (.bl true) (calS (pRule c s h t) (calS (pRule c s h t) [o])) := by
    unfold m_law_s13
    generalize mCallF m_law_under (mCons (mVar 2) (mCons (mCallF m_law_calendar (mCons (mVar 2) (mCons (mVar 3) mNil))) (mCons (mVar 3) (mCons (mOp idxM (mVar 10) (mVar 3)) mNil)))) = A at k2 ⊢
    unfold mRet
    rw [k2]
    rfl
  rw [e, w_seq', s11, nxt_nx, s13]
  rfl
theorem t27 : okT (tailS (envT x (pRule c s h t) 2 7) [o]) = true := by
  have m : (.dct [] [] : MV) ∈ faultsL := by simp [faultsL]
  have e : tailS (envT x (pRule c s h t) 2 7) [o] = mSeq m_law_s11 m_law_s13 (rho x (pRule c s h t) 7 o) [o] := by kernel_rfl
  have a1 : (mCons (mVar 2) (mCons (mCallF m_law_calendar (mCons (mVar 2) (mCons (mVar 3) mNil))) (mCons (mVar 3) (mCons (mOp idxM (mVar 10) (mVar 3)) mNil)))) (rho x (pRule c s h t) 7 o) [o] = .ok [pRule c s h t, .ref 1, .int 2, .dct [] []] (calS (pRule c s h t) [o]) := by kernel_rfl
  have k1 : (mCallF m_law_kind (mCons (mVar 2) (mCons (mCallF m_law_calendar (mCons (mVar 2) (mCons (mVar 3) mNil))) (mCons (mVar 3) (mCons (mOp idxM (mVar 10) (mVar 3)) mNil))))) (rho x (pRule c s h t) 7 o) [o] = .ok (.lst [.int 2, .non]) (calS (pRule c s h t) [o]) := by
    unfold mCallF at a1 ⊢
    rw [a1]
    exact kind2 m _ _ _
  have s11 : m_law_s11 (rho x (pRule c s h t) 7 o) [o] = .nx (rho x (pRule c s h t) 7 o) (calS (pRule c s h t) [o]) := by
    unfold m_law_s11
    generalize mCallF m_law_kind (mCons (mVar 2) (mCons (mCallF m_law_calendar (mCons (mVar 2) (mCons (mVar 3) mNil))) (mCons (mVar 3) (mCons (mOp idxM (mVar 10) (mVar 3)) mNil)))) = A at k1 ⊢
    unfold mIfS mTest mOp
    rw [k1]
    kernel_rfl
  have a2 : (mCons (mVar 2) (mCons (mCallF m_law_calendar (mCons (mVar 2) (mCons (mVar 3) mNil))) (mCons (mVar 3) (mCons (mOp idxM (mVar 10) (mVar 3)) mNil)))) (rho x (pRule c s h t) 7 o) (calS (pRule c s h t) [o]) = .ok [pRule c s h t, refOf (m_law_calendar [pRule c s h t, .int 2] (calS (pRule c s h t) [o])), .int 2, .dct [] []] (calS (pRule c s h t) (calS (pRule c s h t) [o])) := by kernel_rfl
  have k2 : (mCallF m_law_under (mCons (mVar 2) (mCons (mCallF m_law_calendar (mCons (mVar 2) (mCons (mVar 3) mNil))) (mCons (mVar 3) (mCons (mOp idxM (mVar 10) (mVar 3)) mNil))))) (rho x (pRule c s h t) 7 o) (calS (pRule c s h t) [o]) = .ok (.bl true) (calS (pRule c s h t) (calS (pRule c s h t) [o])) := by
    unfold mCallF at a2 ⊢
    rw [a2]
    exact under2 m _ _ _
  have s13 : m_law_s13 (rho x (pRule c s h t) 7 o) (calS (pRule c s h t) [o]) = .rt (.bl true) (calS (pRule c s h t) (calS (pRule c s h t) [o])) := by
    unfold m_law_s13
    generalize mCallF m_law_under (mCons (mVar 2) (mCons (mCallF m_law_calendar (mCons (mVar 2) (mCons (mVar 3) mNil))) (mCons (mVar 3) (mCons (mOp idxM (mVar 10) (mVar 3)) mNil)))) = A at k2 ⊢
    unfold mRet
    rw [k2]
    rfl
  rw [e, w_seq', s11, nxt_nx, s13]
  rfl
end
theorem tail_true {p : Par} (hp : POk p) (x : MV) (o : MO) {k a : Nat} (hk : k < 9) (ha : a < 8) : ∃ S', tailS (envT x (pPar p) (k : Nat) (a : Nat)) [o] = .rt (.bl true) S' := by
  refine okT_ex ?_
  show okT (tailS (envT x (pRule p.c p.s p.h p.t) (k : Nat) (a : Nat)) [o]) = true
  have hk' : k = 0 ∨ k = 1 ∨ k = 2 ∨ k = 3 ∨ k = 4 ∨ k = 5 ∨ k = 6 ∨ k = 7 ∨ k = 8 := by omega
  have ha' : a = 0 ∨ a = 1 ∨ a = 2 ∨ a = 3 ∨ a = 4 ∨ a = 5 ∨ a = 6 ∨ a = 7 := by omega
  rcases hk' with rfl | rfl | rfl | rfl | rfl | rfl | rfl | rfl | rfl
  · rcases ha' with rfl | rfl | rfl | rfl | rfl | rfl | rfl | rfl
    · exact t00 x o p.c p.s p.h p.t
    · exact t01 x o p.c p.s p.h p.t
    · exact t02 x o p.c p.s p.h p.t
    · exact t03 x o p.c p.s p.h p.t
    · exact t04 x o p.c p.s p.h p.t
    · exact t05 x o p.c p.s p.h p.t
    · exact t06 x o p.c p.s p.h p.t
    · exact t07 x o p.c p.s p.h p.t
  · rcases ha' with rfl | rfl | rfl | rfl | rfl | rfl | rfl | rfl
    · exact t10 x o p.c p.s p.h p.t
    · exact t11 x o p.c p.s p.h p.t
    · exact t12 x o p.c p.s p.h p.t
    · exact t13 x o p.c p.s p.h p.t
    · exact t14 x o p.c p.s p.h p.t
    · exact t15 x o p.c p.s p.h p.t
    · exact t16 x o p.c p.s p.h p.t
    · exact t17 x o p.c p.s p.h p.t
  · rcases ha' with rfl | rfl | rfl | rfl | rfl | rfl | rfl | rfl
    · exact t20 x o p.c p.s p.h p.t
    · exact t21 x o p.c p.s p.h p.t
    · exact t22 x o p.c p.s p.h p.t
    · exact t23 x o p.c p.s p.h p.t
    · exact t24 x o p.c p.s p.h p.t
    · exact t25 x o p.c p.s p.h p.t
    · exact t26 x o p.c p.s p.h p.t
    · exact t27 x o p.c p.s p.h p.t
  · rcases ha' with rfl | rfl | rfl | rfl | rfl | rfl | rfl | rfl
    · exact t30 x o p.c p.s p.h p.t
    · exact t31 x o p.c p.s p.h p.t
    · exact t32 x o p.c p.s p.h p.t
    · exact t33 x o p.c p.s p.h p.t
    · exact t34 x o p.c p.s p.h p.t
    · exact t35 x o p.c p.s p.h p.t
    · exact t36 x o p.c p.s p.h p.t
    · exact t37 x o p.c p.s p.h p.t
  · rcases ha' with rfl | rfl | rfl | rfl | rfl | rfl | rfl | rfl
    · exact t40 x o p.c p.s p.h p.t
    · exact t41 x o p.c p.s p.h p.t
    · exact t42 x o p.c p.s p.h p.t
    · exact t43 x o p.c p.s p.h p.t
    · exact t44 x o p.c p.s p.h p.t
    · exact t45 x o p.c p.s p.h p.t
    · exact t46 x o p.c p.s p.h p.t
    · exact t47 x o p.c p.s p.h p.t
  · rcases ha' with rfl | rfl | rfl | rfl | rfl | rfl | rfl | rfl
    · exact t50 x o p.c p.s p.h p.t
    · exact t51 x o p.c p.s p.h p.t
    · exact t52 x o p.c p.s p.h p.t
    · exact t53 x o p.c p.s p.h p.t
    · exact t54 x o p.c p.s p.h p.t
    · exact t55 x o p.c p.s p.h p.t
    · exact t56 x o p.c p.s p.h p.t
    · exact t57 x o p.c p.s p.h p.t
  · rcases ha' with rfl | rfl | rfl | rfl | rfl | rfl | rfl | rfl
    · exact t60 x o p.c p.s p.h p.t
    · exact t61 x o p.c p.s p.h p.t
    · exact t62 x o p.c p.s p.h p.t
    · exact t63 x o p.c p.s p.h p.t
    · exact t64 x o p.c p.s p.h p.t
    · exact t65 x o p.c p.s p.h p.t
    · exact t66 x o p.c p.s p.h p.t
    · exact t67 x o p.c p.s p.h p.t
  · rcases ha' with rfl | rfl | rfl | rfl | rfl | rfl | rfl | rfl
    · exact t70 x o p.c p.s p.h p.t
    · exact t71 x o p.c p.s p.h p.t
    · exact t72 x o p.c p.s p.h p.t
    · exact t73 x o p.c p.s p.h p.t
    · exact t74 x o p.c p.s p.h p.t
    · exact t75 x o p.c p.s p.h p.t
    · exact t76 x o p.c p.s p.h p.t
    · exact t77 x o p.c p.s p.h p.t
  · have ht : p.t = "now" ∨ p.t = "seen" := hp.t
    rcases ht with ht | ht
    · rw [ht]
      rcases ha' with rfl | rfl | rfl | rfl | rfl | rfl | rfl | rfl
      · exact t8now0 x o p.c p.s p.h
      · exact t8now1 x o p.c p.s p.h
      · exact t8now2 x o p.c p.s p.h
      · exact t8now3 x o p.c p.s p.h
      · exact t8now4 x o p.c p.s p.h
      · exact t8now5 x o p.c p.s p.h
      · exact t8now6 x o p.c p.s p.h
      · exact t8now7 x o p.c p.s p.h
    · rw [ht]
      rcases ha' with rfl | rfl | rfl | rfl | rfl | rfl | rfl | rfl
      · exact t8seen0 x o p.c p.s p.h
      · exact t8seen1 x o p.c p.s p.h
      · exact t8seen2 x o p.c p.s p.h
      · exact t8seen3 x o p.c p.s p.h
      · exact t8seen4 x o p.c p.s p.h
      · exact t8seen5 x o p.c p.s p.h
      · exact t8seen6 x o p.c p.s p.h
      · exact t8seen7 x o p.c p.s p.h
theorem law_true : ∀ ns : List Int, ns.length ≤ 63 → ∃ S', m_law [.kls (ns.map .int)] [] = .ok (.bl true) S' := by
  intro ns _
  obtain ⟨p, d1, hp, e1⟩ := law_parts_eq (d := ⟨ns, 0, 0, 7⟩) (T := [])
  have e2 := law_rule_eq hp (S := [dr d1])
  obtain ⟨k, d2, hk, e3⟩ := draw (d := d1) (T := []) (n := 9) (by decide) (by decide)
  obtain ⟨a, d3, ha, e4⟩ := draw (d := d2) (T := []) (n := 8) (by decide) (by decide)
  obtain ⟨S', e5⟩ := tail_true hp (.kls (ns.map .int)) (dr d3) hk ha
  have s0 : m_law_s0 (ev0 12 [.kls (ns.map .int)]) [] = .nx [some (.kls (ns.map .int)), some (.ref 0), none, none, none, none, none, none, none, none, none, none] [dr ⟨ns, 0, 0, 7⟩] := rfl
  have s1 : m_law_s1 [some (.kls (ns.map .int)), some (.ref 0), none, none, none, none, none, none, none, none, none, none] [dr ⟨ns, 0, 0, 7⟩] = .nx [some (.kls (ns.map .int)), some (.ref 0), some (pPar p), none, none, none, none, none, none, none, none, none] [dr d1] := by
    simp [m_law_s1, e1, e2]
  have e3 : m_law_draw [.ref 0, .int 9] [dr d1] = .ok (.int (k : Nat)) [dr d2] := e3
  have e4 : m_law_draw [.ref 0, .int 8] [dr d2] = .ok (.int (a : Nat)) [dr d3] := e4
  have s2 : m_law_s2 [some (.kls (ns.map .int)), some (.ref 0), some (pPar p), none, none, none, none, none, none, none, none, none] [dr d1] = .nx [some (.kls (ns.map .int)), some (.ref 0), some (pPar p), some (.int (k : Nat)), none, none, none, none, none, none, none, none] [dr d2] := by
    simp [m_law_s2, e3]
  have s3 : m_law_s3 [some (.kls (ns.map .int)), some (.ref 0), some (pPar p), some (.int (k : Nat)), none, none, none, none, none, none, none, none] [dr d2] = .nx (envT (.kls (ns.map .int)) (pPar p) (k : Nat) (a : Nat)) [dr d3] := by
    simp [m_law_s3, e4, envT]
  refine ⟨S', ?_⟩
  simp only [m_law, mFn]
  rw [w_seq', s0, nxt_nx, w_seq', s1, nxt_nx, w_seq', s2, nxt_nx, w_seq', s3, nxt_nx]
  show toR (tailS (envT (.kls (ns.map .int)) (pPar p) (k : Nat) (a : Nat)) [dr d3]) = _
  rw [e5]
  rfl
end Lw
set_option Elab.async false
set_option linter.all false
set_option maxRecDepth 100000
set_option maxHeartbeats 0
namespace Lw
open PySem PySem.Spec PyProof.Rows L2 Mi
theorem fn_nox {P : Program} {w : PySem.World} {K : PySem.W.Frag} {mg : Str → Option Value} {base : Heap} {k : Nat} {f : Addr} {fd : FuncData} {ps : List Str} {sp : Sp} (F : FnOk P w K mg base (L2.CX P w) k f fd ps sp) :
    FnOk P w K mg base CX0 k f fd ps (fun vs H Q _ => sp vs H Q (fun _ _ _ => False)) :=
  ⟨fun vs H Q E h => F.len _ _ _ _ h, fun A outer s H args us vs Q E hr he hb hv hs => codeAny_mono (F.run A outer s H args us vs Q (fun _ _ _ => False) hr he hb hv hs) fun r s' q => by
    cases r with
    | error e =>
      obtain ⟨_, _, _, _, _, _, _, _, _, _, _, _, z⟩ := q
      exact z
    | ok fl =>
      cases fl with
      | ret u => exact q
      | next => exact q
      | brk => exact q
      | cont => exact q⟩
theorem gs_of {K : PySem.W.Frag} {h : Heap} {mg : Str → Option Value} (X : K.In h) (G : h.Ns mainGlobals mg) (c : He.SaysD fa fn K) (e : ex K = true) : Gs K mg where
  b_all := He.free_ok X G (c.fact 38)
  b_any := He.free_ok X G (c.fact 39)
  b_bool := He.free_ok X G (c.fact 40)
  b_enumerate := He.free_ok X G (c.fact 41)
  b_int := He.free_ok X G (c.fact 42)
  b_isinstance := He.free_ok X G (c.fact 43)
  b_len := He.free_ok X G (c.fact 44)
  b_list := He.free_ok X G (c.fact 45)
  b_range := He.free_ok X G (c.fact 46)
  b_str := He.free_ok X G (c.fact 47)
  b_sum := He.free_ok X G (c.fact 48)
  b_tuple := He.free_ok X G (c.fact 49)
  b_zip := He.free_ok X G (c.fact 50)
  k_FIGURES := kc_str (He.str_ok X G (c.fact 53))
  k_BLANK := kc_of (He.glo_ok X G (c.fact 51)) (ex_at e 0)
  k_FAULTS := kc_of (He.glo_ok X G (c.fact 52)) (ex_at e 1)
  k_PARTS := kc_of (He.glo_ok X G (c.fact 54)) (ex_at e 2)
  k_VALUES := kc_of (He.glo_ok X G (c.fact 55)) (ex_at e 3)
  gc_BadDeed := He.glo_ok X G (c.fact 57)
  gc_BadFault := He.glo_ok X G (c.fact 58)
  gc_BadLine := He.glo_ok X G (c.fact 59)
  gc_BadRule := He.glo_ok X G (c.fact 60)
  gc_BadSeries := He.glo_ok X G (c.fact 61)
  gc_BadWeaving := He.glo_ok X G (c.fact 62)
  gc_BadWorld := He.glo_ok X G (c.fact 63)
  gc_Calendar := He.glo_ok X G (c.fact 64)
  gc_NothingDone := He.glo_ok X G (c.fact 65)
  gc_Refused := He.glo_ok X G (c.fact 66)
  gc_Rule := He.glo_ok X G (c.fact 67)
  gc_SeriesError := He.glo_ok X G (c.fact 68)
  c_Calendar := He.cls_ok (c.fact 69)
  c_Rule := He.cls_ok (c.fact 70)
  n_Calendar_before := He.noat_ok (c.fact 71)
  n_Calendar_days := He.noat_ok (c.fact 72)
  n_Calendar_done := He.noat_ok (c.fact 73)
  n_Calendar_hours := He.noat_ok (c.fact 74)
  n_Calendar_persons := He.noat_ok (c.fact 75)
  n_Calendar_rooms := He.noat_ok (c.fact 76)
  n_Calendar_rows := He.noat_ok (c.fact 77)
  n_Calendar_rule := He.noat_ok (c.fact 78)
  n_Calendar_seen := He.noat_ok (c.fact 79)
  n_Rule_checking := He.noat_ok (c.fact 80)
  n_Rule_halves := He.noat_ok (c.fact 81)
  n_Rule_singles := He.noat_ok (c.fact 82)
  n_Rule_telling := He.noat_ok (c.fact 83)
  n_BadLine_line := He.noat_ok (c.fact 84)
  xf_BadLine := xfB_ok (ex_at e 5)
  xo_BadLine := oexB_ok (ex_at e 4)
  xi_BadLine := He.eqO_ok (ex_at e 6)
  xt_BadLine := of_decide_eq_true (ex_at e 7)
  n_BadRule_part := He.noat_ok (c.fact 85)
  xf_BadRule := xfB_ok (ex_at e 9)
  xo_BadRule := oexB_ok (ex_at e 8)
  xi_BadRule := He.eqO_ok (ex_at e 10)
  xt_BadRule := of_decide_eq_true (ex_at e 11)
  n_BadWeaving_at := He.noat_ok (c.fact 86)
  xf_BadWeaving := xfB_ok (ex_at e 13)
  xo_BadWeaving := oexB_ok (ex_at e 12)
  xi_BadWeaving := He.eqO_ok (ex_at e 14)
  xt_BadWeaving := of_decide_eq_true (ex_at e 15)
  n_Refused_deed := He.noat_ok (c.fact 87)
  xf_Refused := xfB_ok (ex_at e 17)
  xo_Refused := oexB_ok (ex_at e 16)
  xi_Refused := He.eqO_ok (ex_at e 18)
  xt_Refused := of_decide_eq_true (ex_at e 19)
  x0_BadDeed := x0_of (c.fact 143)
  x0_BadFault := x0_of (c.fact 144)
  x0_BadSeries := x0_of (c.fact 145)
  x0_BadWorld := x0_of (c.fact 146)
  x0_NothingDone := x0_of (c.fact 147)
  x0_SeriesError := x0_of (c.fact 148)
  xm_BadDeed_BadDeed := He.exm_ok (c.fact 88)
  xm_BadFault_BadFault := He.exm_ok (c.fact 89)
  xm_BadLine_BadLine := He.exm_ok (c.fact 90)
  xm_BadRule_BadRule := He.exm_ok (c.fact 91)
  xm_BadSeries_BadSeries := He.exm_ok (c.fact 92)
  xm_BadWeaving_BadWeaving := He.exm_ok (c.fact 93)
  xm_BadWorld_BadWorld := He.exm_ok (c.fact 94)
  xm_NothingDone_NothingDone := He.exm_ok (c.fact 95)
  xm_Refused_Refused := He.exm_ok (c.fact 96)
  xm_SeriesError_SeriesError := He.exm_ok (c.fact 97)
  xb_BadDeed_SeriesError := He.exm_ok (c.fact 134)
  xb_BadFault_SeriesError := He.exm_ok (c.fact 135)
  xb_BadLine_SeriesError := He.exm_ok (c.fact 136)
  xb_BadRule_SeriesError := He.exm_ok (c.fact 137)
  xb_BadSeries_SeriesError := He.exm_ok (c.fact 138)
  xb_BadWeaving_SeriesError := He.exm_ok (c.fact 139)
  xb_BadWorld_SeriesError := He.exm_ok (c.fact 140)
  xb_NothingDone_SeriesError := He.exm_ok (c.fact 141)
  xb_Refused_SeriesError := He.exm_ok (c.fact 142)
  xn_BadDeed_BadRule := He.exm_ok (c.fact 98)
  xn_BadFault_BadDeed := He.exm_ok (c.fact 99)
  xn_BadFault_BadRule := He.exm_ok (c.fact 100)
  xn_BadLine_BadDeed := He.exm_ok (c.fact 101)
  xn_BadLine_BadFault := He.exm_ok (c.fact 102)
  xn_BadLine_BadRule := He.exm_ok (c.fact 103)
  xn_BadLine_BadSeries := He.exm_ok (c.fact 104)
  xn_BadLine_NothingDone := He.exm_ok (c.fact 105)
  xn_BadSeries_BadDeed := He.exm_ok (c.fact 106)
  xn_BadSeries_BadFault := He.exm_ok (c.fact 107)
  xn_BadSeries_BadRule := He.exm_ok (c.fact 108)
  xn_BadWeaving_BadDeed := He.exm_ok (c.fact 109)
  xn_BadWeaving_BadFault := He.exm_ok (c.fact 110)
  xn_BadWeaving_BadLine := He.exm_ok (c.fact 111)
  xn_BadWeaving_BadRule := He.exm_ok (c.fact 112)
  xn_BadWeaving_BadSeries := He.exm_ok (c.fact 113)
  xn_BadWeaving_BadWorld := He.exm_ok (c.fact 114)
  xn_BadWeaving_NothingDone := He.exm_ok (c.fact 115)
  xn_BadWeaving_Refused := He.exm_ok (c.fact 116)
  xn_BadWorld_BadDeed := He.exm_ok (c.fact 117)
  xn_BadWorld_BadFault := He.exm_ok (c.fact 118)
  xn_BadWorld_BadLine := He.exm_ok (c.fact 119)
  xn_BadWorld_BadRule := He.exm_ok (c.fact 120)
  xn_BadWorld_BadSeries := He.exm_ok (c.fact 121)
  xn_BadWorld_NothingDone := He.exm_ok (c.fact 122)
  xn_BadWorld_Refused := He.exm_ok (c.fact 123)
  xn_NothingDone_BadDeed := He.exm_ok (c.fact 124)
  xn_NothingDone_BadFault := He.exm_ok (c.fact 125)
  xn_NothingDone_BadRule := He.exm_ok (c.fact 126)
  xn_NothingDone_BadSeries := He.exm_ok (c.fact 127)
  xn_Refused_BadDeed := He.exm_ok (c.fact 128)
  xn_Refused_BadFault := He.exm_ok (c.fact 129)
  xn_Refused_BadLine := He.exm_ok (c.fact 130)
  xn_Refused_BadRule := He.exm_ok (c.fact 131)
  xn_Refused_BadSeries := He.exm_ok (c.fact 132)
  xn_Refused_NothingDone := He.exm_ok (c.fact 133)
  m_Calendar_add := He.meth_ok (c.fact 149)
  m_Calendar_count := He.meth_ok (c.fact 150)
  m_Calendar_do := He.meth_ok (c.fact 151)
  m_Calendar_is_deed := He.meth_ok (c.fact 152)
  m_Calendar_mark := He.meth_ok (c.fact 153)
  m_Calendar_undo := He.meth_ok (c.fact 154)
  mk_Calendar := He.mkr_ok (c.fact 155)
  mk_Rule := He.mkr_ok (c.fact 156)
theorem facts {P : Program} {w : PySem.World} {K : PySem.W.Frag} {h : Heap} {mg : Str → Option Value} {f : Addr} (X : K.In h) (G : h.Ns mainGlobals mg) (hfa : mg ("law" : Str) = some (.ref f)) (c : He.SaysD fa fn K) (e : ex K = true) (tb0 : ∃ es n, KDict K w (He.ga K "SIZES") es n) :
    ∃ fd : FuncData, (∀ (s : Shared) (v : Value), BindsTo s fd ⟨[v], []⟩ [("_law_script", v)]) ∧ ∀ base : Heap, K.In base → base.Ns mainGlobals mg → FnOk P w K mg base (L2.CX P w) 10 f fd ["_law_script"] (spM w K 1 m_law) := by
  have g : Gs K mg := gs_of X G c e
  obtain ⟨fd0, F0⟩ := c.def_ 0 (d := D_law_begin) rfl
  obtain ⟨fd1, F1⟩ := c.def_ 1 (d := D_Rule___init__) rfl
  obtain ⟨fd2, F2⟩ := c.def_ 2 (d := D_law_rule) rfl
  obtain ⟨fd3, F3⟩ := c.def_ 3 (d := D_law_values) rfl
  obtain ⟨fd4, F4⟩ := c.def_ 4 (d := D_law_draw) rfl
  obtain ⟨fd5, F5⟩ := c.def_ 5 (d := D_law_parts) rfl
  obtain ⟨fd6, F6⟩ := c.def_ 6 (d := D_is_whole) rfl
  obtain ⟨fd7, F7⟩ := c.def_ 7 (d := D_Calendar_is_deed) rfl
  obtain ⟨fd8, F8⟩ := c.def_ 8 (d := D_Calendar_do) rfl
  obtain ⟨fd9, F9⟩ := c.def_ 9 (d := D_are_series) rfl
  obtain ⟨fd10, F10⟩ := c.def_ 10 (d := D_is_step) rfl
  obtain ⟨fd11, F11⟩ := c.def_ 11 (d := D_is_hand) rfl
  obtain ⟨fd12, F12⟩ := c.def_ 12 (d := D_is_world) rfl
  obtain ⟨fd13, F13⟩ := c.def_ 13 (d := D_check_world) rfl
  obtain ⟨fd14, F14⟩ := c.def_ 14 (d := D_check_faults) rfl
  obtain ⟨fd15, F15⟩ := c.def_ 15 (d := D_bars) rfl
  obtain ⟨fd16, F16⟩ := c.def_ 16 (d := D_mends) rfl
  obtain ⟨fd17, F17⟩ := c.def_ 17 (d := D_fresh) rfl
  obtain ⟨fd18, F18⟩ := c.def_ 18 (d := D_Calendar_count) rfl
  obtain ⟨fd19, F19⟩ := c.def_ 19 (d := D_Calendar_mark) rfl
  obtain ⟨fd20, F20⟩ := c.def_ 20 (d := D_Calendar_add) rfl
  obtain ⟨fd21, F21⟩ := c.def_ 21 (d := D_Calendar_undo) rfl
  obtain ⟨fd22, F22⟩ := c.def_ 22 (d := D_number_of) rfl
  obtain ⟨fd23, F23⟩ := c.def_ 23 (d := D_calendar_in) rfl
  obtain ⟨fd24, F24⟩ := c.def_ 24 (d := D_read) rfl
  obtain ⟨fd25, F25⟩ := c.def_ 25 (d := D_begin) rfl
  obtain ⟨fd26, F26⟩ := c.def_ 26 (d := D_has_step) rfl
  obtain ⟨fd27, F27⟩ := c.def_ 27 (d := D_person_hours) rfl
  obtain ⟨fd28, F28⟩ := c.def_ 28 (d := D_tell_step) rfl
  obtain ⟨fd29, F29⟩ := c.def_ 29 (d := D_stepped) rfl
  obtain ⟨fd30, F30⟩ := c.def_ 30 (d := D_is_room_free) rfl
  obtain ⟨fd31, F31⟩ := c.def_ 31 (d := D_meets_room) rfl
  obtain ⟨fd32, F32⟩ := c.def_ 32 (d := D_is_person_free) rfl
  obtain ⟨fd33, F33⟩ := c.def_ 33 (d := D_meets_person) rfl
  obtain ⟨fd34, F34⟩ := c.def_ 34 (d := D_lost_single) rfl
  obtain ⟨fd35, F35⟩ := c.def_ 35 (d := D_step_faults) rfl
  obtain ⟨fd36, F36⟩ := c.def_ 36 (d := D_is_half) rfl
  obtain ⟨fd37, F37⟩ := c.def_ 37 (d := D_led) rfl
  obtain ⟨fd38, F38⟩ := c.def_ 38 (d := D_woven) rfl
  obtain ⟨fd39, F39⟩ := c.def_ 39 (d := D_run) rfl
  obtain ⟨fd40, F40⟩ := c.def_ 40 (d := D_law_call) rfl
  obtain ⟨fd41, F41⟩ := c.def_ 41 (d := D_law_kind) rfl
  obtain ⟨fd42, F42⟩ := c.def_ 42 (d := D_Calendar___init__) rfl
  obtain ⟨fd43, F43⟩ := c.def_ 43 (d := D_law_calendar) rfl
  obtain ⟨fd44, F44⟩ := c.def_ 44 (d := D_law_under) rfl
  obtain ⟨fd45, F45⟩ := c.def_ 45 (d := D_law) rfl
  obtain ⟨fd46, F46⟩ := c.def_ 46 (d := D_XBadLine) rfl
  obtain ⟨fd47, F47⟩ := c.def_ 47 (d := D_XBadRule) rfl
  obtain ⟨fd48, F48⟩ := c.def_ 48 (d := D_XBadWeaving) rfl
  obtain ⟨fd49, F49⟩ := c.def_ 49 (d := D_XRefused) rfl
  have e0 := hfa.symm.trans (He.glo_ok X G (c.fact 37))
  cases e0
  have b := FunD.bindsA (ps := ["_law_script"]) F45 fun _ _ _ _ _ _ us hl => match us, hl with | [_], _ => rfl
  refine ⟨fd45, fun s v => b s [v] rfl, fun base _ _ => ?_⟩
  have t_SIZES : TabK w K mg "SIZES" tab_SIZES := tab_ok (ex_at e 20) (He.glo_ok X G (c.fact 56)) tb0
  have x_BadLine : XN P w K mg base 1 "BadLine" "line" := ⟨g.gc_BadLine, g.xo_BadLine, g.xi_BadLine, g.xt_BadLine, fd46, _, xn_init (st := s_XBadLine) F46 ⟨rfl, rfl, rfl, by decide +kernel, rfl, by decide +kernel, by decide +kernel⟩ g.xo_BadLine g.n_BadLine_line rfl (.inl rfl) (.inl rfl) (by decide) (by decide) (by decide) (by decide) (fun _ _ => rfl), F46.bindsN fun _ _ _ _ _ _ us hl => match us, hl with | [_, _], _ => rfl⟩
  have x_BadRule : XN P w K mg base 1 "BadRule" "part" := ⟨g.gc_BadRule, g.xo_BadRule, g.xi_BadRule, g.xt_BadRule, fd47, _, xn_init (st := s_XBadRule) F47 ⟨rfl, rfl, rfl, by decide +kernel, rfl, by decide +kernel, by decide +kernel⟩ g.xo_BadRule g.n_BadRule_part rfl (.inl rfl) (.inl rfl) (by decide) (by decide) (by decide) (by decide) (fun _ _ => rfl), F47.bindsN fun _ _ _ _ _ _ us hl => match us, hl with | [_, _], _ => rfl⟩
  have x_BadWeaving : XN P w K mg base 1 "BadWeaving" "at" := ⟨g.gc_BadWeaving, g.xo_BadWeaving, g.xi_BadWeaving, g.xt_BadWeaving, fd48, _, xn_init (st := s_XBadWeaving) F48 ⟨rfl, rfl, rfl, by decide +kernel, rfl, by decide +kernel, by decide +kernel⟩ g.xo_BadWeaving g.n_BadWeaving_at rfl (.inl rfl) (.inl rfl) (by decide) (by decide) (by decide) (by decide) (fun _ _ => rfl), F48.bindsN fun _ _ _ _ _ _ us hl => match us, hl with | [_, _], _ => rfl⟩
  have x_Refused : XN P w K mg base 1 "Refused" "deed" := ⟨g.gc_Refused, g.xo_Refused, g.xi_Refused, g.xt_Refused, fd49, _, xn_init (st := s_XRefused) F49 ⟨rfl, rfl, rfl, by decide +kernel, rfl, by decide +kernel, by decide +kernel⟩ g.xo_Refused g.n_Refused_deed rfl (.inl rfl) (.inl rfl) (by decide) (by decide) (by decide) (by decide) (fun _ _ => rfl), F49.bindsN fun _ _ _ _ _ _ us hl => match us, hl with | [_, _], _ => rfl⟩
  have h_law_begin := ok_law_begin (P := P) (w := w) (base := base) g    F0 (He.glo_ok X G (c.fact 0))
  have h_Rule___init__ := ok_Rule___init__ (P := P) (w := w) (base := base) g   x_BadRule F1
  have h_law_rule := ok_law_rule (P := P) (w := w) (base := base) g h_Rule___init__   F2 (He.glo_ok X G (c.fact 1))
  have h_law_values := ok_law_values (P := P) (w := w) (base := base) g    F3 (He.glo_ok X G (c.fact 2))
  have h_law_draw := ok_law_draw (P := P) (w := w) (base := base) g    F4 (He.glo_ok X G (c.fact 3))
  have h_law_parts := ok_law_parts (P := P) (w := w) (base := base) g h_law_values h_law_draw   F5 (He.glo_ok X G (c.fact 4))
  have h_is_whole := ok_is_whole (P := P) (w := w) (base := base) g    F6 (He.glo_ok X G (c.fact 5))
  have h_Calendar_is_deed := ok_Calendar_is_deed (P := P) (w := w) (base := base) g h_is_whole t_SIZES  F7
  have h_Calendar_do := ok_Calendar_do (P := P) (w := w) (base := base) g h_Calendar_is_deed   F8
  have h_are_series := ok_are_series (P := P) (w := w) (base := base) g h_is_whole   F9 (He.glo_ok X G (c.fact 6))
  have h_is_step := ok_is_step (P := P) (w := w) (base := base) g h_is_whole   F10 (He.glo_ok X G (c.fact 7))
  have h_is_hand := ok_is_hand (P := P) (w := w) (base := base) g h_is_whole h_is_step   F11 (He.glo_ok X G (c.fact 8))
  have h_is_world := ok_is_world (P := P) (w := w) (base := base) g h_is_whole h_are_series h_is_hand   F12 (He.glo_ok X G (c.fact 9))
  have h_check_world := ok_check_world (P := P) (w := w) (base := base) g h_is_world   F13 (He.glo_ok X G (c.fact 10))
  have h_check_faults := ok_check_faults (P := P) (w := w) (base := base) g    F14 (He.glo_ok X G (c.fact 11))
  have h_bars := ok_bars (P := P) (w := w) (base := base) g h_check_world h_check_faults   F15 (He.glo_ok X G (c.fact 12))
  have h_mends := ok_mends (P := P) (w := w) (base := base) g h_check_world h_check_faults   F16 (He.glo_ok X G (c.fact 13))
  have h_fresh := ok_fresh (P := P) (w := w) (base := base) g    F17 (He.glo_ok X G (c.fact 14))
  have h_Calendar_count := ok_Calendar_count (P := P) (w := w) (base := base) g    F18
  have h_Calendar_mark := ok_Calendar_mark (P := P) (w := w) (base := base) g h_Calendar_count   F19
  have h_Calendar_add := ok_Calendar_add (P := P) (w := w) (base := base) g h_is_whole h_fresh h_Calendar_mark  x_Refused F20
  have h_Calendar_undo := ok_Calendar_undo (P := P) (w := w) (base := base) g h_Calendar_mark   F21
  have h_number_of := ok_number_of (P := P) (w := w) (base := base) g    F22 (He.glo_ok X G (c.fact 15))
  have h_calendar_in := ok_calendar_in (P := P) (w := w) (base := base) g h_number_of   F23 (He.glo_ok X G (c.fact 16))
  have h_read := ok_read (P := P) (w := w) (base := base) g h_calendar_in  x_BadLine F24 (He.glo_ok X G (c.fact 17))
  have h_begin := ok_begin (P := P) (w := w) (base := base) g h_fresh   F25 (He.glo_ok X G (c.fact 18))
  have h_has_step := ok_has_step (P := P) (w := w) (base := base) g h_is_whole   F26 (He.glo_ok X G (c.fact 19))
  have h_person_hours := ok_person_hours (P := P) (w := w) (base := base) g    F27 (He.glo_ok X G (c.fact 20))
  have h_tell_step := ok_tell_step (P := P) (w := w) (base := base) g h_person_hours   F28 (He.glo_ok X G (c.fact 21))
  have h_stepped := ok_stepped (P := P) (w := w) (base := base) g h_tell_step   F29 (He.glo_ok X G (c.fact 22))
  have h_is_room_free := ok_is_room_free (P := P) (w := w) (base := base) g    F30 (He.glo_ok X G (c.fact 23))
  have h_meets_room := ok_meets_room (P := P) (w := w) (base := base) g h_is_room_free   F31 (He.glo_ok X G (c.fact 24))
  have h_is_person_free := ok_is_person_free (P := P) (w := w) (base := base) g    F32 (He.glo_ok X G (c.fact 25))
  have h_meets_person := ok_meets_person (P := P) (w := w) (base := base) g h_is_person_free   F33 (He.glo_ok X G (c.fact 26))
  have h_lost_single := ok_lost_single (P := P) (w := w) (base := base) g    F34 (He.glo_ok X G (c.fact 27))
  have h_step_faults := ok_step_faults (P := P) (w := w) (base := base) g h_meets_room h_meets_person h_lost_single h_person_hours   F35 (He.glo_ok X G (c.fact 28))
  have h_is_half := ok_is_half (P := P) (w := w) (base := base) g    F36 (He.glo_ok X G (c.fact 29))
  have h_led := ok_led (P := P) (w := w) (base := base) g h_stepped h_step_faults h_is_half   F37 (He.glo_ok X G (c.fact 30))
  have h_woven := ok_woven (P := P) (w := w) (base := base) g h_check_world h_begin h_has_step h_led  x_BadWeaving F38 (He.glo_ok X G (c.fact 31))
  have h_run := ok_run (P := P) (w := w) (base := base) g h_woven   F39 (He.glo_ok X G (c.fact 32))
  have h_law_call := ok_law_call (P := P) (w := w) (base := base) g h_Rule___init__ h_Calendar_do h_bars h_mends h_Calendar_add h_Calendar_undo h_read h_run   F40 (He.glo_ok X G (c.fact 33))
  have h_law_kind := ok_law_kind (P := P) (w := w) (base := base) g h_law_call  x_BadLine x_BadRule x_BadWeaving x_Refused F41 (He.glo_ok X G (c.fact 34))
  have h_Calendar___init__ := ok_Calendar___init__ (P := P) (w := w) (base := base) g    F42
  have h_law_calendar := ok_law_calendar (P := P) (w := w) (base := base) g h_Calendar___init__ h_Calendar_add h_Calendar_undo   F43 (He.glo_ok X G (c.fact 35))
  have h_law_under := ok_law_under (P := P) (w := w) (base := base) g h_law_call  x_BadLine x_BadRule x_BadWeaving x_Refused F44 (He.glo_ok X G (c.fact 36))
  exact ok_law g h_law_begin h_law_rule h_law_parts h_law_draw h_law_kind h_law_calendar h_law_under   F45
theorem law_sp {w : PySem.World} {K : PySem.W.Frag} (H : Hp) (a : Addr) (ns : List Int) (hl : ns.length ≤ 63) (hO : Only H) (hS : SqL K H a (ns.map V.int)) : spM w K 1 m_law [.ref a] H (fun v _ => v = .bl true) (fun _ _ _ => False) := by
  refine ⟨rfl, ⟨w, K, H, [], []⟩, [], [.kls (ns.map MV.int)], rfl, rfl, rfl, ⟨rfl, List.nodup_nil, (fun a m => nomatch m), fun n o a e _ => by simp at e⟩, ?_, ?_⟩
  · refine .cons ?_ .nil
    rw [RepV]
    have t : RepVs ⟨w, K, H, [], []⟩ (ns.map MV.int) (ns.map V.int) := by
      induction ns with
      | nil => exact .nil
      | cons n ns ih =>
        refine .cons (repI n) ?_
        have z : ∀ ns : List Int, RepVs ⟨w, K, H, [], []⟩ (ns.map MV.int) (ns.map V.int) := fun ns => by
          induction ns with
          | nil => exact .nil
          | cons n ns ih => exact .cons (repI n) ih
        exact z ns
    refine ⟨a, ns.map V.int, rfl, ?_, t⟩
    rcases hS with (h | ⟨o, h⟩) | h
    · rcases hO a with z | ⟨o, xs, z⟩ <;> rw [z] at h <;> cases h
    · exact .inl ⟨o, h⟩
    · exact .inr (.inr h)
  · obtain ⟨S', e⟩ := law_true ns hl
    rw [e]
    exact fun C' g r v rv => vBl rv
end Lw
open PySem PySem.W PySem.Calls PyProof.Rows
theorem PySem.Challenge.cw_seriesbooked_k15_errors_are_apart_holds : PySem.Challenge.rw_seriesbooked_k15_errors_are_apart.Holds := by
  w_on; o_law
  refine HandSHeadRun.head_any (r := OpenLaw.row PySem.Challenge.rw_seriesbooked_k15_errors_are_apart) (q := view (OpenLaw.row PySem.Challenge.rw_seriesbooked_k15_errors_are_apart).prog [88]) (H := Lw.hk) (ob := Lw.ob) (M := 6000) (loose := Lw.nms) (d := HandSHeadRun.topDef (OpenLaw.row PySem.Challenge.rw_seriesbooked_k15_errors_are_apart).prog 88) (kwd := []) Lw.ob_eq
    (by kernel_rfl) (fun s => by kernel_rfl) Lw.run0 (by kernel_rfl) (by kernel_rfl) (by kernel_rfl) (by rfl) (by first | assumption | decide +kernel) (by decide +kernel) ⟨rfl, rfl, rfl, rfl, rfl, by decide +kernel⟩ ?hw ?hc
  case hw => w_witness2
  case hc =>
    refine L2.walk_ofE (l := PySem.Challenge.rw_seriesbooked_k15_errors_are_apart) (n := 63) (k := 10) (x := "_law_script") (CX := L2.CX0) rfl (by decide) (by kernel_rfl) ⟨rfl, by decide, by decide⟩ ?F (fun _ _ _ _ z => z)
    intro w mg fa h Y G hmg0
    obtain ⟨K, KX, c⟩ := Y
    have glaw : mg ("law" : PySem.Str) = some (.ref fa) := by
      have e : (HandSHeadRun.topDef (OpenLaw.row PySem.Challenge.rw_seriesbooked_k15_errors_are_apart).prog 88).name = ("law" : PySem.Str) := by kernel_rfl
      rw [← e]
      exact hmg0
    obtain ⟨fd, hb, hF⟩ := Lw.facts (P := (PySem.Challenge.rw_seriesbooked_k15_errors_are_apart).prog) (w := w) KX G glaw c.1.d c.2 (c.1.tab 0)
    exact ⟨K, fd, (fun vs H Q _ => Mi.spM w K 1 Lw.m_law vs H Q (fun _ _ _ => False)), KX, hb, fun H a ns hl hO hS => Lw.law_sp H a ns hl hO hS, fun base k1 k2 => Lw.fn_nox (hF base k1 k2)⟩
