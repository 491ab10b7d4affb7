import PyProof.Rows.All
import Wide.All
import OpenK.AllK
import Wide.FinOn
import Open.SpecLaws
import KE.OsGo
import KE.HD4
import HandS.ForSpec
import HandS.Defaults
import HandS.HeadHook1
import HandS.HeadHook2
import PySem.Challenge.RW_thawhaul_s01_answers
import HandS.Evl
import HandS.NoneIn
import HandS.Iter
import HandS.Walk
import HandS.SortInts
import HandS.SortKw
import HandS.Dict
import HandS.Comp
import HandS.CallLocal
import KE.LtData
import KE.KDictKeyed
import KE.KDictLaw
import HandS.Zip
import KE.GoesZip
import KE.GoesEnum
import KE.GoesEnumKw
import KE.GoesMore
import KE.DataMinMax
import KE.BitLaws
import KE.OsShapes
set_option Elab.async false
set_option linter.all false
set_option maxRecDepth 100000
set_option maxHeartbeats 4000000
namespace Th
open PySem PySem.Spec PyProof.Rows L2
abbrev P : Program := PySem.Challenge.rw_thawhaul_s01_answers.prog
def top (i : Nat) : Stmt := PySem.Challenge.pw_thawhaul_s01_answers.main.body.getD i (.Pass ⟨0, 0, 0, 0⟩)
abbrev s_Road_init : Stmt := inClass (top 1) 0
abbrev s_Limit_init : Stmt := inClass (top 2) 0
abbrev s_Truck_init : Stmt := inClass (top 3) 0
abbrev s_Lot_init : Stmt := inClass (top 4) 0
abbrev s_Trip_init : Stmt := inClass (top 5) 0
abbrev s_Office_init : Stmt := inClass (top 6) 0
abbrev s_Office_has_place : Stmt := inClass (top 6) 1
abbrev s_Office_has_road : Stmt := inClass (top 6) 2
abbrev s_Office_has_truck : Stmt := inClass (top 6) 3
abbrev s_Office_has_lots : Stmt := inClass (top 6) 4
abbrev s_Office_has_trip : Stmt := inClass (top 6) 5
abbrev s_Office_bearing : Stmt := inClass (top 6) 6
abbrev s_Office_standing_trips : Stmt := inClass (top 6) 7
abbrev s_Office_lots_left : Stmt := inClass (top 6) 8
abbrev s_Office_is_free : Stmt := inClass (top 6) 9
abbrev s_Office_weight : Stmt := inClass (top 6) 10
abbrev s_Office_without : Stmt := inClass (top 6) 11
abbrev s_are_numbers_in_range : Stmt := top 34
abbrev s_is_row_in_range : Stmt := top 35
abbrev s_is_span_in_range : Stmt := top 36
abbrev s_is_in_range : Stmt := top 37
abbrev s_add_road : Stmt := top 39
abbrev s_add_limit : Stmt := top 40
abbrev s_add_truck : Stmt := top 41
abbrev s_add_lot : Stmt := top 42
abbrev s_tell_state : Stmt := top 43
abbrev s_offer : Stmt := top 45
abbrev s_spread : Stmt := top 46
abbrev s_shortest_from : Stmt := top 47
abbrev s_Ways_init : Stmt := inClass (top 48) 0
abbrev s_Ways_bearings : Stmt := inClass (top 48) 1
abbrev s_Ways_roads_for : Stmt := inClass (top 48) 2
abbrev s_Ways_drive : Stmt := inClass (top 48) 3
abbrev s_tell_drive : Stmt := top 49
abbrev s_most_kilograms : Stmt := top 50
abbrev s_tell_most : Stmt := top 51
abbrev s_is_needed : Stmt := top 52
abbrev s_tell_must : Stmt := top 53
abbrev s_against_lots : Stmt := top 55
abbrev s_legs_of : Stmt := top 56
abbrev s_look_at_load : Stmt := top 57
abbrev s_free_slots : Stmt := top 59
abbrev s_chosen : Stmt := top 60
abbrev s_loads_of : Stmt := top 61
abbrev s_costs : Stmt := top 62
abbrev s_with_slot : Stmt := top 63
abbrev s_best_plan : Stmt := top 64
abbrev s_tell_plan : Stmt := top 65
abbrev s_most_gain : Stmt := top 66
abbrev s_tell_bound : Stmt := top 67
abbrev s_is_stuck : Stmt := top 68
abbrev s_tell_stuck : Stmt := top 69
abbrev s_tell_without : Stmt := top 70
abbrev s_are_left : Stmt := top 72
abbrev s_load : Stmt := top 73
abbrev s_book : Stmt := top 74
abbrev s_call_off : Stmt := top 75
abbrev s_paper : Stmt := top 76
abbrev s_scale : Stmt := top 77
abbrev s_known_weight : Stmt := top 78
abbrev s_least_bearing : Stmt := top 79
abbrev s_excess : Stmt := top 80
abbrev s_tell_over : Stmt := top 81
abbrev s_tell_left : Stmt := top 82
abbrev s_cut_calls : Stmt := top 86
abbrev s_do_call : Stmt := top 87
abbrev s_answers : Stmt := top 88
/-- the defs of the top, by their names -/
def fn : List He.DefD := [
  ⟨("Road", some "__init__"), "__init__", "Road.__init__", defArgs s_Road_init, defBody s_Road_init, defScope s_Road_init, [], []⟩,
  ⟨("Limit", some "__init__"), "__init__", "Limit.__init__", defArgs s_Limit_init, defBody s_Limit_init, defScope s_Limit_init, [], []⟩,
  ⟨("Truck", some "__init__"), "__init__", "Truck.__init__", defArgs s_Truck_init, defBody s_Truck_init, defScope s_Truck_init, [], []⟩,
  ⟨("Lot", some "__init__"), "__init__", "Lot.__init__", defArgs s_Lot_init, defBody s_Lot_init, defScope s_Lot_init, [], []⟩,
  ⟨("Trip", some "__init__"), "__init__", "Trip.__init__", defArgs s_Trip_init, defBody s_Trip_init, defScope s_Trip_init, [], []⟩,
  ⟨("Office", some "__init__"), "__init__", "Office.__init__", defArgs s_Office_init, defBody s_Office_init, defScope s_Office_init, [], []⟩,
  ⟨("Office", some "has_place"), "has_place", "Office.has_place", defArgs s_Office_has_place, defBody s_Office_has_place, defScope s_Office_has_place, [], []⟩,
  ⟨("Office", some "has_road"), "has_road", "Office.has_road", defArgs s_Office_has_road, defBody s_Office_has_road, defScope s_Office_has_road, [], []⟩,
  ⟨("Office", some "has_truck"), "has_truck", "Office.has_truck", defArgs s_Office_has_truck, defBody s_Office_has_truck, defScope s_Office_has_truck, [], []⟩,
  ⟨("Office", some "has_lots"), "has_lots", "Office.has_lots", defArgs s_Office_has_lots, defBody s_Office_has_lots, defScope s_Office_has_lots, [], []⟩,
  ⟨("Office", some "has_trip"), "has_trip", "Office.has_trip", defArgs s_Office_has_trip, defBody s_Office_has_trip, defScope s_Office_has_trip, [], []⟩,
  ⟨("Office", some "bearing"), "bearing", "Office.bearing", defArgs s_Office_bearing, defBody s_Office_bearing, defScope s_Office_bearing, [], []⟩,
  ⟨("Office", some "standing_trips"), "standing_trips", "Office.standing_trips", defArgs s_Office_standing_trips, defBody s_Office_standing_trips, defScope s_Office_standing_trips, [], []⟩,
  ⟨("Office", some "lots_left"), "lots_left", "Office.lots_left", defArgs s_Office_lots_left, defBody s_Office_lots_left, defScope s_Office_lots_left, [], []⟩,
  ⟨("Office", some "is_free"), "is_free", "Office.is_free", defArgs s_Office_is_free, defBody s_Office_is_free, defScope s_Office_is_free, [], []⟩,
  ⟨("Office", some "weight"), "weight", "Office.weight", defArgs s_Office_weight, defBody s_Office_weight, defScope s_Office_weight, [], []⟩,
  ⟨("Office", some "without"), "without", "Office.without", defArgs s_Office_without, defBody s_Office_without, defScope s_Office_without, [], []⟩,
  ⟨("are_numbers_in_range", none), "are_numbers_in_range", "are_numbers_in_range", defArgs s_are_numbers_in_range, defBody s_are_numbers_in_range, defScope s_are_numbers_in_range, [], []⟩,
  ⟨("is_row_in_range", none), "is_row_in_range", "is_row_in_range", defArgs s_is_row_in_range, defBody s_is_row_in_range, defScope s_is_row_in_range, [], []⟩,
  ⟨("is_span_in_range", none), "is_span_in_range", "is_span_in_range", defArgs s_is_span_in_range, defBody s_is_span_in_range, defScope s_is_span_in_range, [], []⟩,
  ⟨("is_in_range", none), "is_in_range", "is_in_range", defArgs s_is_in_range, defBody s_is_in_range, defScope s_is_in_range, [], []⟩,
  ⟨("add_road", none), "add_road", "add_road", defArgs s_add_road, defBody s_add_road, defScope s_add_road, [], []⟩,
  ⟨("add_limit", none), "add_limit", "add_limit", defArgs s_add_limit, defBody s_add_limit, defScope s_add_limit, [], []⟩,
  ⟨("add_truck", none), "add_truck", "add_truck", defArgs s_add_truck, defBody s_add_truck, defScope s_add_truck, [], []⟩,
  ⟨("add_lot", none), "add_lot", "add_lot", defArgs s_add_lot, defBody s_add_lot, defScope s_add_lot, [], []⟩,
  ⟨("tell_state", none), "tell_state", "tell_state", defArgs s_tell_state, defBody s_tell_state, defScope s_tell_state, [], []⟩,
  ⟨("offer", none), "offer", "offer", defArgs s_offer, defBody s_offer, defScope s_offer, [], []⟩,
  ⟨("spread", none), "spread", "spread", defArgs s_spread, defBody s_spread, defScope s_spread, [], []⟩,
  ⟨("shortest_from", none), "shortest_from", "shortest_from", defArgs s_shortest_from, defBody s_shortest_from, defScope s_shortest_from, [], []⟩,
  ⟨("Ways", some "__init__"), "__init__", "Ways.__init__", defArgs s_Ways_init, defBody s_Ways_init, defScope s_Ways_init, [], []⟩,
  ⟨("Ways", some "bearings"), "bearings", "Ways.bearings", defArgs s_Ways_bearings, defBody s_Ways_bearings, defScope s_Ways_bearings, [], []⟩,
  ⟨("Ways", some "roads_for"), "roads_for", "Ways.roads_for", defArgs s_Ways_roads_for, defBody s_Ways_roads_for, defScope s_Ways_roads_for, [], []⟩,
  ⟨("Ways", some "drive"), "drive", "Ways.drive", defArgs s_Ways_drive, defBody s_Ways_drive, defScope s_Ways_drive, [], []⟩,
  ⟨("tell_drive", none), "tell_drive", "tell_drive", defArgs s_tell_drive, defBody s_tell_drive, defScope s_tell_drive, [], []⟩,
  ⟨("most_kilograms", none), "most_kilograms", "most_kilograms", defArgs s_most_kilograms, defBody s_most_kilograms, defScope s_most_kilograms, [], []⟩,
  ⟨("tell_most", none), "tell_most", "tell_most", defArgs s_tell_most, defBody s_tell_most, defScope s_tell_most, [], []⟩,
  ⟨("is_needed", none), "is_needed", "is_needed", defArgs s_is_needed, defBody s_is_needed, defScope s_is_needed, [], []⟩,
  ⟨("tell_must", none), "tell_must", "tell_must", defArgs s_tell_must, defBody s_tell_must, defScope s_tell_must, [], []⟩,
  ⟨("against_lots", none), "against_lots", "against_lots", defArgs s_against_lots, defBody s_against_lots, defScope s_against_lots, [], []⟩,
  ⟨("legs_of", none), "legs_of", "legs_of", defArgs s_legs_of, defBody s_legs_of, defScope s_legs_of, [], []⟩,
  ⟨("look_at_load", none), "look_at_load", "look_at_load", defArgs s_look_at_load, defBody s_look_at_load, defScope s_look_at_load, [], []⟩,
  ⟨("free_slots", none), "free_slots", "free_slots", defArgs s_free_slots, defBody s_free_slots, defScope s_free_slots, [], []⟩,
  ⟨("chosen", none), "chosen", "chosen", defArgs s_chosen, defBody s_chosen, defScope s_chosen, [], []⟩,
  ⟨("loads_of", none), "loads_of", "loads_of", defArgs s_loads_of, defBody s_loads_of, defScope s_loads_of, [], []⟩,
  ⟨("costs", none), "costs", "costs", defArgs s_costs, defBody s_costs, defScope s_costs, [], []⟩,
  ⟨("with_slot", none), "with_slot", "with_slot", defArgs s_with_slot, defBody s_with_slot, defScope s_with_slot, [], []⟩,
  ⟨("best_plan", none), "best_plan", "best_plan", defArgs s_best_plan, defBody s_best_plan, defScope s_best_plan, [], []⟩,
  ⟨("tell_plan", none), "tell_plan", "tell_plan", defArgs s_tell_plan, defBody s_tell_plan, defScope s_tell_plan, [], []⟩,
  ⟨("most_gain", none), "most_gain", "most_gain", defArgs s_most_gain, defBody s_most_gain, defScope s_most_gain, [], []⟩,
  ⟨("tell_bound", none), "tell_bound", "tell_bound", defArgs s_tell_bound, defBody s_tell_bound, defScope s_tell_bound, [], []⟩,
  ⟨("is_stuck", none), "is_stuck", "is_stuck", defArgs s_is_stuck, defBody s_is_stuck, defScope s_is_stuck, [], []⟩,
  ⟨("tell_stuck", none), "tell_stuck", "tell_stuck", defArgs s_tell_stuck, defBody s_tell_stuck, defScope s_tell_stuck, [], []⟩,
  ⟨("tell_without", none), "tell_without", "tell_without", defArgs s_tell_without, defBody s_tell_without, defScope s_tell_without, [], []⟩,
  ⟨("are_left", none), "are_left", "are_left", defArgs s_are_left, defBody s_are_left, defScope s_are_left, [], []⟩,
  ⟨("load", none), "load", "load", defArgs s_load, defBody s_load, defScope s_load, [], []⟩,
  ⟨("book", none), "book", "book", defArgs s_book, defBody s_book, defScope s_book, [], []⟩,
  ⟨("call_off", none), "call_off", "call_off", defArgs s_call_off, defBody s_call_off, defScope s_call_off, [], []⟩,
  ⟨("paper", none), "paper", "paper", defArgs s_paper, defBody s_paper, defScope s_paper, [], []⟩,
  ⟨("scale", none), "scale", "scale", defArgs s_scale, defBody s_scale, defScope s_scale, [], []⟩,
  ⟨("known_weight", none), "known_weight", "known_weight", defArgs s_known_weight, defBody s_known_weight, defScope s_known_weight, [], []⟩,
  ⟨("least_bearing", none), "least_bearing", "least_bearing", defArgs s_least_bearing, defBody s_least_bearing, defScope s_least_bearing, [], []⟩,
  ⟨("excess", none), "excess", "excess", defArgs s_excess, defBody s_excess, defScope s_excess, [], []⟩,
  ⟨("tell_over", none), "tell_over", "tell_over", defArgs s_tell_over, defBody s_tell_over, defScope s_tell_over, [], []⟩,
  ⟨("tell_left", none), "tell_left", "tell_left", defArgs s_tell_left, defBody s_tell_left, defScope s_tell_left, [], []⟩,
  ⟨("cut_calls", none), "cut_calls", "cut_calls", defArgs s_cut_calls, defBody s_cut_calls, defScope s_cut_calls, [], []⟩,
  ⟨("do_call", none), "do_call", "do_call", defArgs s_do_call, defBody s_do_call, defScope s_do_call, [], []⟩,
  ⟨("answers", none), "answers", "answers", defArgs s_answers, defBody s_answers, defScope s_answers, [], []⟩]
def fa : List He.Fa := [
  .int "OUT_OF_RANGE" (-1),
  .int "NOT_THERE" (-3),
  .int "CANNOT_BE" (-4),
  .int "USED_UP" (-8),
  .int "FULL" (-9),
  .int "MOST_ROADS" 32,
  .int "MOST_LIMITS" 16,
  .int "MOST_TRUCKS" 3,
  .int "MOST_LOTS" 24,
  .int "MOST_TRIPS" 24,
  .int "MOST_PLANNED" 8,
  .int "MOST_KILOGRAMS" 100000,
  .int "LONGEST_SPAN" 4,
  .int "NET" 1,
  .glo "Road",
  .glo "Limit",
  .glo "Truck",
  .glo "Lot",
  .glo "Trip",
  .glo "Office",
  .glo "Ways",
  .glo "are_numbers_in_range",
  .glo "is_row_in_range",
  .glo "is_span_in_range",
  .glo "is_in_range",
  .glo "add_road",
  .glo "add_limit",
  .glo "add_truck",
  .glo "add_lot",
  .glo "tell_state",
  .glo "offer",
  .glo "spread",
  .glo "shortest_from",
  .glo "tell_drive",
  .glo "most_kilograms",
  .glo "tell_most",
  .glo "is_needed",
  .glo "tell_must",
  .glo "against_lots",
  .glo "legs_of",
  .glo "look_at_load",
  .glo "free_slots",
  .glo "chosen",
  .glo "loads_of",
  .glo "costs",
  .glo "with_slot",
  .glo "best_plan",
  .glo "tell_plan",
  .glo "most_gain",
  .glo "tell_bound",
  .glo "is_stuck",
  .glo "tell_stuck",
  .glo "tell_without",
  .glo "are_left",
  .glo "load",
  .glo "book",
  .glo "call_off",
  .glo "paper",
  .glo "scale",
  .glo "known_weight",
  .glo "least_bearing",
  .glo "excess",
  .glo "tell_over",
  .glo "tell_left",
  .glo "cut_calls",
  .glo "do_call",
  .glo "answers",
  .glo "RANGES",
  .glo "ROWS",
  .glo "SPANS",
  .glo "DEEDS",
  .glo "DEEDS_WITH_ROW",
  .free "len",
  .free "range",
  .free "enumerate",
  .free "zip",
  .free "all",
  .free "any",
  .free "sum",
  .free "min",
  .free "max",
  .free "sorted",
  .free "reversed",
  .free "set",
  .free "list",
  .free "tuple",
  .cls "Road",
  .mkr "Road",
  .noat "Road" "a",
  .noat "Road" "b",
  .noat "Road" "metres",
  .noat "Road" "kilograms",
  .cls "Limit",
  .mkr "Limit",
  .noat "Limit" "road",
  .noat "Limit" "first",
  .noat "Limit" "last",
  .noat "Limit" "kilograms",
  .cls "Truck",
  .mkr "Truck",
  .noat "Truck" "place",
  .noat "Truck" "empty",
  .noat "Truck" "loadable",
  .cls "Lot",
  .mkr "Lot",
  .noat "Lot" "place",
  .noat "Lot" "mill",
  .noat "Lot" "kilograms",
  .noat "Lot" "first",
  .noat "Lot" "last",
  .cls "Trip",
  .mkr "Trip",
  .noat "Trip" "truck",
  .noat "Trip" "day",
  .noat "Trip" "lots",
  .noat "Trip" "metres",
  .noat "Trip" "roads",
  .noat "Trip" "scaled",
  .noat "Trip" "called_off",
  .cls "Office",
  .mkr "Office",
  .noat "Office" "places",
  .noat "Office" "roads",
  .noat "Office" "limits",
  .noat "Office" "trucks",
  .noat "Office" "lots",
  .noat "Office" "trips",
  .meth "Office" "has_place",
  .meth "Office" "has_road",
  .meth "Office" "has_truck",
  .meth "Office" "has_lots",
  .meth "Office" "has_trip",
  .meth "Office" "bearing",
  .meth "Office" "standing_trips",
  .meth "Office" "lots_left",
  .meth "Office" "is_free",
  .meth "Office" "weight",
  .meth "Office" "without",
  .cls "Ways",
  .mkr "Ways",
  .noat "Ways" "office",
  .noat "Ways" "borne",
  .noat "Ways" "known",
  .meth "Ways" "bearings",
  .meth "Ways" "roads_for",
  .meth "Ways" "drive"]
def names0 : List PySem.Str := ["Road", "Limit", "Truck", "Lot", "Trip", "Office", "OUT_OF_RANGE", "NOT_THERE", "CANNOT_BE", "USED_UP", "FULL", "MOST_ROADS", "MOST_LIMITS", "MOST_TRUCKS", "MOST_LOTS", "MOST_TRIPS", "MOST_PLANNED", "MOST_KILOGRAMS", "LONGEST_SPAN", "PLACE"]
def names1 : List PySem.Str := ["ROAD", "TRUCK", "TRIP", "DAY", "METRES", "BEARING", "WEIGHT", "LOADABLE", "NET", "RANGES", "ROWS", "SPANS", "are_numbers_in_range", "is_row_in_range", "is_span_in_range", "is_in_range", "add_road", "add_limit", "add_truck", "add_lot"]
def names2 : List PySem.Str := ["tell_state", "offer", "spread", "shortest_from", "Ways", "tell_drive", "most_kilograms", "tell_most", "is_needed", "tell_must", "against_lots", "legs_of", "look_at_load", "free_slots", "chosen", "loads_of", "costs", "with_slot", "best_plan", "tell_plan"]
def names3 : List PySem.Str := ["most_gain", "tell_bound", "is_stuck", "tell_stuck", "tell_without", "are_left", "load", "book", "call_off", "paper", "scale", "known_weight", "least_bearing", "excess", "tell_over", "tell_left", "DEEDS", "DEEDS_WITH_ROW", "cut_calls", "do_call"]
def names : List PySem.Str := names0 ++ (names1 ++ (names2 ++ (names3)))
abbrev qv : Program := PySem.W.view P [88]
/-! ### the written dicts with whole numbers for keys -/
def entsI : List DictEntry → Option (List (Int × Value))
  | [] => some []
  | e :: r => match e.key with
    | .int i _ => (match decide (e.hash = hashInt i) with
      | true => (match entsI r with
        | some l => some ((i, e.val) :: l)
        | none => none)
      | false => none)
    | _ => none
def dictI (K : PySem.W.Frag) (a : Addr) : Option (List (Int × Value)) := match K.lookup a with
  | some ⟨.type c, none, .dict es _, sl⟩ => (match decide (c = "dict") && (sl.isEmpty && !(a == sysModules)) with
    | true => entsI es.toList
    | false => none)
  | _ => none
def intsV : List Value → Option (List Int)
  | [] => some []
  | .int i _ :: r => (match intsV r with
    | some l => some (i :: l)
    | none => none)
  | _ => none
def tupV (K : PySem.W.Frag) : Value → Option (List Value)
  | .ref t => (match K.lookup t with
    | some ⟨.type c, _, .seq its _, _⟩ => (match decide (c = "tuple") && decide (its.size ≤ 1000) with
      | true => some its.toList
      | false => none)
    | _ => none)
  | _ => none
def tupI (K : PySem.W.Frag) (v : Value) : Option (List Int) := match tupV K v with
  | some l => intsV l
  | none => none
def mapO {α β : Type} (f : α → Option β) : List α → Option (List β)
  | [] => some []
  | x :: r => (match f x with
    | some y => (match mapO f r with
      | some l => some (y :: l)
      | none => none)
    | none => none)
def tupT (K : PySem.W.Frag) (v : Value) : Option (List (List Int)) := match tupV K v with
  | some l => mapO (tupI K) l
  | none => none
def rangesK (K : PySem.W.Frag) : Option (List (Int × List (List Int))) := match dictI K (He.ga K "RANGES") with
  | some l => mapO (fun x : Int × Value => match tupT K x.2 with
    | some r => some (x.1, r)
    | none => none) l
  | none => none
def rowsK (K : PySem.W.Frag) : Option (List (Int × List Int)) := match dictI K (He.ga K "ROWS") with
  | some l => mapO (fun x : Int × Value => match tupI K x.2 with
    | some r => some (x.1, r)
    | none => none) l
  | none => none
def rangesL : List (Int × List (List Int)) := [(1, [[2, 16]]), (2, [[0, 15], [0, 15], [1, 1000000], [0, 100000]]), (3, [[0, 31], [0, 99999], [0, 99999], [0, 100000]]), (4, [[0, 15], [1, 50000], [1, 50000]]),
  (5, [[0, 15], [0, 15], [1, 50000], [0, 99999], [0, 99999]]), (6, []), (7, [[0, 15], [0, 15], [0, 99999], [1, 100000]]), (8, [[0, 15], [0, 15], [0, 99999]]), (9, [[0, 15], [0, 15], [0, 99999], [1, 100000]]),
  (10, [[0, 2], [0, 99999]]), (11, [[0, 2], [0, 99999]]), (12, [[0, 23]]), (13, [[0, 23]]), (14, [[0, 23], [1, 100000]]), (15, []), (16, []), (17, [[0, 1], [0, 99999], [0, 99999]]), (18, [[0, 99999], [0, 99999]]),
  (19, [[0, 99999], [0, 99999]]), (20, [[0, 31], [0, 99999], [0, 99999]])]
def rowsL : List (Int × List Int) := [(10, [1, 24, 0, 23]), (11, [1, 24, 0, 23]), (18, [0, 8, -1000000000, 1000000000])]
def spansL : List (Int × Int) := [(17, 1), (18, 0), (19, 0), (20, 1)]
def deedsL : List (Int × Str) := [(2, "add_road"), (3, "add_limit"), (4, "add_truck"), (5, "add_lot"), (6, "tell_state"), (7, "tell_drive"), (8, "tell_most"), (9, "tell_must"), (12, "call_off"), (13, "paper"), (14, "scale"),
  (15, "tell_over"), (16, "tell_left"), (17, "tell_plan"), (19, "tell_stuck"), (20, "tell_without")]
def deedsRL : List (Int × Str) := [(10, "load"), (11, "book"), (18, "tell_bound")]
def refsL (K : PySem.W.Frag) (l : List (Int × Str)) : List (Int × Addr) := l.map fun x => (x.1, He.ga K x.2)
def adrs : List (Int × Value) → Option (List (Int × Addr))
  | [] => some []
  | (i, .ref a) :: r => (match adrs r with
    | some l => some ((i, a) :: l)
    | none => none)
  | _ => none
def nums : List (Int × Value) → Option (List (Int × Int))
  | [] => some []
  | (i, .int j _) :: r => (match nums r with
    | some l => some ((i, j) :: l)
    | none => none)
  | _ => none
def adrK (K : PySem.W.Frag) (x : Str) : Option (List (Int × Addr)) := match dictI K (He.ga K x) with
  | some l => adrs l
  | none => none
def numK (K : PySem.W.Frag) (x : Str) : Option (List (Int × Int)) := match dictI K (He.ga K x) with
  | some l => nums l
  | none => none
def tabsB (K : PySem.W.Frag) : Bool := decide (rangesK K = some rangesL) && (decide (rowsK K = some rowsL) && (decide (numK K "SPANS" = some spansL) && (decide (adrK K "DEEDS" = some (refsL K deedsL)) && decide (adrK K "DEEDS_WITH_ROW" = some (refsL K deedsRL)))))
/-! ### the hook -/
abbrev Al : Type := Bool × He.AlD
def obsK (K : PySem.W.Frag) : Al := (tabsB K, He.obsD fa fn K)
def valK : Al := (true, He.valD fn)
def obsG (g : Addr → Option Obj) : Al := obsK (He.frG g (He.asG g 5))
def hk : PySem.W.Hook where
  α := Al
  obs := fun s => obsG s.heap.get?
  val := fun _ => valK
  says := fun _ h => ∃ K : PySem.W.Frag, K.In h ∧ obsK K = valK
  of := fun _ _ e => ⟨_, He.frG_in, e⟩
  keeps := fun _ _ _ ⟨K, hK, c⟩ k => ⟨K, PySem.W.Frag.In.keeps hK k, c⟩
def ob (s : PySem.W.SharedT) : Al := obsG (HeadRun.getT s)
theorem ob_eq (s : PySem.W.SharedT) : ob s = hk.obs s.abs := by
  have e : HeadRun.getT s = s.abs.heap.get? := funext fun a => HeadRun.getT_eq s a
  show obsG (HeadRun.getT s) = obsG s.abs.heap.get?
  rw [e]
theorem run_f (w : World) : HeadRun.RunEqS PySem.Challenge.rw_thawhaul_s01_answers qv hk ob 6000 names (w.withFollow "special-get-raises" false) := by
  intro os
  kernel_rfl
theorem run_t (w : World) : HeadRun.RunEqS PySem.Challenge.rw_thawhaul_s01_answers qv hk ob 6000 names (w.withFollow "special-get-raises" true) := by
  intro os
  kernel_rfl
theorem run (w : World) : HeadRun.RunEqS PySem.Challenge.rw_thawhaul_s01_answers qv hk ob 6000 names w :=
  PySem.W.byRow2 "special-get-raises" (P := fun w => HeadRun.RunEqS PySem.Challenge.rw_thawhaul_s01_answers qv hk ob 6000 names w) run_f run_t w
end Th
namespace Th
open PySem PySem.Spec PyProof.Rows L2
open PySem.W (Codec)
/-- the end: the written part K is found with its facts -/
theorem walk_end {r : PySem.W.OpenSpec} {k : Nat} {q : Program} {loose : List Str} {XP : (Str → Option Value) → Heap → Prop} {d : DefRec} {ps : List Str} {sp : PySem.W.Frag → Sp} {F : PySem.W.Frag → Prop}
    (hwell : r.wellSaid = true) (hlen : r.args.length = ps.length) (hr : Room k callerA)
    (hF : ∀ (w : World) (mg : Str → Option Value) (fa : Addr) (h : Heap) (K : PySem.W.Frag), F K → K.In h → h.Ns mainGlobals mg → mg d.name = some (.ref fa) →
      ∃ fd : FuncData, (∀ (s : Shared) (us : List Value), us.length = ps.length → BindsTo s fd ⟨us, []⟩ (ps.zip us)) ∧ ∀ base : Heap, K.In base → base.Ns mainGlobals mg → FnOk r.prog w K mg base CX0 k fa fd ps (sp K))
    (hsp : ∀ (K : PySem.W.Frag) (H : Hp) (xs : List V) (a : Codec.denoteAll r.args), OnlyF H → Codec.withinAll r.args a = true → Codec.app r.args r.asked a = true → DwAll K H xs (Codec.encAll r.args a) →
      sp K xs H (fun v H' => Dw K H' v (r.ret.enc (Codec.app r.args r.f a))) fun _ _ _ => False) :
    PySem.W.WalkOS q loose XP (fun _ h => ∃ K : PySem.W.Frag, K.In h ∧ F K) r d [] (fun f vs => PySem.call f vs) := by
  intro w s₀ s₁ mg mb G Y fa o pm cd doc dV kV ho hd hcd hD hmg hg args vals as hpre hlay hrd hwl hlo
  obtain ⟨a, e1, e2⟩ := PySem.W.os_pre_some hpre
  obtain ⟨e3, hwi⟩ := Codec.encAll_of_decAll r.args args a e1
  subst e3
  obtain ⟨K, KX, c⟩ := Y
  obtain ⟨fd, hb, hf⟩ := hF w mg fa _ K c KX G.T.g hmg
  have body := spec_call (R := []) (cl := classAt s₀.heap) (d0 := r.ret.enc (Codec.app r.args r.f a)) KX G.T.g G.T.b G.T.builtins G.T.nolimit hg hwl (pl_encAll _ _) (layable_weight hlay) hr hf hb (by rw [encAll_len]; exact hlen)
    (fun H xs hO hS => hsp K H xs a hO hwi e2 hS) (fun H e s' z => z)
  refine PySem.W.enter_call (codeAny_mono body fun r' s' hq => ?_)
  obtain ⟨u, as', rfl, h1, h2, h3, h4⟩ := hq
  refine ⟨.inl ⟨u, _, as', rfl, fun _ => rfl, h1, ?_, fun z => Bool.noConfusion (show false = true from z)⟩, h2, h3, h4⟩
  exact (PySem.W.OpenSpec.post_iff hwell hwi _ _).mpr rfl
end Th
namespace Th
open PySem PySem.Spec PyProof.Rows L2
/-- the written part as it stands behind the top -/
structure Txt (K : PySem.W.Frag) (mg : Str → Option Value) : Prop where
  c : obsK K = valK
  ex : ∃ h : Heap, K.In h ∧ h.Ns mainGlobals mg
section
variable {K : PySem.W.Frag} {mg : Str → Option Value}
theorem Txt.says (T : Txt K mg) : He.SaysD fa fn K := congrArg Prod.snd T.c
theorem Txt.tabs (T : Txt K mg) : tabsB K = true := congrArg Prod.fst T.c
theorem Txt.glo (T : Txt K mg) (i : Nat) {x : Str} (h : fa[i]? = some (.glo x) := by rfl) : mg x = some (.ref (He.ga K x)) := by
  obtain ⟨_, X, G⟩ := T.ex
  exact He.glo_ok X G (T.says.fact i h)
theorem Txt.free (T : Txt K mg) (i : Nat) {x : Str} (h : fa[i]? = some (.free x) := by rfl) : mg x = none := by
  obtain ⟨_, X, G⟩ := T.ex
  exact He.free_ok X G (T.says.fact i h)
theorem Txt.int (T : Txt K mg) (i : Nat) {x : Str} {n : Int} (h : fa[i]? = some (.int x n) := by rfl) : ∃ t, mg x = some (.int n t) := by
  obtain ⟨_, X, G⟩ := T.ex
  exact He.int_ok X G (T.says.fact i h)
theorem Txt.cls (T : Txt K mg) (i : Nat) {x : Str} (h : fa[i]? = some (.cls x) := by rfl) : Cls K (He.ga K x) := He.cls_ok (T.says.fact i h)
theorem Txt.noat (T : Txt K mg) (i : Nat) {x f : Str} (h : fa[i]? = some (.noat x f) := by rfl) : NoAttr K (He.ga K x) f := He.noat_ok (T.says.fact i h)
theorem Txt.meth (T : Txt K mg) (i : Nat) {x m : Str} (h : fa[i]? = some (.meth x m) := by rfl) : Meth K (He.ga K x) m (He.ma K (He.ga K x) m) := He.meth_ok (T.says.fact i h)
theorem Txt.mkr (T : Txt K mg) (i : Nat) {x : Str} (h : fa[i]? = some (.mkr x) := by rfl) : Mk K (He.ga K x) (He.ma K (He.ga K x) "__init__") := He.mkr_ok (T.says.fact i h)
theorem fun_ofD {x qual : Str} {st : Stmt} {f : Addr} {fd : FuncData} (F : FunD K x qual (defArgs st) (defBody st) (defScope st) [] [] f fd) : Fun K x qual st f fd := by
  obtain ⟨oc, od, dV, kV, doc, pm, an, cdv, ct, osl, e, lk, hcd, hD, _⟩ := F.ex
  rcases hD with ⟨_, rfl⟩ | ⟨z, _⟩
  · exact ⟨⟨oc, od, kV, doc, pm, an, cdv, ct, osl, e, lk, hcd⟩, F.kp⟩
  · exact absurd rfl z
theorem Txt.fn_ (T : Txt K mg) (i : Nat) {x qual : Str} {st : Stmt} {a : Str × Option Str} (h : fn[i]? = some ⟨a, x, qual, defArgs st, defBody st, defScope st, [], []⟩ := by rfl) : ∃ fd, Fun K x qual st (He.fAd K a) fd := by
  obtain ⟨fd, F⟩ := T.says.def_ i h
  exact ⟨fd, fun_ofD F⟩
theorem Txt.i_OUT_OF_RANGE (T : Txt K mg) : ∃ t, mg "OUT_OF_RANGE" = some (.int (-1) t) := T.int 0
theorem Txt.i_NOT_THERE (T : Txt K mg) : ∃ t, mg "NOT_THERE" = some (.int (-3) t) := T.int 1
theorem Txt.i_CANNOT_BE (T : Txt K mg) : ∃ t, mg "CANNOT_BE" = some (.int (-4) t) := T.int 2
theorem Txt.i_USED_UP (T : Txt K mg) : ∃ t, mg "USED_UP" = some (.int (-8) t) := T.int 3
theorem Txt.i_FULL (T : Txt K mg) : ∃ t, mg "FULL" = some (.int (-9) t) := T.int 4
theorem Txt.i_MOST_ROADS (T : Txt K mg) : ∃ t, mg "MOST_ROADS" = some (.int 32 t) := T.int 5
theorem Txt.i_MOST_LIMITS (T : Txt K mg) : ∃ t, mg "MOST_LIMITS" = some (.int 16 t) := T.int 6
theorem Txt.i_MOST_TRUCKS (T : Txt K mg) : ∃ t, mg "MOST_TRUCKS" = some (.int 3 t) := T.int 7
theorem Txt.i_MOST_LOTS (T : Txt K mg) : ∃ t, mg "MOST_LOTS" = some (.int 24 t) := T.int 8
theorem Txt.i_MOST_TRIPS (T : Txt K mg) : ∃ t, mg "MOST_TRIPS" = some (.int 24 t) := T.int 9
theorem Txt.i_MOST_PLANNED (T : Txt K mg) : ∃ t, mg "MOST_PLANNED" = some (.int 8 t) := T.int 10
theorem Txt.i_MOST_KILOGRAMS (T : Txt K mg) : ∃ t, mg "MOST_KILOGRAMS" = some (.int 100000 t) := T.int 11
theorem Txt.i_LONGEST_SPAN (T : Txt K mg) : ∃ t, mg "LONGEST_SPAN" = some (.int 4 t) := T.int 12
theorem Txt.i_NET (T : Txt K mg) : ∃ t, mg "NET" = some (.int 1 t) := T.int 13
theorem Txt.g_Road (T : Txt K mg) : mg "Road" = some (.ref (He.ga K "Road")) := T.glo 14
theorem Txt.g_Limit (T : Txt K mg) : mg "Limit" = some (.ref (He.ga K "Limit")) := T.glo 15
theorem Txt.g_Truck (T : Txt K mg) : mg "Truck" = some (.ref (He.ga K "Truck")) := T.glo 16
theorem Txt.g_Lot (T : Txt K mg) : mg "Lot" = some (.ref (He.ga K "Lot")) := T.glo 17
theorem Txt.g_Trip (T : Txt K mg) : mg "Trip" = some (.ref (He.ga K "Trip")) := T.glo 18
theorem Txt.g_Office (T : Txt K mg) : mg "Office" = some (.ref (He.ga K "Office")) := T.glo 19
theorem Txt.g_Ways (T : Txt K mg) : mg "Ways" = some (.ref (He.ga K "Ways")) := T.glo 20
theorem Txt.g_are_numbers_in_range (T : Txt K mg) : mg "are_numbers_in_range" = some (.ref (He.ga K "are_numbers_in_range")) := T.glo 21
theorem Txt.g_is_row_in_range (T : Txt K mg) : mg "is_row_in_range" = some (.ref (He.ga K "is_row_in_range")) := T.glo 22
theorem Txt.g_is_span_in_range (T : Txt K mg) : mg "is_span_in_range" = some (.ref (He.ga K "is_span_in_range")) := T.glo 23
theorem Txt.g_is_in_range (T : Txt K mg) : mg "is_in_range" = some (.ref (He.ga K "is_in_range")) := T.glo 24
theorem Txt.g_add_road (T : Txt K mg) : mg "add_road" = some (.ref (He.ga K "add_road")) := T.glo 25
theorem Txt.g_add_limit (T : Txt K mg) : mg "add_limit" = some (.ref (He.ga K "add_limit")) := T.glo 26
theorem Txt.g_add_truck (T : Txt K mg) : mg "add_truck" = some (.ref (He.ga K "add_truck")) := T.glo 27
theorem Txt.g_add_lot (T : Txt K mg) : mg "add_lot" = some (.ref (He.ga K "add_lot")) := T.glo 28
theorem Txt.g_tell_state (T : Txt K mg) : mg "tell_state" = some (.ref (He.ga K "tell_state")) := T.glo 29
theorem Txt.g_offer (T : Txt K mg) : mg "offer" = some (.ref (He.ga K "offer")) := T.glo 30
theorem Txt.g_spread (T : Txt K mg) : mg "spread" = some (.ref (He.ga K "spread")) := T.glo 31
theorem Txt.g_shortest_from (T : Txt K mg) : mg "shortest_from" = some (.ref (He.ga K "shortest_from")) := T.glo 32
theorem Txt.g_tell_drive (T : Txt K mg) : mg "tell_drive" = some (.ref (He.ga K "tell_drive")) := T.glo 33
theorem Txt.g_most_kilograms (T : Txt K mg) : mg "most_kilograms" = some (.ref (He.ga K "most_kilograms")) := T.glo 34
theorem Txt.g_tell_most (T : Txt K mg) : mg "tell_most" = some (.ref (He.ga K "tell_most")) := T.glo 35
theorem Txt.g_is_needed (T : Txt K mg) : mg "is_needed" = some (.ref (He.ga K "is_needed")) := T.glo 36
theorem Txt.g_tell_must (T : Txt K mg) : mg "tell_must" = some (.ref (He.ga K "tell_must")) := T.glo 37
theorem Txt.g_against_lots (T : Txt K mg) : mg "against_lots" = some (.ref (He.ga K "against_lots")) := T.glo 38
theorem Txt.g_legs_of (T : Txt K mg) : mg "legs_of" = some (.ref (He.ga K "legs_of")) := T.glo 39
theorem Txt.g_look_at_load (T : Txt K mg) : mg "look_at_load" = some (.ref (He.ga K "look_at_load")) := T.glo 40
theorem Txt.g_free_slots (T : Txt K mg) : mg "free_slots" = some (.ref (He.ga K "free_slots")) := T.glo 41
theorem Txt.g_chosen (T : Txt K mg) : mg "chosen" = some (.ref (He.ga K "chosen")) := T.glo 42
theorem Txt.g_loads_of (T : Txt K mg) : mg "loads_of" = some (.ref (He.ga K "loads_of")) := T.glo 43
theorem Txt.g_costs (T : Txt K mg) : mg "costs" = some (.ref (He.ga K "costs")) := T.glo 44
theorem Txt.g_with_slot (T : Txt K mg) : mg "with_slot" = some (.ref (He.ga K "with_slot")) := T.glo 45
theorem Txt.g_best_plan (T : Txt K mg) : mg "best_plan" = some (.ref (He.ga K "best_plan")) := T.glo 46
theorem Txt.g_tell_plan (T : Txt K mg) : mg "tell_plan" = some (.ref (He.ga K "tell_plan")) := T.glo 47
theorem Txt.g_most_gain (T : Txt K mg) : mg "most_gain" = some (.ref (He.ga K "most_gain")) := T.glo 48
theorem Txt.g_tell_bound (T : Txt K mg) : mg "tell_bound" = some (.ref (He.ga K "tell_bound")) := T.glo 49
theorem Txt.g_is_stuck (T : Txt K mg) : mg "is_stuck" = some (.ref (He.ga K "is_stuck")) := T.glo 50
theorem Txt.g_tell_stuck (T : Txt K mg) : mg "tell_stuck" = some (.ref (He.ga K "tell_stuck")) := T.glo 51
theorem Txt.g_tell_without (T : Txt K mg) : mg "tell_without" = some (.ref (He.ga K "tell_without")) := T.glo 52
theorem Txt.g_are_left (T : Txt K mg) : mg "are_left" = some (.ref (He.ga K "are_left")) := T.glo 53
theorem Txt.g_load (T : Txt K mg) : mg "load" = some (.ref (He.ga K "load")) := T.glo 54
theorem Txt.g_book (T : Txt K mg) : mg "book" = some (.ref (He.ga K "book")) := T.glo 55
theorem Txt.g_call_off (T : Txt K mg) : mg "call_off" = some (.ref (He.ga K "call_off")) := T.glo 56
theorem Txt.g_paper (T : Txt K mg) : mg "paper" = some (.ref (He.ga K "paper")) := T.glo 57
theorem Txt.g_scale (T : Txt K mg) : mg "scale" = some (.ref (He.ga K "scale")) := T.glo 58
theorem Txt.g_known_weight (T : Txt K mg) : mg "known_weight" = some (.ref (He.ga K "known_weight")) := T.glo 59
theorem Txt.g_least_bearing (T : Txt K mg) : mg "least_bearing" = some (.ref (He.ga K "least_bearing")) := T.glo 60
theorem Txt.g_excess (T : Txt K mg) : mg "excess" = some (.ref (He.ga K "excess")) := T.glo 61
theorem Txt.g_tell_over (T : Txt K mg) : mg "tell_over" = some (.ref (He.ga K "tell_over")) := T.glo 62
theorem Txt.g_tell_left (T : Txt K mg) : mg "tell_left" = some (.ref (He.ga K "tell_left")) := T.glo 63
theorem Txt.g_cut_calls (T : Txt K mg) : mg "cut_calls" = some (.ref (He.ga K "cut_calls")) := T.glo 64
theorem Txt.g_do_call (T : Txt K mg) : mg "do_call" = some (.ref (He.ga K "do_call")) := T.glo 65
theorem Txt.g_answers (T : Txt K mg) : mg "answers" = some (.ref (He.ga K "answers")) := T.glo 66
theorem Txt.g_RANGES (T : Txt K mg) : mg "RANGES" = some (.ref (He.ga K "RANGES")) := T.glo 67
theorem Txt.g_ROWS (T : Txt K mg) : mg "ROWS" = some (.ref (He.ga K "ROWS")) := T.glo 68
theorem Txt.g_SPANS (T : Txt K mg) : mg "SPANS" = some (.ref (He.ga K "SPANS")) := T.glo 69
theorem Txt.g_DEEDS (T : Txt K mg) : mg "DEEDS" = some (.ref (He.ga K "DEEDS")) := T.glo 70
theorem Txt.g_DEEDS_WITH_ROW (T : Txt K mg) : mg "DEEDS_WITH_ROW" = some (.ref (He.ga K "DEEDS_WITH_ROW")) := T.glo 71
theorem Txt.n_len (T : Txt K mg) : mg "len" = none := T.free 72
theorem Txt.n_range (T : Txt K mg) : mg "range" = none := T.free 73
theorem Txt.n_enumerate (T : Txt K mg) : mg "enumerate" = none := T.free 74
theorem Txt.n_zip (T : Txt K mg) : mg "zip" = none := T.free 75
theorem Txt.n_all (T : Txt K mg) : mg "all" = none := T.free 76
theorem Txt.n_any (T : Txt K mg) : mg "any" = none := T.free 77
theorem Txt.n_sum (T : Txt K mg) : mg "sum" = none := T.free 78
theorem Txt.n_min (T : Txt K mg) : mg "min" = none := T.free 79
theorem Txt.n_max (T : Txt K mg) : mg "max" = none := T.free 80
theorem Txt.n_sorted (T : Txt K mg) : mg "sorted" = none := T.free 81
theorem Txt.n_reversed (T : Txt K mg) : mg "reversed" = none := T.free 82
theorem Txt.n_set (T : Txt K mg) : mg "set" = none := T.free 83
theorem Txt.n_list (T : Txt K mg) : mg "list" = none := T.free 84
theorem Txt.n_tuple (T : Txt K mg) : mg "tuple" = none := T.free 85
theorem Txt.c_Road (T : Txt K mg) : Cls K (He.ga K "Road") := T.cls 86
theorem Txt.k_Road (T : Txt K mg) : Mk K (He.ga K "Road") (He.ma K (He.ga K "Road") "__init__") := T.mkr 87
theorem Txt.a_Road_a (T : Txt K mg) : NoAttr K (He.ga K "Road") "a" := T.noat 88
theorem Txt.a_Road_b (T : Txt K mg) : NoAttr K (He.ga K "Road") "b" := T.noat 89
theorem Txt.a_Road_metres (T : Txt K mg) : NoAttr K (He.ga K "Road") "metres" := T.noat 90
theorem Txt.a_Road_kilograms (T : Txt K mg) : NoAttr K (He.ga K "Road") "kilograms" := T.noat 91
theorem Txt.c_Limit (T : Txt K mg) : Cls K (He.ga K "Limit") := T.cls 92
theorem Txt.k_Limit (T : Txt K mg) : Mk K (He.ga K "Limit") (He.ma K (He.ga K "Limit") "__init__") := T.mkr 93
theorem Txt.a_Limit_road (T : Txt K mg) : NoAttr K (He.ga K "Limit") "road" := T.noat 94
theorem Txt.a_Limit_first (T : Txt K mg) : NoAttr K (He.ga K "Limit") "first" := T.noat 95
theorem Txt.a_Limit_last (T : Txt K mg) : NoAttr K (He.ga K "Limit") "last" := T.noat 96
theorem Txt.a_Limit_kilograms (T : Txt K mg) : NoAttr K (He.ga K "Limit") "kilograms" := T.noat 97
theorem Txt.c_Truck (T : Txt K mg) : Cls K (He.ga K "Truck") := T.cls 98
theorem Txt.k_Truck (T : Txt K mg) : Mk K (He.ga K "Truck") (He.ma K (He.ga K "Truck") "__init__") := T.mkr 99
theorem Txt.a_Truck_place (T : Txt K mg) : NoAttr K (He.ga K "Truck") "place" := T.noat 100
theorem Txt.a_Truck_empty (T : Txt K mg) : NoAttr K (He.ga K "Truck") "empty" := T.noat 101
theorem Txt.a_Truck_loadable (T : Txt K mg) : NoAttr K (He.ga K "Truck") "loadable" := T.noat 102
theorem Txt.c_Lot (T : Txt K mg) : Cls K (He.ga K "Lot") := T.cls 103
theorem Txt.k_Lot (T : Txt K mg) : Mk K (He.ga K "Lot") (He.ma K (He.ga K "Lot") "__init__") := T.mkr 104
theorem Txt.a_Lot_place (T : Txt K mg) : NoAttr K (He.ga K "Lot") "place" := T.noat 105
theorem Txt.a_Lot_mill (T : Txt K mg) : NoAttr K (He.ga K "Lot") "mill" := T.noat 106
theorem Txt.a_Lot_kilograms (T : Txt K mg) : NoAttr K (He.ga K "Lot") "kilograms" := T.noat 107
theorem Txt.a_Lot_first (T : Txt K mg) : NoAttr K (He.ga K "Lot") "first" := T.noat 108
theorem Txt.a_Lot_last (T : Txt K mg) : NoAttr K (He.ga K "Lot") "last" := T.noat 109
theorem Txt.c_Trip (T : Txt K mg) : Cls K (He.ga K "Trip") := T.cls 110
theorem Txt.k_Trip (T : Txt K mg) : Mk K (He.ga K "Trip") (He.ma K (He.ga K "Trip") "__init__") := T.mkr 111
theorem Txt.a_Trip_truck (T : Txt K mg) : NoAttr K (He.ga K "Trip") "truck" := T.noat 112
theorem Txt.a_Trip_day (T : Txt K mg) : NoAttr K (He.ga K "Trip") "day" := T.noat 113
theorem Txt.a_Trip_lots (T : Txt K mg) : NoAttr K (He.ga K "Trip") "lots" := T.noat 114
theorem Txt.a_Trip_metres (T : Txt K mg) : NoAttr K (He.ga K "Trip") "metres" := T.noat 115
theorem Txt.a_Trip_roads (T : Txt K mg) : NoAttr K (He.ga K "Trip") "roads" := T.noat 116
theorem Txt.a_Trip_scaled (T : Txt K mg) : NoAttr K (He.ga K "Trip") "scaled" := T.noat 117
theorem Txt.a_Trip_called_off (T : Txt K mg) : NoAttr K (He.ga K "Trip") "called_off" := T.noat 118
theorem Txt.c_Office (T : Txt K mg) : Cls K (He.ga K "Office") := T.cls 119
theorem Txt.k_Office (T : Txt K mg) : Mk K (He.ga K "Office") (He.ma K (He.ga K "Office") "__init__") := T.mkr 120
theorem Txt.a_Office_places (T : Txt K mg) : NoAttr K (He.ga K "Office") "places" := T.noat 121
theorem Txt.a_Office_roads (T : Txt K mg) : NoAttr K (He.ga K "Office") "roads" := T.noat 122
theorem Txt.a_Office_limits (T : Txt K mg) : NoAttr K (He.ga K "Office") "limits" := T.noat 123
theorem Txt.a_Office_trucks (T : Txt K mg) : NoAttr K (He.ga K "Office") "trucks" := T.noat 124
theorem Txt.a_Office_lots (T : Txt K mg) : NoAttr K (He.ga K "Office") "lots" := T.noat 125
theorem Txt.a_Office_trips (T : Txt K mg) : NoAttr K (He.ga K "Office") "trips" := T.noat 126
theorem Txt.m_Office_has_place (T : Txt K mg) : Meth K (He.ga K "Office") "has_place" (He.ma K (He.ga K "Office") "has_place") := T.meth 127
theorem Txt.m_Office_has_road (T : Txt K mg) : Meth K (He.ga K "Office") "has_road" (He.ma K (He.ga K "Office") "has_road") := T.meth 128
theorem Txt.m_Office_has_truck (T : Txt K mg) : Meth K (He.ga K "Office") "has_truck" (He.ma K (He.ga K "Office") "has_truck") := T.meth 129
theorem Txt.m_Office_has_lots (T : Txt K mg) : Meth K (He.ga K "Office") "has_lots" (He.ma K (He.ga K "Office") "has_lots") := T.meth 130
theorem Txt.m_Office_has_trip (T : Txt K mg) : Meth K (He.ga K "Office") "has_trip" (He.ma K (He.ga K "Office") "has_trip") := T.meth 131
theorem Txt.m_Office_bearing (T : Txt K mg) : Meth K (He.ga K "Office") "bearing" (He.ma K (He.ga K "Office") "bearing") := T.meth 132
theorem Txt.m_Office_standing_trips (T : Txt K mg) : Meth K (He.ga K "Office") "standing_trips" (He.ma K (He.ga K "Office") "standing_trips") := T.meth 133
theorem Txt.m_Office_lots_left (T : Txt K mg) : Meth K (He.ga K "Office") "lots_left" (He.ma K (He.ga K "Office") "lots_left") := T.meth 134
theorem Txt.m_Office_is_free (T : Txt K mg) : Meth K (He.ga K "Office") "is_free" (He.ma K (He.ga K "Office") "is_free") := T.meth 135
theorem Txt.m_Office_weight (T : Txt K mg) : Meth K (He.ga K "Office") "weight" (He.ma K (He.ga K "Office") "weight") := T.meth 136
theorem Txt.m_Office_without (T : Txt K mg) : Meth K (He.ga K "Office") "without" (He.ma K (He.ga K "Office") "without") := T.meth 137
theorem Txt.c_Ways (T : Txt K mg) : Cls K (He.ga K "Ways") := T.cls 138
theorem Txt.k_Ways (T : Txt K mg) : Mk K (He.ga K "Ways") (He.ma K (He.ga K "Ways") "__init__") := T.mkr 139
theorem Txt.a_Ways_office (T : Txt K mg) : NoAttr K (He.ga K "Ways") "office" := T.noat 140
theorem Txt.a_Ways_borne (T : Txt K mg) : NoAttr K (He.ga K "Ways") "borne" := T.noat 141
theorem Txt.a_Ways_known (T : Txt K mg) : NoAttr K (He.ga K "Ways") "known" := T.noat 142
theorem Txt.m_Ways_bearings (T : Txt K mg) : Meth K (He.ga K "Ways") "bearings" (He.ma K (He.ga K "Ways") "bearings") := T.meth 143
theorem Txt.m_Ways_roads_for (T : Txt K mg) : Meth K (He.ga K "Ways") "roads_for" (He.ma K (He.ga K "Ways") "roads_for") := T.meth 144
theorem Txt.m_Ways_drive (T : Txt K mg) : Meth K (He.ga K "Ways") "drive" (He.ma K (He.ga K "Ways") "drive") := T.meth 145
theorem Txt.f_Road_init (T : Txt K mg) : ∃ fd, Fun K "__init__" "Road.__init__" s_Road_init (He.ma K (He.ga K "Road") "__init__") fd := T.fn_ 0
theorem Txt.f_Limit_init (T : Txt K mg) : ∃ fd, Fun K "__init__" "Limit.__init__" s_Limit_init (He.ma K (He.ga K "Limit") "__init__") fd := T.fn_ 1
theorem Txt.f_Truck_init (T : Txt K mg) : ∃ fd, Fun K "__init__" "Truck.__init__" s_Truck_init (He.ma K (He.ga K "Truck") "__init__") fd := T.fn_ 2
theorem Txt.f_Lot_init (T : Txt K mg) : ∃ fd, Fun K "__init__" "Lot.__init__" s_Lot_init (He.ma K (He.ga K "Lot") "__init__") fd := T.fn_ 3
theorem Txt.f_Trip_init (T : Txt K mg) : ∃ fd, Fun K "__init__" "Trip.__init__" s_Trip_init (He.ma K (He.ga K "Trip") "__init__") fd := T.fn_ 4
theorem Txt.f_Office_init (T : Txt K mg) : ∃ fd, Fun K "__init__" "Office.__init__" s_Office_init (He.ma K (He.ga K "Office") "__init__") fd := T.fn_ 5
theorem Txt.f_Office_has_place (T : Txt K mg) : ∃ fd, Fun K "has_place" "Office.has_place" s_Office_has_place (He.ma K (He.ga K "Office") "has_place") fd := T.fn_ 6
theorem Txt.f_Office_has_road (T : Txt K mg) : ∃ fd, Fun K "has_road" "Office.has_road" s_Office_has_road (He.ma K (He.ga K "Office") "has_road") fd := T.fn_ 7
theorem Txt.f_Office_has_truck (T : Txt K mg) : ∃ fd, Fun K "has_truck" "Office.has_truck" s_Office_has_truck (He.ma K (He.ga K "Office") "has_truck") fd := T.fn_ 8
theorem Txt.f_Office_has_lots (T : Txt K mg) : ∃ fd, Fun K "has_lots" "Office.has_lots" s_Office_has_lots (He.ma K (He.ga K "Office") "has_lots") fd := T.fn_ 9
theorem Txt.f_Office_has_trip (T : Txt K mg) : ∃ fd, Fun K "has_trip" "Office.has_trip" s_Office_has_trip (He.ma K (He.ga K "Office") "has_trip") fd := T.fn_ 10
theorem Txt.f_Office_bearing (T : Txt K mg) : ∃ fd, Fun K "bearing" "Office.bearing" s_Office_bearing (He.ma K (He.ga K "Office") "bearing") fd := T.fn_ 11
theorem Txt.f_Office_standing_trips (T : Txt K mg) : ∃ fd, Fun K "standing_trips" "Office.standing_trips" s_Office_standing_trips (He.ma K (He.ga K "Office") "standing_trips") fd := T.fn_ 12
theorem Txt.f_Office_lots_left (T : Txt K mg) : ∃ fd, Fun K "lots_left" "Office.lots_left" s_Office_lots_left (He.ma K (He.ga K "Office") "lots_left") fd := T.fn_ 13
theorem Txt.f_Office_is_free (T : Txt K mg) : ∃ fd, Fun K "is_free" "Office.is_free" s_Office_is_free (He.ma K (He.ga K "Office") "is_free") fd := T.fn_ 14
theorem Txt.f_Office_weight (T : Txt K mg) : ∃ fd, Fun K "weight" "Office.weight" s_Office_weight (He.ma K (He.ga K "Office") "weight") fd := T.fn_ 15
theorem Txt.f_Office_without (T : Txt K mg) : ∃ fd, Fun K "without" "Office.without" s_Office_without (He.ma K (He.ga K "Office") "without") fd := T.fn_ 16
theorem Txt.f_are_numbers_in_range (T : Txt K mg) : ∃ fd, Fun K "are_numbers_in_range" "are_numbers_in_range" s_are_numbers_in_range (He.ga K "are_numbers_in_range") fd := T.fn_ 17
theorem Txt.f_is_row_in_range (T : Txt K mg) : ∃ fd, Fun K "is_row_in_range" "is_row_in_range" s_is_row_in_range (He.ga K "is_row_in_range") fd := T.fn_ 18
theorem Txt.f_is_span_in_range (T : Txt K mg) : ∃ fd, Fun K "is_span_in_range" "is_span_in_range" s_is_span_in_range (He.ga K "is_span_in_range") fd := T.fn_ 19
theorem Txt.f_is_in_range (T : Txt K mg) : ∃ fd, Fun K "is_in_range" "is_in_range" s_is_in_range (He.ga K "is_in_range") fd := T.fn_ 20
theorem Txt.f_add_road (T : Txt K mg) : ∃ fd, Fun K "add_road" "add_road" s_add_road (He.ga K "add_road") fd := T.fn_ 21
theorem Txt.f_add_limit (T : Txt K mg) : ∃ fd, Fun K "add_limit" "add_limit" s_add_limit (He.ga K "add_limit") fd := T.fn_ 22
theorem Txt.f_add_truck (T : Txt K mg) : ∃ fd, Fun K "add_truck" "add_truck" s_add_truck (He.ga K "add_truck") fd := T.fn_ 23
theorem Txt.f_add_lot (T : Txt K mg) : ∃ fd, Fun K "add_lot" "add_lot" s_add_lot (He.ga K "add_lot") fd := T.fn_ 24
theorem Txt.f_tell_state (T : Txt K mg) : ∃ fd, Fun K "tell_state" "tell_state" s_tell_state (He.ga K "tell_state") fd := T.fn_ 25
theorem Txt.f_offer (T : Txt K mg) : ∃ fd, Fun K "offer" "offer" s_offer (He.ga K "offer") fd := T.fn_ 26
theorem Txt.f_spread (T : Txt K mg) : ∃ fd, Fun K "spread" "spread" s_spread (He.ga K "spread") fd := T.fn_ 27
theorem Txt.f_shortest_from (T : Txt K mg) : ∃ fd, Fun K "shortest_from" "shortest_from" s_shortest_from (He.ga K "shortest_from") fd := T.fn_ 28
theorem Txt.f_Ways_init (T : Txt K mg) : ∃ fd, Fun K "__init__" "Ways.__init__" s_Ways_init (He.ma K (He.ga K "Ways") "__init__") fd := T.fn_ 29
theorem Txt.f_Ways_bearings (T : Txt K mg) : ∃ fd, Fun K "bearings" "Ways.bearings" s_Ways_bearings (He.ma K (He.ga K "Ways") "bearings") fd := T.fn_ 30
theorem Txt.f_Ways_roads_for (T : Txt K mg) : ∃ fd, Fun K "roads_for" "Ways.roads_for" s_Ways_roads_for (He.ma K (He.ga K "Ways") "roads_for") fd := T.fn_ 31
theorem Txt.f_Ways_drive (T : Txt K mg) : ∃ fd, Fun K "drive" "Ways.drive" s_Ways_drive (He.ma K (He.ga K "Ways") "drive") fd := T.fn_ 32
theorem Txt.f_tell_drive (T : Txt K mg) : ∃ fd, Fun K "tell_drive" "tell_drive" s_tell_drive (He.ga K "tell_drive") fd := T.fn_ 33
theorem Txt.f_most_kilograms (T : Txt K mg) : ∃ fd, Fun K "most_kilograms" "most_kilograms" s_most_kilograms (He.ga K "most_kilograms") fd := T.fn_ 34
theorem Txt.f_tell_most (T : Txt K mg) : ∃ fd, Fun K "tell_most" "tell_most" s_tell_most (He.ga K "tell_most") fd := T.fn_ 35
theorem Txt.f_is_needed (T : Txt K mg) : ∃ fd, Fun K "is_needed" "is_needed" s_is_needed (He.ga K "is_needed") fd := T.fn_ 36
theorem Txt.f_tell_must (T : Txt K mg) : ∃ fd, Fun K "tell_must" "tell_must" s_tell_must (He.ga K "tell_must") fd := T.fn_ 37
theorem Txt.f_against_lots (T : Txt K mg) : ∃ fd, Fun K "against_lots" "against_lots" s_against_lots (He.ga K "against_lots") fd := T.fn_ 38
theorem Txt.f_legs_of (T : Txt K mg) : ∃ fd, Fun K "legs_of" "legs_of" s_legs_of (He.ga K "legs_of") fd := T.fn_ 39
theorem Txt.f_look_at_load (T : Txt K mg) : ∃ fd, Fun K "look_at_load" "look_at_load" s_look_at_load (He.ga K "look_at_load") fd := T.fn_ 40
theorem Txt.f_free_slots (T : Txt K mg) : ∃ fd, Fun K "free_slots" "free_slots" s_free_slots (He.ga K "free_slots") fd := T.fn_ 41
theorem Txt.f_chosen (T : Txt K mg) : ∃ fd, Fun K "chosen" "chosen" s_chosen (He.ga K "chosen") fd := T.fn_ 42
theorem Txt.f_loads_of (T : Txt K mg) : ∃ fd, Fun K "loads_of" "loads_of" s_loads_of (He.ga K "loads_of") fd := T.fn_ 43
theorem Txt.f_costs (T : Txt K mg) : ∃ fd, Fun K "costs" "costs" s_costs (He.ga K "costs") fd := T.fn_ 44
theorem Txt.f_with_slot (T : Txt K mg) : ∃ fd, Fun K "with_slot" "with_slot" s_with_slot (He.ga K "with_slot") fd := T.fn_ 45
theorem Txt.f_best_plan (T : Txt K mg) : ∃ fd, Fun K "best_plan" "best_plan" s_best_plan (He.ga K "best_plan") fd := T.fn_ 46
theorem Txt.f_tell_plan (T : Txt K mg) : ∃ fd, Fun K "tell_plan" "tell_plan" s_tell_plan (He.ga K "tell_plan") fd := T.fn_ 47
theorem Txt.f_most_gain (T : Txt K mg) : ∃ fd, Fun K "most_gain" "most_gain" s_most_gain (He.ga K "most_gain") fd := T.fn_ 48
theorem Txt.f_tell_bound (T : Txt K mg) : ∃ fd, Fun K "tell_bound" "tell_bound" s_tell_bound (He.ga K "tell_bound") fd := T.fn_ 49
theorem Txt.f_is_stuck (T : Txt K mg) : ∃ fd, Fun K "is_stuck" "is_stuck" s_is_stuck (He.ga K "is_stuck") fd := T.fn_ 50
theorem Txt.f_tell_stuck (T : Txt K mg) : ∃ fd, Fun K "tell_stuck" "tell_stuck" s_tell_stuck (He.ga K "tell_stuck") fd := T.fn_ 51
theorem Txt.f_tell_without (T : Txt K mg) : ∃ fd, Fun K "tell_without" "tell_without" s_tell_without (He.ga K "tell_without") fd := T.fn_ 52
theorem Txt.f_are_left (T : Txt K mg) : ∃ fd, Fun K "are_left" "are_left" s_are_left (He.ga K "are_left") fd := T.fn_ 53
theorem Txt.f_load (T : Txt K mg) : ∃ fd, Fun K "load" "load" s_load (He.ga K "load") fd := T.fn_ 54
theorem Txt.f_book (T : Txt K mg) : ∃ fd, Fun K "book" "book" s_book (He.ga K "book") fd := T.fn_ 55
theorem Txt.f_call_off (T : Txt K mg) : ∃ fd, Fun K "call_off" "call_off" s_call_off (He.ga K "call_off") fd := T.fn_ 56
theorem Txt.f_paper (T : Txt K mg) : ∃ fd, Fun K "paper" "paper" s_paper (He.ga K "paper") fd := T.fn_ 57
theorem Txt.f_scale (T : Txt K mg) : ∃ fd, Fun K "scale" "scale" s_scale (He.ga K "scale") fd := T.fn_ 58
theorem Txt.f_known_weight (T : Txt K mg) : ∃ fd, Fun K "known_weight" "known_weight" s_known_weight (He.ga K "known_weight") fd := T.fn_ 59
theorem Txt.f_least_bearing (T : Txt K mg) : ∃ fd, Fun K "least_bearing" "least_bearing" s_least_bearing (He.ga K "least_bearing") fd := T.fn_ 60
theorem Txt.f_excess (T : Txt K mg) : ∃ fd, Fun K "excess" "excess" s_excess (He.ga K "excess") fd := T.fn_ 61
theorem Txt.f_tell_over (T : Txt K mg) : ∃ fd, Fun K "tell_over" "tell_over" s_tell_over (He.ga K "tell_over") fd := T.fn_ 62
theorem Txt.f_tell_left (T : Txt K mg) : ∃ fd, Fun K "tell_left" "tell_left" s_tell_left (He.ga K "tell_left") fd := T.fn_ 63
theorem Txt.f_cut_calls (T : Txt K mg) : ∃ fd, Fun K "cut_calls" "cut_calls" s_cut_calls (He.ga K "cut_calls") fd := T.fn_ 64
theorem Txt.f_do_call (T : Txt K mg) : ∃ fd, Fun K "do_call" "do_call" s_do_call (He.ga K "do_call") fd := T.fn_ 65
theorem Txt.f_answers (T : Txt K mg) : ∃ fd, Fun K "answers" "answers" s_answers (He.ga K "answers") fd := T.fn_ 66
end
end Th
/-! The shortest drives: in-place sweeps (the program) and rounds (the specification) come to one table. Plain Lean. -/
namespace Th
open TimHaul

/-! ### rows of numbers in order -/
theorem before_cons {x y : Nat} {r t : List Nat} : before (x :: r) (y :: t) = true ↔ x < y ∨ (x = y ∧ before r t = true) := by
  simp [before]
theorem before_nil_cons {y : Nat} {t : List Nat} : before [] (y :: t) = true := rfl
theorem before_nil {r : List Nat} : before r [] = false := by cases r <;> rfl
theorem before_irrefl : ∀ l : List Nat, before l l = false
  | [] => rfl
  | x :: r => by
    cases h : before (x :: r) (x :: r) with
    | false => rfl
    | true =>
      rcases before_cons.mp h with h | ⟨_, h⟩
      · omega
      · rw [before_irrefl r] at h; cases h
theorem before_trans : ∀ {a b c : List Nat}, before a b = true → before b c = true → before a c = true
  | _, _, [], _, h => by rw [before_nil] at h; cases h
  | _, [], _, h, _ => by rw [before_nil] at h; cases h
  | [], _ :: _, _ :: _, _, _ => rfl
  | x :: a, y :: b, z :: c, h1, h2 => by
    rcases before_cons.mp h1 with h1 | ⟨e1, h1⟩ <;> rcases before_cons.mp h2 with h2 | ⟨e2, h2⟩
    · exact before_cons.mpr (.inl (by omega))
    · exact before_cons.mpr (.inl (by omega))
    · exact before_cons.mpr (.inl (by omega))
    · exact before_cons.mpr (.inr ⟨by omega, before_trans h1 h2⟩)
theorem before_total : ∀ a b : List Nat, before a b = true ∨ a = b ∨ before b a = true
  | [], [] => .inr (.inl rfl)
  | [], _ :: _ => .inl rfl
  | _ :: _, [] => .inr (.inr rfl)
  | x :: a, y :: b => by
    rcases Nat.lt_trichotomy x y with h | h | h
    · exact .inl (before_cons.mpr (.inl h))
    · subst h
      rcases before_total a b with h | h | h
      · exact .inl (before_cons.mpr (.inr ⟨rfl, h⟩))
      · exact .inr (.inl (by rw [h]))
      · exact .inr (.inr (before_cons.mpr (.inr ⟨rfl, h⟩)))
    · exact .inr (.inr (before_cons.mpr (.inl h)))
/-- a isn't behind b -/
def Le (a b : List Nat) : Prop := before b a = false
theorem Le.refl (a : List Nat) : Le a a := before_irrefl a
theorem le_of {a b : List Nat} (h : before a b = true) : Le a b := by
  unfold Le
  cases h2 : before b a with
  | false => rfl
  | true => have := before_trans h h2; rw [before_irrefl] at this; cases this
theorem le_iff {a b : List Nat} : Le a b ↔ before a b = true ∨ a = b := by
  constructor
  · intro h
    rcases before_total a b with h1 | h1 | h1
    · exact .inl h1
    · exact .inr h1
    · unfold Le at h; rw [h] at h1; cases h1
  · rintro (h | rfl)
    · exact le_of h
    · exact Le.refl _
theorem Le.trans {a b c : List Nat} (h1 : Le a b) (h2 : Le b c) : Le a c := by
  rcases le_iff.mp h1 with h1 | rfl
  · rcases le_iff.mp h2 with h2 | rfl
    · exact le_of (before_trans h1 h2)
    · exact le_of h1
  · exact h2
theorem Le.antisymm {a b : List Nat} (h1 : Le a b) (h2 : Le b a) : a = b := by
  rcases le_iff.mp h1 with h | h
  · unfold Le at h2; rw [h] at h2; cases h2
  · exact h
theorem le_cons {x y : Nat} {r t : List Nat} : Le (x :: r) (y :: t) ↔ x < y ∨ (x = y ∧ Le r t) := by
  rw [le_iff, before_cons]
  constructor
  · rintro ((h | ⟨h, h2⟩) | h)
    · exact .inl h
    · exact .inr ⟨h, le_of h2⟩
    · injection h with h1 h2
      exact .inr ⟨h1, by rw [h2]; exact Le.refl _⟩
  · rintro (h | ⟨h, h2⟩)
    · exact .inl (.inl h)
    · rcases le_iff.mp h2 with h2 | h2
      · exact .inl (.inr ⟨h, h2⟩)
      · exact .inr (by rw [h, h2])
theorem le_snoc : ∀ {r t : List Nat} (k : Nat), r.length = t.length → Le r t → Le (r ++ [k]) (t ++ [k])
  | [], [], _, _, _ => Le.refl _
  | [], _ :: _, _, h, _ => by simp at h
  | _ :: _, [], _, h, _ => by simp at h
  | x :: r, y :: t, k, hl, h => by
    rcases le_cons.mp h with h | ⟨h, h2⟩
    · exact le_cons.mpr (.inl h)
    · exact le_cons.mpr (.inr ⟨h, le_snoc k (by simpa using hl) h2⟩)

/-! ### the first of rows -/
theorem firstOf_go : ∀ (l : List (List Nat)) (b : Option (List Nat)), (∃ m, l.foldl (fun (b : Option (List Nat)) (x : List Nat) => match b with
  | none => some x
  | some y => if before x y = true then some x else some y) b = some m ∧ (m ∈ l ∨ b = some m) ∧ (∀ x ∈ l, Le m x) ∧ ∀ y, b = some y → Le m y) ∨ (l = [] ∧ b = none)
  | [], none => .inr ⟨rfl, rfl⟩
  | [], some y => .inl ⟨y, rfl, .inr rfl, fun _ h => by simp at h, fun z e => by cases e; exact Le.refl _⟩
  | x :: l, b => by
    left
    have key : ∀ z, Le z x → (∀ y, b = some y → Le z y) → (z = x ∨ b = some z) → (∃ m, l.foldl (fun (b : Option (List Nat)) (x : List Nat) => match b with
      | none => some x
      | some y => if before x y = true then some x else some y) (some z) = some m ∧ (m ∈ x :: l ∨ b = some m) ∧ (∀ w ∈ x :: l, Le m w) ∧ ∀ y, b = some y → Le m y) := by
      intro z h1 h2 h3
      rcases firstOf_go l (some z) with ⟨m, e, hm, ha, hb⟩ | ⟨_, h⟩
      · refine ⟨m, e, ?_, ?_, fun y e => (hb z rfl).trans (h2 y e)⟩
        · rcases hm with hm | hm
          · exact .inl (List.mem_cons_of_mem _ hm)
          · have e : z = m := Option.some.inj hm
            rcases h3 with h3 | h3
            · exact .inl (by rw [← e, h3]; exact List.mem_cons_self)
            · exact .inr (by rw [← e]; exact h3)
        · intro w hw
          rcases List.mem_cons.mp hw with rfl | hw
          · exact (hb z rfl).trans h1
          · exact ha w hw
      · cases h
    rw [List.foldl_cons]
    cases b with
    | none => exact key x (Le.refl _) (fun _ e => by cases e) (.inl rfl)
    | some y =>
      show ∃ m, l.foldl _ (if before x y = true then some x else some y) = some m ∧ _
      by_cases h : before x y = true
      · rw [if_pos h]
        exact key x (Le.refl _) (fun z e => by cases e; exact le_of h) (.inl rfl)
      · rw [if_neg h]
        exact key y (by unfold Le; simpa using h) (fun z e => by cases e; exact Le.refl _) (.inr rfl)
theorem firstOf_some {l : List (List Nat)} (h : l ≠ []) : ∃ m, firstOf l = some m ∧ m ∈ l ∧ ∀ x ∈ l, Le m x := by
  rcases firstOf_go l none with ⟨m, e, hm, ha, _⟩ | ⟨h', _⟩
  · exact ⟨m, e, hm.resolve_right (fun z => by cases z), ha⟩
  · exact absurd h' h
theorem firstOf_spec {l : List (List Nat)} {m : List Nat} (h : firstOf l = some m) : m ∈ l ∧ ∀ x ∈ l, Le m x := by
  by_cases hl : l = []
  · subst hl; cases h
  · obtain ⟨m', e, h1, h2⟩ := firstOf_some hl
    rw [e] at h; cases h
    exact ⟨h1, h2⟩

/-! ### walks -/
def ext (d : List Nat) (k m : Nat) : List Nat := (d.headD 0 + m) :: (d.getD 1 0 + 1) :: (d.drop 2 ++ [k])
def WfD (d : List Nat) : Prop := ∃ m r, d = m :: List.length r :: r
theorem WfD.ext {d : List Nat} (h : WfD d) (k m : Nat) : WfD (ext d k m) := by
  obtain ⟨m0, r, rfl⟩ := h
  exact ⟨m0 + m, r ++ [k], by simp [Th.ext]⟩
theorem ext_mono {d e : List Nat} (hd : WfD d) (he : WfD e) (h : Le d e) (k m : Nat) : Le (ext d k m) (ext e k m) := by
  obtain ⟨m1, r1, rfl⟩ := hd
  obtain ⟨m2, r2, rfl⟩ := he
  show Le ((m1 + m) :: (r1.length + 1) :: (r1 ++ [k])) ((m2 + m) :: (r2.length + 1) :: (r2 ++ [k]))
  rcases le_cons.mp h with h | ⟨h, h2⟩
  · exact le_cons.mpr (.inl (by omega))
  · rcases le_cons.mp h2 with h2 | ⟨h2, h3⟩
    · exact le_cons.mpr (.inr ⟨by omega, le_cons.mpr (.inl (by omega))⟩)
    · exact le_cons.mpr (.inr ⟨by omega, le_cons.mpr (.inr ⟨by omega, le_snoc k h2 h3⟩)⟩)
abbrev U := List (Nat × Road)
def Adj (x : Road) (q p : Nat) : Prop := (x.a = q ∧ x.b = p) ∨ (x.b = q ∧ x.a = p)
inductive Wk (u : U) (a : Nat) : Nat → List Nat → Prop
  | nil : Wk u a a [0, 0]
  | snoc {q p k : Nat} {x : Road} {d : List Nat} : Wk u a q d → (k, x) ∈ u → Adj x q p → Wk u a p (ext d k x.metres)
theorem Wk.wf {u : U} {a p : Nat} {d : List Nat} (h : Wk u a p d) : WfD d := by
  induction h with
  | nil => exact ⟨0, [], rfl⟩
  | snoc _ _ _ ih => exact ih.ext _ _
abbrev Tab := List (Option (List Nat))
abbrev at' (t : Tab) (p : Nat) : Option (List Nat) := t.getD p none
def Sound (u : U) (a : Nat) (t : Tab) : Prop := ∀ p d, at' t p = some d → Wk u a p d
def Comp (u : U) (a n : Nat) (t : Tab) (i : Nat) : Prop := ∀ p d, p < n → Wk u a p d → d.getD 1 0 ≤ i → ∃ e, at' t p = some e ∧ Le e d

def iter {α : Type} (f : α → α) : Nat → α → α
  | 0, t => t
  | n + 1, t => iter f n (f t)
theorem iter_fix {α : Type} {f : α → α} {t : α} (h : f t = t) : ∀ n, iter f n t = t
  | 0 => rfl
  | n + 1 => by show iter f n (f t) = t; rw [h]; exact iter_fix h n
theorem iter_succ {α : Type} (f : α → α) : ∀ (n : Nat) (t : α), iter f (n + 1) t = f (iter f n t)
  | 0, _ => rfl
  | n + 1, t => iter_succ f n (f t)
theorem iter_inv {α : Type} {f : α → α} (P : α → Prop) (h : ∀ t, P t → P (f t)) : ∀ (n : Nat) (t : α), P t → P (iter f n t)
  | 0, _, p => p
  | n + 1, t, p => iter_inv P h n (f t) (h t p)

/-! ### the specification's rounds -/
def rnd (n : Nat) (u : U) (t : Tab) : Tab := (List.range n).map fun (p : Nat) => firstOf ((t.getD p none).toList ++ onward u p t)
theorem shorter_iter (n : Nat) (u : U) : ∀ (f : Nat) (t : Tab), shorter n u f t = iter (rnd n u) f t
  | 0, _ => rfl
  | f + 1, t => by
    show (if rnd n u t = t then t else shorter n u f (rnd n u t)) = iter (rnd n u) f (rnd n u t)
    by_cases h : rnd n u t = t
    · rw [if_pos h, h, iter_fix h]
    · rw [if_neg h]; exact shorter_iter n u f _
theorem mem_onward {u : U} {p : Nat} {t : Tab} {d : List Nat} : d ∈ onward u p t ↔ ∃ k x q e, (k, x) ∈ u ∧ Adj x q p ∧ at' t q = some e ∧ d = ext e k x.metres := by
  unfold onward
  rw [List.mem_flatMap]
  constructor
  · rintro ⟨⟨k, x⟩, hx, h⟩
    rw [List.mem_filterMap] at h
    obtain ⟨q, hq, h⟩ := h
    rw [Option.map_eq_some_iff] at h
    obtain ⟨e, he, rfl⟩ := h
    refine ⟨k, x, q, e, hx, ?_, he, rfl⟩
    rcases List.mem_append.mp hq with hq | hq
    · split at hq
      · rename_i hb
        have e : q = x.a := by simpa using hq
        exact .inl ⟨e.symm, hb⟩
      · simp at hq
    · split at hq
      · rename_i ha
        have e : q = x.b := by simpa using hq
        exact .inr ⟨e.symm, ha⟩
      · simp at hq
  · rintro ⟨k, x, q, e, hx, hA, he, rfl⟩
    refine ⟨(k, x), hx, List.mem_filterMap.mpr ⟨q, ?_, by rw [show t.getD q none = some e from he]; rfl⟩⟩
    rcases hA with ⟨h1, h2⟩ | ⟨h1, h2⟩
    · exact List.mem_append_left _ (by show q ∈ (if x.b = p then [x.a] else []); rw [if_pos h2, h1]; simp)
    · exact List.mem_append_right _ (by show q ∈ (if x.a = p then [x.b] else []); rw [if_pos h2, h1]; simp)
theorem rnd_at {n : Nat} {u : U} {t : Tab} {p : Nat} (hp : p < n) : at' (rnd n u t) p = firstOf ((t.getD p none).toList ++ onward u p t) := by
  show (rnd n u t).getD p none = _
  rw [List.getD_eq_getElem?_getD]
  unfold rnd
  rw [List.getElem?_map, List.getElem?_range hp]
  rfl
theorem rnd_len {n : Nat} {u : U} {t : Tab} : (rnd n u t).length = n := by simp [rnd]
theorem at_lt {t : Tab} {p : Nat} {d : List Nat} (h : at' t p = some d) : p < t.length := by
  cases Nat.lt_or_ge p t.length with
  | inl h => exact h
  | inr h2 =>
    have e : t.getD p none = none := by rw [List.getD_eq_getElem?_getD, List.getElem?_eq_none h2]; rfl
    rw [show at' t p = t.getD p none from rfl, e] at h
    cases h
theorem rnd_sound {n : Nat} {u : U} {a : Nat} {t : Tab} (h : Sound u a t) : Sound u a (rnd n u t) := by
  intro p d e
  have hp : p < n := by have := at_lt e; rw [rnd_len] at this; exact this
  rw [rnd_at hp] at e
  have hm := (firstOf_spec e).1
  rcases List.mem_append.mp hm with hm | hm
  · cases q : t.getD p none with
    | none => rw [q] at hm; simp at hm
    | some d' =>
      rw [q] at hm
      have : d = d' := by simpa using hm
      subst this
      exact h p _ q
  · obtain ⟨k, x, q, e', hx, hA, he, rfl⟩ := mem_onward.mp hm
    exact .snoc (h q _ he) hx hA
theorem rnd_comp {n : Nat} {u : U} {a : Nat} {t : Tab} {i : Nat} (hu : ∀ y ∈ u, y.2.a < n ∧ y.2.b < n) (hs : Sound u a t) (h : Comp u a n t i) : Comp u a n (rnd n u t) (i + 1) := by
  intro p d hp w hc
  have pick : ∀ z, z ∈ (t.getD p none).toList ++ onward u p t → Le z d → ∃ e, at' (rnd n u t) p = some e ∧ Le e d := by
    intro z hz hle
    obtain ⟨m, e, _, h2⟩ := firstOf_some (List.ne_nil_of_mem hz)
    exact ⟨m, by rw [rnd_at hp]; exact e, (h2 z hz).trans hle⟩
  cases w with
  | nil =>
    obtain ⟨e, he, hl⟩ := h a [0, 0] hp .nil (Nat.zero_le _)
    exact pick e (List.mem_append_left _ (by rw [show t.getD a none = some e from he]; simp)) hl
  | snoc w hx hA =>
    rename_i q k x d
    have hq : q < n := by
      rcases hA with ⟨h1, _⟩ | ⟨h1, _⟩
      · rw [← h1]; exact (hu _ hx).1
      · rw [← h1]; exact (hu _ hx).2
    have hc' : d.getD 1 0 ≤ i := by have : d.getD 1 0 + 1 ≤ i + 1 := hc; omega
    obtain ⟨e, he, hl⟩ := h q d hq w hc'
    exact pick (ext e k x.metres) (List.mem_append_right _ (mem_onward.mpr ⟨k, x, q, e, hx, hA, he, rfl⟩)) (ext_mono (hs q e he).wf w.wf hl _ _)

/-! ### the program's sweeps -/
def offer (t : Tab) (here there k m : Nat) : Tab := match at' t here with
  | none => t
  | some d => match at' t there with
    | none => t.set there (some (ext d k m))
    | some e => if before (ext d k m) e = true then t.set there (some (ext d k m)) else t
def spread (u : U) (t : Tab) : Tab := u.foldl (fun t (x : Nat × Road) => offer (offer t x.2.a x.2.b x.1 x.2.metres) x.2.b x.2.a x.1 x.2.metres) t
def settle (u : U) : Nat → Tab → Tab
  | 0, t => t
  | f + 1, t => if spread u t = t then t else settle u f (spread u t)
theorem settle_iter (u : U) : ∀ (f : Nat) (t : Tab), settle u f t = iter (spread u) f t
  | 0, _ => rfl
  | f + 1, t => by
    show (if spread u t = t then t else settle u f (spread u t)) = iter (spread u) f (spread u t)
    by_cases h : spread u t = t
    · rw [if_pos h, h, iter_fix h]
    · rw [if_neg h]; exact settle_iter u f _
def Imp (t t' : Tab) : Prop := ∀ p e, at' t p = some e → ∃ e', at' t' p = some e' ∧ Le e' e
theorem Imp.refl (t : Tab) : Imp t t := fun _ e h => ⟨e, h, Le.refl _⟩
theorem Imp.trans {a b c : Tab} (h1 : Imp a b) (h2 : Imp b c) : Imp a c := fun p e h => by
  obtain ⟨e1, g1, l1⟩ := h1 p e h
  obtain ⟨e2, g2, l2⟩ := h2 p e1 g1
  exact ⟨e2, g2, l2.trans l1⟩
theorem at_set {t : Tab} {j p : Nat} {o : Option (List Nat)} (hj : j < t.length) : at' (t.set j o) p = if j = p then o else at' t p := by
  show (t.set j o).getD p none = _
  rw [List.getD_eq_getElem?_getD, List.getElem?_set]
  by_cases h : j = p
  · rw [if_pos h, if_pos h, if_pos (h ▸ hj)]; rfl
  · rw [if_neg h, if_neg h, ← List.getD_eq_getElem?_getD]
theorem offer_len {t : Tab} {h j k m : Nat} : (offer t h j k m).length = t.length := by
  unfold offer
  split
  · rfl
  · split
    · exact List.length_set
    · split
      · exact List.length_set
      · rfl
theorem offer_cases {t : Tab} {h j k m : Nat} (hj : j < t.length) : (offer t h j k m = t ∧ (∀ d, at' t h = some d → ∃ e, at' t j = some e ∧ Le e (ext d k m))) ∨
    ∃ d, at' t h = some d ∧ offer t h j k m = t.set j (some (ext d k m)) ∧ ∀ e, at' t j = some e → Le (ext d k m) e := by
  unfold offer
  cases q : at' t h with
  | none => exact .inl ⟨rfl, fun _ e => by cases e⟩
  | some d =>
    try dsimp only
    cases r : at' t j with
    | none => exact .inr ⟨d, rfl, rfl, fun _ e => by cases e⟩
    | some e =>
      try dsimp only
      by_cases b : before (ext d k m) e = true
      · rw [if_pos b]; exact .inr ⟨d, rfl, rfl, fun e' z => by cases z; exact le_of b⟩
      · rw [if_neg b]; exact .inl ⟨rfl, fun d' z => by cases z; exact ⟨e, rfl, by unfold Le; simpa using b⟩⟩
theorem offer_imp {t : Tab} {h j k m : Nat} (hj : j < t.length) : Imp t (offer t h j k m) := by
  rcases offer_cases (h := h) (k := k) (m := m) hj with ⟨e, _⟩ | ⟨d, hd, e, hb⟩
  · rw [e]; exact Imp.refl t
  · rw [e]
    intro p z hz
    rw [at_set hj]
    by_cases hp : j = p
    · rw [if_pos hp]; subst hp; exact ⟨_, rfl, hb z hz⟩
    · rw [if_neg hp]; exact ⟨z, hz, Le.refl _⟩
theorem offer_done {t : Tab} {h j k m : Nat} {d : List Nat} (hj : j < t.length) (hd : at' t h = some d) : ∃ e, at' (offer t h j k m) j = some e ∧ Le e (ext d k m) := by
  rcases offer_cases (h := h) (k := k) (m := m) hj with ⟨e, hb⟩ | ⟨d', hd', e, _⟩
  · rw [e]; exact hb d hd
  · rw [e, at_set hj, if_pos rfl]
    rw [hd] at hd'; cases hd'
    exact ⟨_, rfl, Le.refl _⟩
theorem offer_sound {u : U} {a : Nat} {t : Tab} {k : Nat} {x : Road} {h j : Nat} (hj : j < t.length) (hx : (k, x) ∈ u) (hA : Adj x h j) (hs : Sound u a t) : Sound u a (offer t h j k x.metres) := by
  rcases offer_cases (h := h) (k := k) (m := x.metres) hj with ⟨e, _⟩ | ⟨d, hd, e, _⟩
  · rw [e]; exact hs
  · rw [e]
    intro p z hz
    rw [at_set hj] at hz
    by_cases hp : j = p
    · rw [if_pos hp] at hz
      cases hz
      subst hp
      exact .snoc (hs h d hd) hx hA
    · rw [if_neg hp] at hz
      exact hs p z hz
/-- what a sweep over part of the roads does -/
theorem spread_go {u0 : U} {a n : Nat} (hu : ∀ y ∈ u0, y.2.a < n ∧ y.2.b < n) : ∀ (u : U) (t : Tab), (∀ y ∈ u, y ∈ u0) → t.length = n → Sound u0 a t →
    (spread u t).length = n ∧ Sound u0 a (spread u t) ∧ Imp t (spread u t) ∧ ∀ k x q p d, (k, x) ∈ u → Adj x q p → at' t q = some d → ∃ e, at' (spread u t) p = some e ∧ Le e (ext d k x.metres)
  | [], t, _, hl, hs => ⟨hl, hs, Imp.refl t, fun _ _ _ _ _ h => by simp at h⟩
  | (k0, x0) :: u, t, hm, hl, hs => by
    have h0 : (k0, x0) ∈ u0 := hm _ List.mem_cons_self
    obtain ⟨ha, hb⟩ := hu _ h0
    have l1 : (offer t x0.a x0.b k0 x0.metres).length = n := by rw [offer_len, hl]
    have s1 : Sound u0 a (offer t x0.a x0.b k0 x0.metres) := offer_sound (by rw [hl]; exact hb) h0 (.inl ⟨rfl, rfl⟩) hs
    have i1 : Imp t (offer t x0.a x0.b k0 x0.metres) := offer_imp (by rw [hl]; exact hb)
    have l2 : (offer (offer t x0.a x0.b k0 x0.metres) x0.b x0.a k0 x0.metres).length = n := by rw [offer_len, l1]
    have s2 : Sound u0 a (offer (offer t x0.a x0.b k0 x0.metres) x0.b x0.a k0 x0.metres) := offer_sound (by rw [l1]; exact ha) h0 (.inr ⟨rfl, rfl⟩) s1
    have i2 : Imp (offer t x0.a x0.b k0 x0.metres) (offer (offer t x0.a x0.b k0 x0.metres) x0.b x0.a k0 x0.metres) := offer_imp (by rw [l1]; exact ha)
    obtain ⟨r1, r2, r3, r4⟩ := spread_go hu u _ (fun y hy => hm y (List.mem_cons_of_mem _ hy)) l2 s2
    refine ⟨r1, r2, (i1.trans i2).trans r3, fun k x q p d hx hA hd => ?_⟩
    show ∃ e, at' (spread u (offer (offer t x0.a x0.b k0 x0.metres) x0.b x0.a k0 x0.metres)) p = some e ∧ _
    rcases List.mem_cons.mp hx with e | hx
    · cases e
      rcases hA with ⟨rfl, rfl⟩ | ⟨rfl, rfl⟩
      · obtain ⟨e1, g1, c1⟩ := offer_done (k := k0) (m := x0.metres) (j := x0.b) (by rw [hl]; exact hb) hd
        obtain ⟨e2, g2, c2⟩ := (i2.trans r3) _ e1 g1
        exact ⟨e2, g2, c2.trans c1⟩
      · obtain ⟨d1, g0, c0⟩ := i1 _ d hd
        obtain ⟨e1, g1, c1⟩ := offer_done (k := k0) (m := x0.metres) (j := x0.a) (by rw [l1]; exact ha) g0
        obtain ⟨e2, g2, c2⟩ := r3 _ e1 g1
        exact ⟨e2, g2, c2.trans (c1.trans (ext_mono (s1 _ _ g0).wf (hs _ _ hd).wf c0 _ _))⟩
    · obtain ⟨d1, g0, c0⟩ := (i1.trans i2) _ d hd
      obtain ⟨e1, g1, c1⟩ := r4 k x q p d1 hx hA g0
      exact ⟨e1, g1, c1.trans (ext_mono (s2 _ _ g0).wf (hs _ _ hd).wf c0 _ _)⟩
theorem spread_comp {n : Nat} {u : U} {a : Nat} {t : Tab} {i : Nat} (hu : ∀ y ∈ u, y.2.a < n ∧ y.2.b < n) (hl : t.length = n) (hs : Sound u a t) (h : Comp u a n t i) : Comp u a n (spread u t) (i + 1) := by
  obtain ⟨_, _, r3, r4⟩ := spread_go hu u t (fun _ h => h) hl hs
  intro p d hp w hc
  cases w with
  | nil =>
    obtain ⟨e, he, hle⟩ := h a [0, 0] hp .nil (Nat.zero_le _)
    obtain ⟨e2, g2, c2⟩ := r3 _ e he
    exact ⟨e2, g2, c2.trans hle⟩
  | snoc w hx hA =>
    rename_i q k x d
    have hq : q < n := by
      rcases hA with ⟨h1, _⟩ | ⟨h1, _⟩
      · rw [← h1]; exact (hu _ hx).1
      · rw [← h1]; exact (hu _ hx).2
    have hc' : d.getD 1 0 ≤ i := by have : d.getD 1 0 + 1 ≤ i + 1 := hc; omega
    obtain ⟨e, he, hle⟩ := h q d hq w hc'
    obtain ⟨e2, g2, c2⟩ := r4 k x q p e hx hA he
    exact ⟨e2, g2, c2.trans (ext_mono (hs q e he).wf w.wf hle _ _)⟩

/-! ### a drive needs no place twice -/
theorem pigeon : ∀ (n : Nat) (f : Nat → Nat), (∀ i, i ≤ n → f i < n) → ∃ i j, i < j ∧ j ≤ n ∧ f i = f j
  | 0, f, h => absurd (h 0 (Nat.le_refl 0)) (Nat.not_lt_zero _)
  | n + 1, f, h => by
    by_cases q : ∃ i, i ≤ n ∧ f i = f (n + 1)
    · obtain ⟨i, h1, h2⟩ := q
      exact ⟨i, n + 1, by omega, Nat.le_refl _, h2⟩
    · have q' : ∀ i, i ≤ n → f i ≠ f (n + 1) := fun i hi e => q ⟨i, hi, e⟩
      obtain ⟨i, j, h1, h2, h3⟩ := pigeon n (fun i => if f i = n then f (n + 1) else f i) (fun i hi => by
        have a := h i (by omega)
        have b := h (n + 1) (Nat.le_refl _)
        have c := q' i hi
        try dsimp only
        split <;> omega)
      refine ⟨i, j, h1, by omega, ?_⟩
      have c1 := q' i (by omega)
      have c2 := q' j (by omega)
      try dsimp only at h3
      split at h3 <;> split at h3 <;> omega
abbrev Step := Nat × Road × Nat
def okP (u : U) : Nat → List Step → Prop
  | _, [] => True
  | q, s :: r => (s.1, s.2.1) ∈ u ∧ Adj s.2.1 q s.2.2 ∧ okP u s.2.2 r
def lastP : Nat → List Step → Nat
  | q, [] => q
  | _, s :: r => lastP s.2.2 r
theorem okP_append {u : U} : ∀ (s t : List Step) (q : Nat), okP u q (s ++ t) ↔ okP u q s ∧ okP u (lastP q s) t
  | [], t, q => by simp [okP, lastP]
  | x :: s, t, q => by
    show ((x.1, x.2.1) ∈ u ∧ Adj x.2.1 q x.2.2 ∧ okP u x.2.2 (s ++ t)) ↔ ((x.1, x.2.1) ∈ u ∧ Adj x.2.1 q x.2.2 ∧ okP u x.2.2 s) ∧ okP u (lastP x.2.2 s) t
    rw [okP_append s t]
    constructor
    · rintro ⟨a, b, c, d⟩; exact ⟨⟨a, b, c⟩, d⟩
    · rintro ⟨⟨a, b, c⟩, d⟩; exact ⟨a, b, c, d⟩
theorem lastP_append : ∀ (s t : List Step) (q : Nat), lastP q (s ++ t) = lastP (lastP q s) t
  | [], _, _ => rfl
  | x :: s, t, _ => lastP_append s t x.2.2
theorem lastP_lt {u : U} {n : Nat} (hu : ∀ y ∈ u, y.2.a < n ∧ y.2.b < n) : ∀ (s : List Step) (q : Nat), q < n → okP u q s → lastP q s < n
  | [], q, h, _ => h
  | x :: s, q, h, ⟨h1, h2, h3⟩ => by
    refine lastP_lt hu s x.2.2 ?_ h3
    obtain ⟨a, b⟩ := hu _ h1
    rcases h2 with ⟨_, e⟩ | ⟨_, e⟩
    · rw [← e]; exact b
    · rw [← e]; exact a
def vsum : List Step → Nat
  | [] => 0
  | s :: r => s.2.1.metres + vsum r
theorem vsum_append : ∀ s t : List Step, vsum (s ++ t) = vsum s + vsum t
  | [], t => by simp [vsum]
  | x :: s, t => by show x.2.1.metres + vsum (s ++ t) = x.2.1.metres + vsum s + vsum t; rw [vsum_append s t]; omega
def pval (s : List Step) : List Nat := vsum s :: s.length :: s.map (·.1)
theorem pval_snoc (s : List Step) (x : Step) : pval (s ++ [x]) = ext (pval s) x.1 x.2.1.metres := by
  simp [pval, ext, vsum_append, vsum]
theorem walk_path {u : U} {a p : Nat} {d : List Nat} (w : Wk u a p d) : ∃ s, okP u a s ∧ lastP a s = p ∧ d = pval s := by
  induction w with
  | nil => exact ⟨[], trivial, rfl, rfl⟩
  | snoc w hx hA ih =>
    rename_i q p k x d
    obtain ⟨s, h1, h2, h3⟩ := ih
    refine ⟨s ++ [(k, x, p)], (okP_append _ _ _).mpr ⟨h1, hx, by rw [h2]; exact hA, trivial⟩, by rw [lastP_append]; rfl, ?_⟩
    rw [pval_snoc, h3]
theorem path_walk {u : U} {a : Nat} : ∀ (s r : List Step), Wk u a (lastP a r) (pval r) → okP u (lastP a r) s → Wk u a (lastP a (r ++ s)) (pval (r ++ s))
  | [], r, w, _ => by rw [List.append_nil]; exact w
  | x :: s, r, w, ⟨h1, h2, h3⟩ => by
    have w1 : Wk u a (lastP a (r ++ [x])) (pval (r ++ [x])) := by
      rw [pval_snoc, lastP_append]
      exact .snoc w h1 h2
    have e : lastP a (r ++ [x]) = x.2.2 := by rw [lastP_append]; rfl
    have w2 := path_walk s (r ++ [x]) w1 (by rw [e]; exact h3)
    rwa [List.append_assoc] at w2
theorem short_path {u : U} {n a : Nat} (hu : ∀ y ∈ u, y.2.a < n ∧ y.2.b < n) (ha : a < n) : ∀ (m : Nat) (s : List Step), s.length ≤ m → okP u a s → ∃ s', okP u a s' ∧ lastP a s' = lastP a s ∧ s'.length < n ∧ Le (pval s') (pval s)
  | m, s, hm, ok => by
    by_cases hl : s.length < n
    · exact ⟨s, ok, rfl, hl, Le.refl _⟩
    · obtain ⟨i, j, hij, hj, e⟩ := pigeon n (fun i => lastP a (s.take i)) (fun i _ => by
        have o : okP u a (s.take i ++ s.drop i) := by rw [List.take_append_drop]; exact ok
        exact lastP_lt hu _ a ha ((okP_append _ _ _).mp o).1)
      try dsimp only at e
      have oi : okP u a (s.take i ++ s.drop i) := by rw [List.take_append_drop]; exact ok
      have oj : okP u a (s.take j ++ s.drop j) := by rw [List.take_append_drop]; exact ok
      have o1 := ((okP_append _ _ _).mp oi).1
      have o2 := ((okP_append _ _ _).mp oj).2
      rw [← e] at o2
      have ok' : okP u a (s.take i ++ s.drop j) := (okP_append _ _ _).mpr ⟨o1, o2⟩
      have last' : lastP a (s.take i ++ s.drop j) = lastP a s := by
        rw [lastP_append, e, ← lastP_append, List.take_append_drop]
      have len' : (s.take i ++ s.drop j).length < s.length := by
        rw [List.length_append, List.length_take, List.length_drop]; omega
      have sum' : vsum (s.take i ++ s.drop j) ≤ vsum s := by
        have e1 : vsum s = vsum (s.take j) + vsum (s.drop j) := by rw [← vsum_append, List.take_append_drop]
        have e2 : vsum (s.take j) = vsum ((s.take j).take i) + vsum ((s.take j).drop i) := by rw [← vsum_append, List.take_append_drop]
        rw [List.take_take, Nat.min_eq_left (by omega)] at e2
        rw [vsum_append, e1, e2]; omega
      have lt' : Le (pval (s.take i ++ s.drop j)) (pval s) := by
        refine le_cons.mpr ?_
        rcases Nat.lt_or_ge (vsum (s.take i ++ s.drop j)) (vsum s) with h | h
        · exact .inl h
        · exact .inr ⟨by omega, le_cons.mpr (.inl len')⟩
      match m with
      | 0 => omega
      | m + 1 =>
        obtain ⟨s', g1, g2, g3, g4⟩ := short_path hu ha m _ (by omega) ok'
        exact ⟨s', g1, g2.trans last', g3, g4.trans lt'⟩
theorem short_walk {u : U} {n a p : Nat} {d : List Nat} (hu : ∀ y ∈ u, y.2.a < n ∧ y.2.b < n) (ha : a < n) (w : Wk u a p d) : ∃ d', Wk u a p d' ∧ d'.getD 1 0 < n ∧ Le d' d := by
  obtain ⟨s, h1, h2, rfl⟩ := walk_path w
  obtain ⟨s', g1, g2, g3, g4⟩ := short_path hu ha _ s (Nat.le_refl _) h1
  have w' := path_walk s' [] (show Wk u a a (pval []) from .nil) g1
  rw [List.nil_append] at w'
  rw [g2, h2] at w'
  exact ⟨_, w', g3, g4⟩

/-! ### both come to one table -/
def Full (u : U) (a n : Nat) (t : Tab) : Prop := t.length = n ∧ Sound u a t ∧ ∀ p d, p < n → Wk u a p d → ∃ e, at' t p = some e ∧ Le e d
theorem full_of {u : U} {a n : Nat} {t : Tab} (hu : ∀ y ∈ u, y.2.a < n ∧ y.2.b < n) (ha : a < n) (hl : t.length = n) (hs : Sound u a t) (hc : Comp u a n t n) : Full u a n t :=
  ⟨hl, hs, fun p d hp w => by
    obtain ⟨d', w', c', l'⟩ := short_walk hu ha w
    obtain ⟨e, he, le⟩ := hc p d' hp w' (Nat.le_of_lt c')
    exact ⟨e, he, le.trans l'⟩⟩
theorem full_unique {u : U} {a n : Nat} {t t' : Tab} (h : Full u a n t) (h' : Full u a n t') : t = t' := by
  obtain ⟨l1, s1, c1⟩ := h
  obtain ⟨l2, s2, c2⟩ := h'
  refine List.ext_getElem (by omega) fun p h1 h2 => ?_
  have e1 : at' t p = t[p] := by show t.getD p none = _; rw [List.getD_eq_getElem?_getD, List.getElem?_eq_getElem h1]; rfl
  have e2 : at' t' p = t'[p] := by show t'.getD p none = _; rw [List.getD_eq_getElem?_getD, List.getElem?_eq_getElem h2]; rfl
  rw [← e1, ← e2]
  cases q : at' t p with
  | none =>
    cases q' : at' t' p with
    | none => rfl
    | some d =>
      obtain ⟨e, he, _⟩ := c1 p d (by omega) (s2 p d q')
      rw [q] at he; cases he
  | some d =>
    obtain ⟨e, he, le⟩ := c2 p d (by omega) (s1 p d q)
    obtain ⟨e', he', le'⟩ := c1 p e (by omega) (s2 p e he)
    rw [q] at he'; cases he'
    rw [he, le.antisymm le']
/-- the table ahead of the first turn -/
def init0 (n a : Nat) : Tab := (List.range n).map fun (p : Nat) => if p = a then some [0, 0] else none
theorem init0_at {n a p : Nat} (hp : p < n) : at' (init0 n a) p = if p = a then some [0, 0] else none := by
  show (init0 n a).getD p none = _
  unfold init0
  rw [List.getD_eq_getElem?_getD, List.getElem?_map, List.getElem?_range hp]; rfl
theorem init0_len {n a : Nat} : (init0 n a).length = n := by simp [init0]
theorem init0_sound {u : U} {n a : Nat} : Sound u a (init0 n a) := fun p d e => by
  have hp : p < n := by have := at_lt e; rw [init0_len] at this; exact this
  rw [init0_at hp] at e
  by_cases h : p = a
  · rw [if_pos h] at e; cases e; subst h; exact .nil
  · rw [if_neg h] at e; cases e
theorem init0_comp {u : U} {n a : Nat} : Comp u a n (init0 n a) 0 := fun p d hp w hc => by
  cases w with
  | nil => exact ⟨[0, 0], by rw [init0_at hp, if_pos rfl], Le.refl _⟩
  | snoc w hx hA => have : _ + 1 ≤ 0 := hc; omega
theorem comp_iter {u : U} {n a : Nat} {f : Tab → Tab} (hf : ∀ t i, t.length = n → Sound u a t → Comp u a n t i → (f t).length = n ∧ Sound u a (f t) ∧ Comp u a n (f t) (i + 1)) :
    ∀ (k i : Nat) (t : Tab), t.length = n → Sound u a t → Comp u a n t i → (iter f k t).length = n ∧ Sound u a (iter f k t) ∧ Comp u a n (iter f k t) (i + k)
  | 0, i, t, h1, h2, h3 => ⟨h1, h2, h3⟩
  | k + 1, i, t, h1, h2, h3 => by
    obtain ⟨g1, g2, g3⟩ := hf t i h1 h2 h3
    have := comp_iter hf k (i + 1) (f t) g1 g2 g3
    rw [show i + 1 + k = i + (k + 1) by omega] at this
    exact this
theorem shorter_full {u : U} {n a : Nat} (hu : ∀ y ∈ u, y.2.a < n ∧ y.2.b < n) (ha : a < n) : Full u a n (shorter n u n (init0 n a)) := by
  rw [shorter_iter]
  obtain ⟨h1, h2, h3⟩ := comp_iter (f := rnd n u) (fun t i _ s c => ⟨rnd_len, rnd_sound s, rnd_comp hu s c⟩) n 0 (init0 n a) init0_len init0_sound init0_comp
  rw [Nat.zero_add] at h3
  exact full_of hu ha h1 h2 h3
theorem settle_full {u : U} {n a : Nat} (hu : ∀ y ∈ u, y.2.a < n ∧ y.2.b < n) (ha : a < n) : Full u a n (settle u n (init0 n a)) := by
  rw [settle_iter]
  obtain ⟨h1, h2, h3⟩ := comp_iter (f := spread u) (fun t i l s c => ⟨(spread_go hu u t (fun _ h => h) l s).1, (spread_go hu u t (fun _ h => h) l s).2.1, spread_comp hu l s c⟩) n 0 (init0 n a) init0_len init0_sound init0_comp
  rw [Nat.zero_add] at h3
  exact full_of hu ha h1 h2 h3
/-- THE LAW: the program's table is the specification's -/
theorem settle_eq {u : U} {n a : Nat} (hu : ∀ y ∈ u, y.2.a < n ∧ y.2.b < n) (ha : a < n) : settle u n (init0 n a) = shorter n u n (init0 n a) :=
  full_unique (settle_full hu ha) (shorter_full hu ha)
end Th
namespace Th
open PySem PySem.Spec PyProof.Rows L2
open TimHaul (Road Limit Truck Lot Trip Office)
open Evl (Ex)
/-! ### a def that keeps its promise, with all that a caller asks -/
structure Cal (PP : Program) (w : World) (K : PySem.W.Frag) (mg : Str → Option Value) (base : Heap) (k : Nat) (f : Addr) (ps : List Str) (sp : Sp) : Prop where
  ex : ∃ fd, FnOk PP w K mg base CX0 k f fd ps sp ∧ PySem.W.keepIn K (.ref f) = true ∧ Binds K fd ps []
section
variable {PP : Program} {w : World} {K : PySem.W.Frag} {mg : Str → Option Value} {base : Heap}
theorem Cal.of {x qual : Str} {st : Stmt} {f : Addr} {N ps : List Str} {k : Nat} {sp : Sp} (hF : ∃ fd, Fun K x qual st f fd) (S : FnScope N ps (defScope st)) (len : ∀ vs H Q E, sp vs H Q E → vs.length = ps.length)
    (hb : ∀ (kV doc pm : Value) (an : Option Addr) (cdv ct : Value) (us : List Value), us.length = ps.length → bindArgs (PySem.W.fnOf x qual (defArgs st) (defBody st) (defScope st) .none kV doc pm an cdv ct) ⟨us, []⟩ = pure (ps.zip us))
    (hbody : ∀ (cdv : Value) (A : Around) (outer : List Env) (s : Shared) (H : Hp) (vs : List V) (Q : VK) (E : XK), Room k (A.deeper (envOfC qual (defScope st) s.heap.objs.size f cdv)) → sp vs H Q E →
      ∃ t, PSs (cxOf CX0 PP w K mg base N qual (defScope st) f cdv A outer s H E).nox (defBody st) t ∧ t { nx := fun _ H' => Q .non H', rt := Q } (start N vs) H) : Cal PP w K mg base (k + 1) f ps sp := by
  obtain ⟨fd, F⟩ := hF
  exact ⟨⟨fd, F.ok S len hbody, F.kp, F.binds hb⟩⟩
end
section
variable {X : Cx} {k : Nat} {f C : Addr} {ps : List Str} {sp : Sp} {x m : Str} {p pos apos : Pos} {e o : Expr} {es : List Expr} {t : TA} {ta : TE}
theorem pe_gint {i : Int} (h : ∃ t, X.mg x = some (.int i t)) (hg : Gl X x) (hd : (x == ("__debug__" : Str)) = false := by decide) : PE X (.Name x pos) (tC (.int i)) := by
  obtain ⟨t, ht⟩ := h
  exact pe_glob hg ht ⟨t, rfl⟩ hd
theorem pe_cal (F : Cal X.prog X.w X.K X.mg X.base k f ps sp) (hr : Room k X.A) (hg : Gl X x) (hm : X.mg x = some (.ref f)) (ha : PA X (e :: es) t) (hdb : (x == ("__debug__" : Str)) = false := by decide)
    (he : starEach (e :: es) X.env = (false, eval e X.env) :: starEach es X.env := by rfl) (hpl : (backTo pos (starEach es X.env)).any (·.1) = false := by rfl) :
    PE X (.Call (.Name x p) (e :: es) [] pos) (tCall sp [] E0 t) := by
  obtain ⟨fd, F, kp, b⟩ := F.ex
  exact pe_call F hr hg hm kp b .nil pass0 ha hdb he hpl
theorem pe_cmeth {pl : Sem Bool} (ho : PE X o ta) (c : Cls X.K C) (hm : Meth X.K C m f) (F : Cal X.prog X.w X.K X.mg X.base k f ps sp) (hr : Room k X.A) (ha : PA X (e :: es) t)
    (hst : starEach (e :: es) X.env = (false, eval e X.env) :: starEach es X.env := by rfl) (hpl : (backTo pos (starEach es X.env)).any (·.1) = false := by rfl)
    (ht : eval (.Call (.Attribute o m apos) (e :: es) [] pos) X.env = (do
      let ov ← eval o X.env
      standAt apos.atName
      let (f, first) ← holding [ov] (getMethod ov m pl)
      callWith pos f first (backTo pos (starEach (e :: es) X.env)) (backToKw pos (keywordEach [] X.env))) := by rfl) :
    PE X (.Call (.Attribute o m apos) (e :: es) [] pos) (tMeth C m sp [] E0 ta t) := by
  obtain ⟨fd, F, kp, b⟩ := F.ex
  exact pe_meth ho c hm F hr b .nil pass0 ha hst hpl ht
theorem pe_cmeth0 {pl : Sem Bool} (ho : PE X o ta) (c : Cls X.K C) (hm : Meth X.K C m f) (F : Cal X.prog X.w X.K X.mg X.base k f ps sp) (hr : Room k X.A)
    (ht : eval (.Call (.Attribute o m apos) [] [] pos) X.env = (do
      let ov ← eval o X.env
      standAt apos.atName
      let (f, first) ← holding [ov] (getMethod ov m pl)
      callWith pos f first (backTo pos (starEach [] X.env)) (backToKw pos (keywordEach [] X.env))) := by rfl) :
    PE X (.Call (.Attribute o m apos) [] [] pos) (tMeth C m sp [] E0 ta tNil) := by
  obtain ⟨fd, F, kp, b⟩ := F.ex
  exact pe_meth0 ho c hm F hr b .nil pass0 ht
theorem pe_cmake (M : Mk X.K C f) (F : Cal X.prog X.w X.K X.mg X.base k f ps sp) (hr : Room (k + 1) X.A) (hg : Gl X x) (hm : X.mg x = some (.ref C)) (ha : PA X (e :: es) t) (hdb : (x == ("__debug__" : Str)) = false := by decide)
    (he : starEach (e :: es) X.env = (false, eval e X.env) :: starEach es X.env := by rfl) (hpl : (backTo pos (starEach es X.env)).any (·.1) = false := by rfl) :
    PE X (.Call (.Name x p) (e :: es) [] pos) (tMake C sp [] E0 t) := by
  obtain ⟨fd, F, kp, b⟩ := F.ex
  exact pe_make M F hr hg hm b .nil pass0 ha hdb he hpl
end

/-! ### the heap: what stays -/
def isD : HO → Bool
  | .dK _ => true
  | .dT _ => true
  | .set _ _ => true
  | .ext _ => true
  | _ => false
/-- all but dicts and sets stays -/
def ExD (H H' : Hp) : Prop := ∀ a o, H a = some o → isD o = false → H' a = some o
theorem ExD.refl (H : Hp) : ExD H H := fun _ _ h _ => h
theorem ExD.trans {H H1 H2 : Hp} (a : ExD H H1) (b : ExD H1 H2) : ExD H H2 := fun x o h d => b x o (a x o h d) d
theorem exD_of {H H' : Hp} (e : Ex H H') : ExD H H' := fun a o h _ => e a o h
theorem ExD.ex {H H1 H2 : Hp} (a : ExD H H1) (b : Ex H1 H2) : ExD H H2 := a.trans (exD_of b)
/-- the heap without what stands at b -/
def del (H : Hp) (b : Addr) : Hp := fun a => if a = b then none else H a
theorem del_same {H : Hp} {b : Addr} : del H b b = none := if_pos rfl
theorem del_ne {H : Hp} {a b : Addr} (h : a ≠ b) : del H b a = H a := if_neg h
theorem del_some {H : Hp} {a b : Addr} {o : HO} (h : del H b a = some o) : H a = some o ∧ a ≠ b := by
  unfold del at h
  split at h
  · cases h
  · exact ⟨h, by assumption⟩
theorem del_ex (H : Hp) (b : Addr) : Ex (del H b) H := fun a o h => (del_some h).1
theorem upd_del {H : Hp} {b : Addr} {o : HO} (h : H b = some o) : upd (del H b) b o = H := by
  funext a
  unfold upd del
  by_cases e : a = b
  · rw [if_pos e, e, h]
  · rw [if_neg e, if_neg e]
theorem ex_del {G H : Hp} {b : Addr} (h : G b = none) (e : Ex G H) : Ex G (del H b) := fun a o q => by
  rw [del_ne (ne_of_none q h)]
  exact e a o q
theorem exD_del {G H : Hp} {b : Addr} (h : G b = none) (e : ExD G H) : ExD G (del H b) := fun a o q d => by
  rw [del_ne (ne_of_none q h)]
  exact e a o q d
theorem ex_upd {G : Hp} {b : Addr} {o : HO} (h : G b = none) : Ex G (upd G b o) := Evl.Ex.new h

/-! ### attributes -/
theorem lk_here {k : Str} {v : V} {r : List (Str × V)} : List.lookup k ((k, v) :: r) = some v := by
  have e : (k == k) = true := beq_self_eq_true k
  simp only [List.lookup, e]
theorem lk_past {k g : Str} {v : V} {r : List (Str × V)} (h : (k == g) = false) : List.lookup k ((g, v) :: r) = List.lookup k r := by
  simp only [List.lookup, h]
theorem put_here {f : Str} {v x : V} {r : List (Str × V)} : putF f v ((f, x) :: r) = (f, v) :: r := if_pos rfl
theorem put_past {f g : Str} {v x : V} {r : List (Str × V)} (h : ¬ g = f) : putF f v ((g, x) :: r) = (g, x) :: putF f v r := if_neg h
theorem put_nil {f : Str} {v : V} : putF f v [] = [(f, v)] := rfl

/-! ### lists side by side -/
def All2 {α : Type} (R : Addr → α → Prop) (as : List Addr) (xs : List α) : Prop := as.length = xs.length ∧ ∀ (i : Nat) (x : α), xs[i]? = some x → ∃ a, as[i]? = some a ∧ R a x
theorem All2.mono {α : Type} {R S : Addr → α → Prop} {as : List Addr} {xs : List α} (h : All2 R as xs) (f : ∀ a x, R a x → S a x) : All2 S as xs :=
  ⟨h.1, fun i x e => let ⟨a, e1, r⟩ := h.2 i x e; ⟨a, e1, f a x r⟩⟩
theorem All2.nil {α : Type} {R : Addr → α → Prop} : All2 R [] [] := ⟨rfl, fun i x e => by simp at e⟩
theorem All2.snoc {α : Type} {R : Addr → α → Prop} {as : List Addr} {xs : List α} {a : Addr} {x : α} (h : All2 R as xs) (r : R a x) : All2 R (as ++ [a]) (xs ++ [x]) := by
  refine ⟨by simp [h.1], fun i y e => ?_⟩
  rcases Nat.lt_or_ge i xs.length with hi | hi
  · rw [List.getElem?_append_left hi] at e
    obtain ⟨b, e1, r1⟩ := h.2 i y e
    exact ⟨b, by rw [List.getElem?_append_left (by rw [h.1]; exact hi)]; exact e1, r1⟩
  · rw [List.getElem?_append_right hi] at e
    have e0 : i - xs.length = 0 := by
      rcases Nat.eq_zero_or_pos (i - xs.length) with z | z
      · exact z
      · rw [List.getElem?_eq_none (by simp; omega)] at e; cases e
    rw [e0] at e
    cases e
    exact ⟨a, by rw [List.getElem?_append_right (by rw [h.1]; exact hi), h.1, e0]; rfl, r⟩
theorem All2.set {α : Type} {R S : Addr → α → Prop} {as : List Addr} {xs : List α} {j : Nat} {a : Addr} {x : α} (h : All2 R as xs) (hj : as[j]? = some a) (k : ∀ (i : Nat) b y, i ≠ j → as[i]? = some b → R b y → S b y) (r : S a x) : All2 S as (xs.set j x) := by
  have hl : j < xs.length := by rw [← h.1]; exact (List.getElem?_eq_some_iff.mp hj).1
  refine ⟨by rw [List.length_set]; exact h.1, fun i y e => ?_⟩
  by_cases hij : j = i
  · subst hij
    rw [List.getElem?_set_self hl] at e
    cases e
    exact ⟨a, hj, r⟩
  · rw [List.getElem?_set_ne hij] at e
    obtain ⟨b, e1, r1⟩ := h.2 i y e
    exact ⟨b, e1, k i b y (Ne.symm hij) e1 r1⟩
/-- a row of whole numbers as values -/
def nv (l : List Nat) : List V := l.map fun n : Nat => V.int (n : Int)
theorem nv_ints (l : List Nat) : nv l = (l.map fun n : Nat => (n : Int)).map V.int := by simp [nv]
theorem nv_len (l : List Nat) : (nv l).length = l.length := by simp [nv]
theorem nv_at {l : List Nat} {i n : Nat} (h : l[i]? = some n) : (nv l)[i]? = some (V.int (n : Int)) := by simp [nv, h]
theorem nv_get {l : List Nat} {i : Nat} {x : V} (h : (nv l)[i]? = some x) : ∃ n : Nat, l[i]? = some n ∧ x = V.int (n : Int) := by
  unfold nv at h
  rw [List.getElem?_map] at h
  cases e : l[i]? with
  | none => rw [e] at h; cases h
  | some n => rw [e] at h; cases h; exact ⟨n, rfl, rfl⟩
theorem refs_at {l : List Addr} {i : Nat} {a : Addr} (h : l[i]? = some a) : (l.map V.ref)[i]? = some (V.ref a) := by simp [h]
theorem refs_get {l : List Addr} {i : Nat} {x : V} (h : (l.map V.ref)[i]? = some x) : ∃ a, l[i]? = some a ∧ x = V.ref a := by
  rw [List.getElem?_map] at h
  cases e : l[i]? with
  | none => rw [e] at h; cases h
  | some n => rw [e] at h; cases h; exact ⟨n, rfl, rfl⟩

/-! ### the office in the heap -/
def fRoad (r : Road) : List (Str × V) := [("a", .int (r.a : Int)), ("b", .int (r.b : Int)), ("metres", .int (r.metres : Int)), ("kilograms", .int (r.bears : Int))]
def fLimit (l : Limit) : List (Str × V) := [("road", .int (l.road : Int)), ("first", .int (l.first : Int)), ("last", .int (l.last : Int)), ("kilograms", .int (l.kg : Int))]
def fTruck (t : Truck) : List (Str × V) := [("place", .int (t.home : Int)), ("empty", .int (t.tare : Int)), ("loadable", .int (t.payload : Int))]
def fLot (l : Lot) : List (Str × V) := [("place", .int (l.place : Int)), ("mill", .int (l.mill : Int)), ("kilograms", .int (l.kg : Int)), ("first", .int (l.ready : Int)), ("last", .int (l.due : Int))]
def fTrip (t : Trip) (la ra : Addr) (off : Bool) : List (Str × V) := [("truck", .int (t.truck : Int)), ("day", .int (t.day : Int)), ("lots", .ref la), ("metres", .int (t.metres : Int)), ("roads", .ref ra), ("scaled", .int ((t.scale.getD 0 : Nat) : Int)), ("called_off", .bl off)]
/-- where an office's parts lie -/
structure OA where
  a : Addr
  dx : Addr
  lr : Addr
  ll : Addr
  lt : Addr
  lo : Addr
  lp : Addr
  rr : List Addr
  rl : List Addr
  rt : List Addr
  ro : List Addr
  rp : List Addr
def fOffice (n : Nat) (A : OA) : List (Str × V) := [("places", .int (n : Int)), ("roads", .ref A.lr), ("limits", .ref A.ll), ("trucks", .ref A.lt), ("lots", .ref A.lo), ("trips", .ref A.lp)]
def RoadAt (K : PySem.W.Frag) (H : Hp) (p : Addr) (r : Road) : Prop := ∃ dx, H p = some (.ins (He.ga K "Road") dx (fRoad r))
def LimitAt (K : PySem.W.Frag) (H : Hp) (p : Addr) (r : Limit) : Prop := ∃ dx, H p = some (.ins (He.ga K "Limit") dx (fLimit r))
def TruckAt (K : PySem.W.Frag) (H : Hp) (p : Addr) (r : Truck) : Prop := ∃ dx, H p = some (.ins (He.ga K "Truck") dx (fTruck r))
def LotAt (K : PySem.W.Frag) (H : Hp) (p : Addr) (r : Lot) : Prop := ∃ dx, H p = some (.ins (He.ga K "Lot") dx (fLot r))
/-- a trip at p (in H), its two rows (in G) -/
def TripAt (K : PySem.W.Frag) (G H : Hp) (p : Addr) : Option Trip → Prop
  | none => ∃ t dx la ra, H p = some (.ins (He.ga K "Trip") dx (fTrip t la ra true))
  | some t => ∃ dx la ra, H p = some (.ins (He.ga K "Trip") dx (fTrip t la ra false)) ∧ G la = some (.lst (nv t.lots)) ∧ G ra = some (.lst (nv t.full))
/-- the office s lies as A says: what never changes in G, its rows and trips in H -/
structure OffG (K : PySem.W.Frag) (G H : Hp) (A : OA) (s : Office) : Prop where
  obj : G A.a = some (.ins (He.ga K "Office") A.dx (fOffice s.n A))
  lr : H A.lr = some (.lst (A.rr.map V.ref))
  ll : H A.ll = some (.lst (A.rl.map V.ref))
  lt : H A.lt = some (.lst (A.rt.map V.ref))
  lo : H A.lo = some (.lst (A.ro.map V.ref))
  lp : H A.lp = some (.lst (A.rp.map V.ref))
  roads : All2 (RoadAt K G) A.rr s.roads
  limits : All2 (LimitAt K G) A.rl s.limits
  trucks : All2 (TruckAt K G) A.rt s.trucks
  lots : All2 (LotAt K G) A.ro s.lots
  trips : All2 (TripAt K G H) A.rp s.trips
abbrev OffR (K : PySem.W.Frag) (H : Hp) (A : OA) (s : Office) : Prop := OffG K H H A s
section
variable {K : PySem.W.Frag} {G G' H H' : Hp} {A : OA} {s : Office}
theorem OffG.mono (h : OffG K G H A s) (g : ExD G G') (e : ExD H H') : OffG K G' H' A s where
  obj := g _ _ h.obj rfl
  lr := e _ _ h.lr rfl
  ll := e _ _ h.ll rfl
  lt := e _ _ h.lt rfl
  lo := e _ _ h.lo rfl
  lp := e _ _ h.lp rfl
  roads := h.roads.mono fun _ _ ⟨dx, q⟩ => ⟨dx, g _ _ q rfl⟩
  limits := h.limits.mono fun _ _ ⟨dx, q⟩ => ⟨dx, g _ _ q rfl⟩
  trucks := h.trucks.mono fun _ _ ⟨dx, q⟩ => ⟨dx, g _ _ q rfl⟩
  lots := h.lots.mono fun _ _ ⟨dx, q⟩ => ⟨dx, g _ _ q rfl⟩
  trips := h.trips.mono fun a x q => by
    cases x with
    | none => obtain ⟨t, dx, la, ra, q⟩ := q; exact ⟨t, dx, la, ra, e _ _ q rfl⟩
    | some t => obtain ⟨dx, la, ra, q, q1, q2⟩ := q; exact ⟨dx, la, ra, e _ _ q rfl, g _ _ q1 rfl, g _ _ q2 rfl⟩
theorem OffG.ex (h : OffR K H A s) (e : Ex H H') : OffR K H' A s := h.mono (exD_of e) (exD_of e)
theorem OffG.exD (h : OffR K H A s) (e : ExD H H') : OffR K H' A s := h.mono e e
theorem OffG.up (h : OffG K G H A s) (e : Ex G H) : OffR K H A s := h.mono (exD_of e) (ExD.refl H)
end
end Th
namespace Th
open PySem PySem.Spec PyProof.Rows L2
open TimHaul (Road Limit Truck Lot Trip Office)
def fWays (a kb kk : Addr) : List (Str × V) := [("office", .ref a), ("borne", .ref kb), ("known", .ref kk)]
theorem lRoad_a (r : Road) : (fRoad r).lookup ("a" : Str) = some (.int (r.a : Int)) := lk_here
theorem lRoad_b (r : Road) : (fRoad r).lookup ("b" : Str) = some (.int (r.b : Int)) := (lk_past (by decide +kernel)).trans (lk_here)
theorem lRoad_metres (r : Road) : (fRoad r).lookup ("metres" : Str) = some (.int (r.metres : Int)) := (lk_past (by decide +kernel)).trans ((lk_past (by decide +kernel)).trans (lk_here))
theorem lRoad_kilograms (r : Road) : (fRoad r).lookup ("kilograms" : Str) = some (.int (r.bears : Int)) := (lk_past (by decide +kernel)).trans ((lk_past (by decide +kernel)).trans ((lk_past (by decide +kernel)).trans (lk_here)))
theorem pRoad (v0 v1 v2 v3 : V) : putF "kilograms" v3 (putF "metres" v2 (putF "b" v1 (putF "a" v0 []))) = ([("a", v0), ("b", v1), ("metres", v2), ("kilograms", v3)] : List (Str × V)) := by
  have e1 : putF "b" v1 ([("a", v0)] : List (Str × V)) = ([("a", v0), ("b", v1)] : List (Str × V)) := (put_past (by decide +kernel)).trans (congrArg _ (rfl))
  have e2 : putF "metres" v2 ([("a", v0), ("b", v1)] : List (Str × V)) = ([("a", v0), ("b", v1), ("metres", v2)] : List (Str × V)) := (put_past (by decide +kernel)).trans (congrArg _ ((put_past (by decide +kernel)).trans (congrArg _ (rfl))))
  have e3 : putF "kilograms" v3 ([("a", v0), ("b", v1), ("metres", v2)] : List (Str × V)) = ([("a", v0), ("b", v1), ("metres", v2), ("kilograms", v3)] : List (Str × V)) := (put_past (by decide +kernel)).trans (congrArg _ ((put_past (by decide +kernel)).trans (congrArg _ ((put_past (by decide +kernel)).trans (congrArg _ (rfl))))))
  rw [put_nil, e1, e2, e3]
theorem lLimit_road (r : Limit) : (fLimit r).lookup ("road" : Str) = some (.int (r.road : Int)) := lk_here
theorem lLimit_first (r : Limit) : (fLimit r).lookup ("first" : Str) = some (.int (r.first : Int)) := (lk_past (by decide +kernel)).trans (lk_here)
theorem lLimit_last (r : Limit) : (fLimit r).lookup ("last" : Str) = some (.int (r.last : Int)) := (lk_past (by decide +kernel)).trans ((lk_past (by decide +kernel)).trans (lk_here))
theorem lLimit_kilograms (r : Limit) : (fLimit r).lookup ("kilograms" : Str) = some (.int (r.kg : Int)) := (lk_past (by decide +kernel)).trans ((lk_past (by decide +kernel)).trans ((lk_past (by decide +kernel)).trans (lk_here)))
theorem pLimit (v0 v1 v2 v3 : V) : putF "kilograms" v3 (putF "last" v2 (putF "first" v1 (putF "road" v0 []))) = ([("road", v0), ("first", v1), ("last", v2), ("kilograms", v3)] : List (Str × V)) := by
  have e1 : putF "first" v1 ([("road", v0)] : List (Str × V)) = ([("road", v0), ("first", v1)] : List (Str × V)) := (put_past (by decide +kernel)).trans (congrArg _ (rfl))
  have e2 : putF "last" v2 ([("road", v0), ("first", v1)] : List (Str × V)) = ([("road", v0), ("first", v1), ("last", v2)] : List (Str × V)) := (put_past (by decide +kernel)).trans (congrArg _ ((put_past (by decide +kernel)).trans (congrArg _ (rfl))))
  have e3 : putF "kilograms" v3 ([("road", v0), ("first", v1), ("last", v2)] : List (Str × V)) = ([("road", v0), ("first", v1), ("last", v2), ("kilograms", v3)] : List (Str × V)) := (put_past (by decide +kernel)).trans (congrArg _ ((put_past (by decide +kernel)).trans (congrArg _ ((put_past (by decide +kernel)).trans (congrArg _ (rfl))))))
  rw [put_nil, e1, e2, e3]
theorem lTruck_place (r : Truck) : (fTruck r).lookup ("place" : Str) = some (.int (r.home : Int)) := lk_here
theorem lTruck_empty (r : Truck) : (fTruck r).lookup ("empty" : Str) = some (.int (r.tare : Int)) := (lk_past (by decide +kernel)).trans (lk_here)
theorem lTruck_loadable (r : Truck) : (fTruck r).lookup ("loadable" : Str) = some (.int (r.payload : Int)) := (lk_past (by decide +kernel)).trans ((lk_past (by decide +kernel)).trans (lk_here))
theorem pTruck (v0 v1 v2 : V) : putF "loadable" v2 (putF "empty" v1 (putF "place" v0 [])) = ([("place", v0), ("empty", v1), ("loadable", v2)] : List (Str × V)) := by
  have e1 : putF "empty" v1 ([("place", v0)] : List (Str × V)) = ([("place", v0), ("empty", v1)] : List (Str × V)) := (put_past (by decide +kernel)).trans (congrArg _ (rfl))
  have e2 : putF "loadable" v2 ([("place", v0), ("empty", v1)] : List (Str × V)) = ([("place", v0), ("empty", v1), ("loadable", v2)] : List (Str × V)) := (put_past (by decide +kernel)).trans (congrArg _ ((put_past (by decide +kernel)).trans (congrArg _ (rfl))))
  rw [put_nil, e1, e2]
theorem lLot_place (r : Lot) : (fLot r).lookup ("place" : Str) = some (.int (r.place : Int)) := lk_here
theorem lLot_mill (r : Lot) : (fLot r).lookup ("mill" : Str) = some (.int (r.mill : Int)) := (lk_past (by decide +kernel)).trans (lk_here)
theorem lLot_kilograms (r : Lot) : (fLot r).lookup ("kilograms" : Str) = some (.int (r.kg : Int)) := (lk_past (by decide +kernel)).trans ((lk_past (by decide +kernel)).trans (lk_here))
theorem lLot_first (r : Lot) : (fLot r).lookup ("first" : Str) = some (.int (r.ready : Int)) := (lk_past (by decide +kernel)).trans ((lk_past (by decide +kernel)).trans ((lk_past (by decide +kernel)).trans (lk_here)))
theorem lLot_last (r : Lot) : (fLot r).lookup ("last" : Str) = some (.int (r.due : Int)) := (lk_past (by decide +kernel)).trans ((lk_past (by decide +kernel)).trans ((lk_past (by decide +kernel)).trans ((lk_past (by decide +kernel)).trans (lk_here))))
theorem pLot (v0 v1 v2 v3 v4 : V) : putF "last" v4 (putF "first" v3 (putF "kilograms" v2 (putF "mill" v1 (putF "place" v0 [])))) = ([("place", v0), ("mill", v1), ("kilograms", v2), ("first", v3), ("last", v4)] : List (Str × V)) := by
  have e1 : putF "mill" v1 ([("place", v0)] : List (Str × V)) = ([("place", v0), ("mill", v1)] : List (Str × V)) := (put_past (by decide +kernel)).trans (congrArg _ (rfl))
  have e2 : putF "kilograms" v2 ([("place", v0), ("mill", v1)] : List (Str × V)) = ([("place", v0), ("mill", v1), ("kilograms", v2)] : List (Str × V)) := (put_past (by decide +kernel)).trans (congrArg _ ((put_past (by decide +kernel)).trans (congrArg _ (rfl))))
  have e3 : putF "first" v3 ([("place", v0), ("mill", v1), ("kilograms", v2)] : List (Str × V)) = ([("place", v0), ("mill", v1), ("kilograms", v2), ("first", v3)] : List (Str × V)) := (put_past (by decide +kernel)).trans (congrArg _ ((put_past (by decide +kernel)).trans (congrArg _ ((put_past (by decide +kernel)).trans (congrArg _ (rfl))))))
  have e4 : putF "last" v4 ([("place", v0), ("mill", v1), ("kilograms", v2), ("first", v3)] : List (Str × V)) = ([("place", v0), ("mill", v1), ("kilograms", v2), ("first", v3), ("last", v4)] : List (Str × V)) := (put_past (by decide +kernel)).trans (congrArg _ ((put_past (by decide +kernel)).trans (congrArg _ ((put_past (by decide +kernel)).trans (congrArg _ ((put_past (by decide +kernel)).trans (congrArg _ (rfl))))))))
  rw [put_nil, e1, e2, e3, e4]
theorem lTrip_truck (r : Trip) (la ra : Addr) (b : Bool) : (fTrip r la ra b).lookup ("truck" : Str) = some (.int (r.truck : Int)) := lk_here
theorem lTrip_day (r : Trip) (la ra : Addr) (b : Bool) : (fTrip r la ra b).lookup ("day" : Str) = some (.int (r.day : Int)) := (lk_past (by decide +kernel)).trans (lk_here)
theorem lTrip_lots (r : Trip) (la ra : Addr) (b : Bool) : (fTrip r la ra b).lookup ("lots" : Str) = some (.ref la) := (lk_past (by decide +kernel)).trans ((lk_past (by decide +kernel)).trans (lk_here))
theorem lTrip_metres (r : Trip) (la ra : Addr) (b : Bool) : (fTrip r la ra b).lookup ("metres" : Str) = some (.int (r.metres : Int)) := (lk_past (by decide +kernel)).trans ((lk_past (by decide +kernel)).trans ((lk_past (by decide +kernel)).trans (lk_here)))
theorem lTrip_roads (r : Trip) (la ra : Addr) (b : Bool) : (fTrip r la ra b).lookup ("roads" : Str) = some (.ref ra) := (lk_past (by decide +kernel)).trans ((lk_past (by decide +kernel)).trans ((lk_past (by decide +kernel)).trans ((lk_past (by decide +kernel)).trans (lk_here))))
theorem lTrip_scaled (r : Trip) (la ra : Addr) (b : Bool) : (fTrip r la ra b).lookup ("scaled" : Str) = some (.int ((r.scale.getD 0 : Nat) : Int)) := (lk_past (by decide +kernel)).trans ((lk_past (by decide +kernel)).trans ((lk_past (by decide +kernel)).trans ((lk_past (by decide +kernel)).trans ((lk_past (by decide +kernel)).trans (lk_here)))))
theorem lTrip_called_off (r : Trip) (la ra : Addr) (b : Bool) : (fTrip r la ra b).lookup ("called_off" : Str) = some (.bl b) := (lk_past (by decide +kernel)).trans ((lk_past (by decide +kernel)).trans ((lk_past (by decide +kernel)).trans ((lk_past (by decide +kernel)).trans ((lk_past (by decide +kernel)).trans ((lk_past (by decide +kernel)).trans (lk_here))))))
theorem pTrip (v0 v1 v2 v3 v4 v5 v6 : V) : putF "called_off" v6 (putF "scaled" v5 (putF "roads" v4 (putF "metres" v3 (putF "lots" v2 (putF "day" v1 (putF "truck" v0 [])))))) = ([("truck", v0), ("day", v1), ("lots", v2), ("metres", v3), ("roads", v4), ("scaled", v5), ("called_off", v6)] : List (Str × V)) := by
  have e1 : putF "day" v1 ([("truck", v0)] : List (Str × V)) = ([("truck", v0), ("day", v1)] : List (Str × V)) := (put_past (by decide +kernel)).trans (congrArg _ (rfl))
  have e2 : putF "lots" v2 ([("truck", v0), ("day", v1)] : List (Str × V)) = ([("truck", v0), ("day", v1), ("lots", v2)] : List (Str × V)) := (put_past (by decide +kernel)).trans (congrArg _ ((put_past (by decide +kernel)).trans (congrArg _ (rfl))))
  have e3 : putF "metres" v3 ([("truck", v0), ("day", v1), ("lots", v2)] : List (Str × V)) = ([("truck", v0), ("day", v1), ("lots", v2), ("metres", v3)] : List (Str × V)) := (put_past (by decide +kernel)).trans (congrArg _ ((put_past (by decide +kernel)).trans (congrArg _ ((put_past (by decide +kernel)).trans (congrArg _ (rfl))))))
  have e4 : putF "roads" v4 ([("truck", v0), ("day", v1), ("lots", v2), ("metres", v3)] : List (Str × V)) = ([("truck", v0), ("day", v1), ("lots", v2), ("metres", v3), ("roads", v4)] : List (Str × V)) := (put_past (by decide +kernel)).trans (congrArg _ ((put_past (by decide +kernel)).trans (congrArg _ ((put_past (by decide +kernel)).trans (congrArg _ ((put_past (by decide +kernel)).trans (congrArg _ (rfl))))))))
  have e5 : putF "scaled" v5 ([("truck", v0), ("day", v1), ("lots", v2), ("metres", v3), ("roads", v4)] : List (Str × V)) = ([("truck", v0), ("day", v1), ("lots", v2), ("metres", v3), ("roads", v4), ("scaled", v5)] : List (Str × V)) := (put_past (by decide +kernel)).trans (congrArg _ ((put_past (by decide +kernel)).trans (congrArg _ ((put_past (by decide +kernel)).trans (congrArg _ ((put_past (by decide +kernel)).trans (congrArg _ ((put_past (by decide +kernel)).trans (congrArg _ (rfl))))))))))
  have e6 : putF "called_off" v6 ([("truck", v0), ("day", v1), ("lots", v2), ("metres", v3), ("roads", v4), ("scaled", v5)] : List (Str × V)) = ([("truck", v0), ("day", v1), ("lots", v2), ("metres", v3), ("roads", v4), ("scaled", v5), ("called_off", v6)] : List (Str × V)) := (put_past (by decide +kernel)).trans (congrArg _ ((put_past (by decide +kernel)).trans (congrArg _ ((put_past (by decide +kernel)).trans (congrArg _ ((put_past (by decide +kernel)).trans (congrArg _ ((put_past (by decide +kernel)).trans (congrArg _ ((put_past (by decide +kernel)).trans (congrArg _ (rfl))))))))))))
  rw [put_nil, e1, e2, e3, e4, e5, e6]
theorem lOffice_places (n : Nat) (A : OA) : (fOffice n A).lookup ("places" : Str) = some (.int (n : Int)) := lk_here
theorem lOffice_roads (n : Nat) (A : OA) : (fOffice n A).lookup ("roads" : Str) = some (.ref A.lr) := (lk_past (by decide +kernel)).trans (lk_here)
theorem lOffice_limits (n : Nat) (A : OA) : (fOffice n A).lookup ("limits" : Str) = some (.ref A.ll) := (lk_past (by decide +kernel)).trans ((lk_past (by decide +kernel)).trans (lk_here))
theorem lOffice_trucks (n : Nat) (A : OA) : (fOffice n A).lookup ("trucks" : Str) = some (.ref A.lt) := (lk_past (by decide +kernel)).trans ((lk_past (by decide +kernel)).trans ((lk_past (by decide +kernel)).trans (lk_here)))
theorem lOffice_lots (n : Nat) (A : OA) : (fOffice n A).lookup ("lots" : Str) = some (.ref A.lo) := (lk_past (by decide +kernel)).trans ((lk_past (by decide +kernel)).trans ((lk_past (by decide +kernel)).trans ((lk_past (by decide +kernel)).trans (lk_here))))
theorem lOffice_trips (n : Nat) (A : OA) : (fOffice n A).lookup ("trips" : Str) = some (.ref A.lp) := (lk_past (by decide +kernel)).trans ((lk_past (by decide +kernel)).trans ((lk_past (by decide +kernel)).trans ((lk_past (by decide +kernel)).trans ((lk_past (by decide +kernel)).trans (lk_here)))))
theorem lOffice_has_place (n : Nat) (A : OA) : (fOffice n A).lookup ("has_place" : Str) = none := (lk_past (by decide +kernel)).trans ((lk_past (by decide +kernel)).trans ((lk_past (by decide +kernel)).trans ((lk_past (by decide +kernel)).trans ((lk_past (by decide +kernel)).trans ((lk_past (by decide +kernel)).trans (rfl))))))
theorem lOffice_has_road (n : Nat) (A : OA) : (fOffice n A).lookup ("has_road" : Str) = none := (lk_past (by decide +kernel)).trans ((lk_past (by decide +kernel)).trans ((lk_past (by decide +kernel)).trans ((lk_past (by decide +kernel)).trans ((lk_past (by decide +kernel)).trans ((lk_past (by decide +kernel)).trans (rfl))))))
theorem lOffice_has_truck (n : Nat) (A : OA) : (fOffice n A).lookup ("has_truck" : Str) = none := (lk_past (by decide +kernel)).trans ((lk_past (by decide +kernel)).trans ((lk_past (by decide +kernel)).trans ((lk_past (by decide +kernel)).trans ((lk_past (by decide +kernel)).trans ((lk_past (by decide +kernel)).trans (rfl))))))
theorem lOffice_has_lots (n : Nat) (A : OA) : (fOffice n A).lookup ("has_lots" : Str) = none := (lk_past (by decide +kernel)).trans ((lk_past (by decide +kernel)).trans ((lk_past (by decide +kernel)).trans ((lk_past (by decide +kernel)).trans ((lk_past (by decide +kernel)).trans ((lk_past (by decide +kernel)).trans (rfl))))))
theorem lOffice_has_trip (n : Nat) (A : OA) : (fOffice n A).lookup ("has_trip" : Str) = none := (lk_past (by decide +kernel)).trans ((lk_past (by decide +kernel)).trans ((lk_past (by decide +kernel)).trans ((lk_past (by decide +kernel)).trans ((lk_past (by decide +kernel)).trans ((lk_past (by decide +kernel)).trans (rfl))))))
theorem lOffice_bearing (n : Nat) (A : OA) : (fOffice n A).lookup ("bearing" : Str) = none := (lk_past (by decide +kernel)).trans ((lk_past (by decide +kernel)).trans ((lk_past (by decide +kernel)).trans ((lk_past (by decide +kernel)).trans ((lk_past (by decide +kernel)).trans ((lk_past (by decide +kernel)).trans (rfl))))))
theorem lOffice_standing_trips (n : Nat) (A : OA) : (fOffice n A).lookup ("standing_trips" : Str) = none := (lk_past (by decide +kernel)).trans ((lk_past (by decide +kernel)).trans ((lk_past (by decide +kernel)).trans ((lk_past (by decide +kernel)).trans ((lk_past (by decide +kernel)).trans ((lk_past (by decide +kernel)).trans (rfl))))))
theorem lOffice_lots_left (n : Nat) (A : OA) : (fOffice n A).lookup ("lots_left" : Str) = none := (lk_past (by decide +kernel)).trans ((lk_past (by decide +kernel)).trans ((lk_past (by decide +kernel)).trans ((lk_past (by decide +kernel)).trans ((lk_past (by decide +kernel)).trans ((lk_past (by decide +kernel)).trans (rfl))))))
theorem lOffice_is_free (n : Nat) (A : OA) : (fOffice n A).lookup ("is_free" : Str) = none := (lk_past (by decide +kernel)).trans ((lk_past (by decide +kernel)).trans ((lk_past (by decide +kernel)).trans ((lk_past (by decide +kernel)).trans ((lk_past (by decide +kernel)).trans ((lk_past (by decide +kernel)).trans (rfl))))))
theorem lOffice_weight (n : Nat) (A : OA) : (fOffice n A).lookup ("weight" : Str) = none := (lk_past (by decide +kernel)).trans ((lk_past (by decide +kernel)).trans ((lk_past (by decide +kernel)).trans ((lk_past (by decide +kernel)).trans ((lk_past (by decide +kernel)).trans ((lk_past (by decide +kernel)).trans (rfl))))))
theorem lOffice_without (n : Nat) (A : OA) : (fOffice n A).lookup ("without" : Str) = none := (lk_past (by decide +kernel)).trans ((lk_past (by decide +kernel)).trans ((lk_past (by decide +kernel)).trans ((lk_past (by decide +kernel)).trans ((lk_past (by decide +kernel)).trans ((lk_past (by decide +kernel)).trans (rfl))))))
theorem pOffice (v0 v1 v2 v3 v4 v5 : V) : putF "trips" v5 (putF "lots" v4 (putF "trucks" v3 (putF "limits" v2 (putF "roads" v1 (putF "places" v0 []))))) = ([("places", v0), ("roads", v1), ("limits", v2), ("trucks", v3), ("lots", v4), ("trips", v5)] : List (Str × V)) := by
  have e1 : putF "roads" v1 ([("places", v0)] : List (Str × V)) = ([("places", v0), ("roads", v1)] : List (Str × V)) := (put_past (by decide +kernel)).trans (congrArg _ (rfl))
  have e2 : putF "limits" v2 ([("places", v0), ("roads", v1)] : List (Str × V)) = ([("places", v0), ("roads", v1), ("limits", v2)] : List (Str × V)) := (put_past (by decide +kernel)).trans (congrArg _ ((put_past (by decide +kernel)).trans (congrArg _ (rfl))))
  have e3 : putF "trucks" v3 ([("places", v0), ("roads", v1), ("limits", v2)] : List (Str × V)) = ([("places", v0), ("roads", v1), ("limits", v2), ("trucks", v3)] : List (Str × V)) := (put_past (by decide +kernel)).trans (congrArg _ ((put_past (by decide +kernel)).trans (congrArg _ ((put_past (by decide +kernel)).trans (congrArg _ (rfl))))))
  have e4 : putF "lots" v4 ([("places", v0), ("roads", v1), ("limits", v2), ("trucks", v3)] : List (Str × V)) = ([("places", v0), ("roads", v1), ("limits", v2), ("trucks", v3), ("lots", v4)] : List (Str × V)) := (put_past (by decide +kernel)).trans (congrArg _ ((put_past (by decide +kernel)).trans (congrArg _ ((put_past (by decide +kernel)).trans (congrArg _ ((put_past (by decide +kernel)).trans (congrArg _ (rfl))))))))
  have e5 : putF "trips" v5 ([("places", v0), ("roads", v1), ("limits", v2), ("trucks", v3), ("lots", v4)] : List (Str × V)) = ([("places", v0), ("roads", v1), ("limits", v2), ("trucks", v3), ("lots", v4), ("trips", v5)] : List (Str × V)) := (put_past (by decide +kernel)).trans (congrArg _ ((put_past (by decide +kernel)).trans (congrArg _ ((put_past (by decide +kernel)).trans (congrArg _ ((put_past (by decide +kernel)).trans (congrArg _ ((put_past (by decide +kernel)).trans (congrArg _ (rfl))))))))))
  rw [put_nil, e1, e2, e3, e4, e5]
theorem lWays_office (a kb kk : Addr) : (fWays a kb kk).lookup ("office" : Str) = some (.ref a) := lk_here
theorem lWays_borne (a kb kk : Addr) : (fWays a kb kk).lookup ("borne" : Str) = some (.ref kb) := (lk_past (by decide +kernel)).trans (lk_here)
theorem lWays_known (a kb kk : Addr) : (fWays a kb kk).lookup ("known" : Str) = some (.ref kk) := (lk_past (by decide +kernel)).trans ((lk_past (by decide +kernel)).trans (lk_here))
theorem lWays_bearings (a kb kk : Addr) : (fWays a kb kk).lookup ("bearings" : Str) = none := (lk_past (by decide +kernel)).trans ((lk_past (by decide +kernel)).trans ((lk_past (by decide +kernel)).trans (rfl)))
theorem lWays_roads_for (a kb kk : Addr) : (fWays a kb kk).lookup ("roads_for" : Str) = none := (lk_past (by decide +kernel)).trans ((lk_past (by decide +kernel)).trans ((lk_past (by decide +kernel)).trans (rfl)))
theorem lWays_drive (a kb kk : Addr) : (fWays a kb kk).lookup ("drive" : Str) = none := (lk_past (by decide +kernel)).trans ((lk_past (by decide +kernel)).trans ((lk_past (by decide +kernel)).trans (rfl)))
theorem pWays (v0 v1 v2 : V) : putF "known" v2 (putF "borne" v1 (putF "office" v0 [])) = ([("office", v0), ("borne", v1), ("known", v2)] : List (Str × V)) := by
  have e1 : putF "borne" v1 ([("office", v0)] : List (Str × V)) = ([("office", v0), ("borne", v1)] : List (Str × V)) := (put_past (by decide +kernel)).trans (congrArg _ (rfl))
  have e2 : putF "known" v2 ([("office", v0), ("borne", v1)] : List (Str × V)) = ([("office", v0), ("borne", v1), ("known", v2)] : List (Str × V)) := (put_past (by decide +kernel)).trans (congrArg _ ((put_past (by decide +kernel)).trans (congrArg _ (rfl))))
  rw [put_nil, e1, e2]
end Th
namespace Th
open PySem PySem.Spec PyProof.Rows L2
open Evl (Ex Ev EvT EvL EvA given)
/-! ### readings by their names -/
abbrev rAdd' : R2 := rI0 fun i j => .int (i + j)
abbrev rSub' : R2 := rI0 fun i j => .int (i - j)
abbrev rRShift : R2 := rI (fun _ j => 0 ≤ j) fun i j => .int (i / 2 ^ j.toNat)
abbrev rBitAnd : R2 := rI0 fun i j => .int (Builtin.bitAnd i j)
abbrev rLt : R2 := rI0 fun i j => .bl (decide (i < j))
abbrev rLtE : R2 := rI0 fun i j => .bl (decide (i ≤ j))
abbrev rGtE : R2 := rI0 fun i j => .bl (decide (j ≤ i))
def rLen (K : PySem.W.Frag) : List V → Hp → VK → Prop := fun xs H Q => ∃ p ys, xs = [.ref p] ∧ (SqL K H p ys ∨ SqT K H p ys) ∧ Q (.int ys.length) H
def rMin2 : List V → Hp → VK → Prop := fun xs H Q => ∃ i j, xs = [.int i, .int j] ∧ Q (.int (if j < i then j else i)) H
theorem cr_min2 {X : Cx} (hc : X.calm = true) : CallR X (.builtin "min") rMin2 := call_min2 hc
def rMax2 : List V → Hp → VK → Prop := fun xs H Q => ∃ i j, xs = [.int i, .int j] ∧ Q (.int (if j > i then j else i)) H
theorem cr_max2 {X : Cx} (hc : X.calm = true) : CallR X (.builtin "max") rMax2 := call_max2 hc
theorem cr_len {X : Cx} : CallR X (.builtin "len") (rLen X.K) := call_len_seq
def rListOf (K : PySem.W.Frag) : List V → Hp → VK → Prop := fun xs H Q => ∃ p ys, xs = [.ref p] ∧ (SqL K H p ys ∨ SqT K H p ys) ∧ ∀ l, H l = none → Q (.ref l) (upd H l (.lst ys))
theorem cr_list {X : Cx} : CallR X (.type "list") (rListOf X.K) := call_list_of
def rTupleOf (K : PySem.W.Frag) : List V → Hp → VK → Prop := fun xs H Q => ∃ p ys, xs = [.ref p] ∧ ((SqL K H p ys ∧ ∀ l, H l = none → Q (.ref l) (upd H l (.tup ys))) ∨ (SqT K H p ys ∧ Q (.ref p) H))
theorem cr_tuple {X : Cx} : CallR X (.type "tuple") (rTupleOf X.K) := call_tuple_of
/-! ### comprehensions -/
section
variable {K : PySem.W.Frag} {σ : L2.St} {H : Hp} {te tl : TE} {t : TT} {g : TG} {vs : List Nat}
theorem take_snoc {α : Type} {l : List α} {n : Nat} {x : α} (h : l[n]? = some x) : l.take (n + 1) = l.take n ++ [x] := by
  rw [List.take_add_one, h]
  rfl
theorem given_take {α : Type} {ls : List α} (f : α → Bool) (g : α → V) {F : Nat → Bool} {G : Nat → V} (h : ∀ i y, ls[i]? = some y → F i = f y ∧ (f y = true → G i = g y)) : ∀ n, n ≤ ls.length → given n F G = ((ls.take n).filter f).map g
  | 0, _ => rfl
  | n + 1, hn => by
    have ih := given_take f g h n (by omega)
    have e : ls[n]? = some (ls[n]'(by omega)) := List.getElem?_eq_getElem (by omega)
    obtain ⟨h1, h2⟩ := h n _ e
    rw [take_snoc e, List.filter_append, List.map_append, ← ih]
    cases q : F n with
    | true =>
      rw [Evl.given_yes q, h2 (by rw [← h1]; exact q), List.filter_cons, if_pos (by rw [← h1]; exact q)]
      rfl
    | false =>
      rw [Evl.given_no q, List.filter_cons, if_neg (by rw [← h1, q]; decide)]
      simp
theorem given_map {α : Type} {ls : List α} (f : α → Bool) (g : α → V) {F : Nat → Bool} {G : Nat → V} (h : ∀ i y, ls[i]? = some y → F i = f y ∧ (f y = true → G i = g y)) : given ls.length F G = (ls.filter f).map g := by
  have e := given_take f g h ls.length (Nat.le_refl _)
  rwa [List.take_length] at e
/-- over anything that is walked; what a turn's names are is told by hs -/
theorem lc_go {J : It} {n : Nat} {G : Hp → Prop} {Y : Nat → Hp → V → Hp → Prop} (w : Walk J n G Y) {H1 : Hp} (hG : ∀ H', Ex H1 H' → G H') (f : Nat → Bool) (v : Nat → V) (hn : n ≤ 40000)
    (hs : ∀ i x Ha Hb, i < n → Ex H1 Ha → Y i Ha x Hb → Ex Ha Hb ∧ ∀ Qk : L2.St → Hp → Prop, (∀ σ2, wipe σ2 vs = wipe σ vs → EvT t σ2 H1 (f i) → (f i = true → Ev te σ2 H1 (v i)) → Qk σ2 Hb) → g x (wipe σ vs) Hb Qk)
    {Q : VK} (hq : ∀ D H2, H1 D = none → Ex H1 H2 → H2 D = some (.lst (given n f v)) → Q (.ref D) H2) :
    ∀ D, H1 D = none → ∃ W : Nat → Nat → Hp → Prop, (∃ m, W 0 m (upd H1 D (.lst []))) ∧ ∀ i m H, W i m H →
      (J.stop i H ∧ Q (.ref D) H) ∨ (J.go i H ∧ ∃ Nx : Hp → Prop, (∀ H', Nx H' → ∃ m', m' < m ∧ W (i + 1) m' H') ∧ ∀ x H', J.yld i H x H' → g x (wipe σ vs) H' fun σ2 H2 => wipe σ2 vs = wipe σ vs ∧ t σ2 H2 fun b H3 =>
        if b = true then te σ2 H3 fun y H4 => ∃ acc, H4 D = some (.lst acc) ∧ acc.length < sizeLine ∧ Nx (upd H4 D (.lst (acc ++ [y]))) else Nx H3) := fun D hD =>
  lc_it (Qd := fun H => Q (.ref D) H) w (Evl.Cw H1 f v D) ⟨hD, Evl.Ex.new hD, upd_same⟩ (fun i H' _ p => hG H' p.2.1) (fun i x Ha Hb hi p y => by
    obtain ⟨e, k⟩ := hs i x Ha Hb hi p.2.1 y
    refine k _ fun σ2 hw ht he => ⟨hw, Evl.cw_turn (H' := Hb) ⟨p.1, p.2.1.trans e, e _ _ p.2.2⟩ (by omega) ht he⟩) (fun H' p => hq D H' p.1 p.2.1 p.2.2)
/-- for x in a list that stands -/
theorem el_list {α : Type} {ls : List α} {r : α → V} {a : Addr} {j : Nat} (f : α → Bool) (v : α → V) (h : Ev tl σ H (.ref a)) (hx : SqL K H a (ls.map r)) (hz : ls.length ≤ 40000) (hw : ∀ x, wipe ((wipe σ vs).set j (some x)) vs = wipe σ vs)
    (ht : ∀ y ∈ ls, ∀ H1, Ex H H1 → EvT t ((wipe σ vs).set j (some (r y))) H1 (f y)) (he : ∀ y ∈ ls, ∀ H1, Ex H H1 → f y = true → Ev te ((wipe σ vs).set j (some (r y))) H1 (v y)) :
    EvL (tLc (iList K tl) (gName j) t te vs) σ H ((ls.filter f).map v) := by
  have e : given ls.length (fun i => (ls[i]?.map f).getD false) (fun i => (ls[i]?.map v).getD .non) = (ls.filter f).map v := given_map f v fun i y hy => by
    simp only [hy]
    exact ⟨rfl, fun _ => rfl⟩
  intro H0 e0 Q q
  refine h H0 e0 _ fun H1 e1 => ⟨a, rfl, ⟨_, Evl.ex_l (e0.trans e1) hx⟩, ?_⟩
  refine lc_go (walk_list (K := K) (a := a) (xs := ls.map r)) (fun H' e2 => Evl.ex_l ((e0.trans e1).trans e2) hx) (fun i => (ls[i]?.map f).getD false) (fun i => (ls[i]?.map v).getD .non) (by rw [List.length_map]; exact hz) (fun i x Ha Hb hi ea y => ?_) (fun D H2 hD e2 hq => ?_)
  · obtain ⟨rfl, hy⟩ := y
    refine ⟨Ex.refl _, fun Qk k => ?_⟩
    rw [List.getElem?_map] at hy
    cases q : ls[i]? with
    | none => rw [q] at hy; cases hy
    | some z =>
      rw [q] at hy
      cases hy
      have m := List.mem_of_getElem? q
      refine k _ (hw _) ?_ ?_
      · simp only [q]; exact ht z m H1 (e0.trans e1)
      · simp only [q]; exact fun hf => he z m H1 (e0.trans e1) hf
  · rw [List.length_map, e] at hq
    exact q D H2 (Evl.fresh_back e1 hD) (e1.trans e2) hq
/-- for x in a list that is made for it -/
theorem el_listN {α : Type} {ls : List α} {r : α → V} {j : Nat} (f : α → Bool) (v : α → V) (h : EvL tl σ H (ls.map r)) (hz : ls.length ≤ 40000) (hw : ∀ x, wipe ((wipe σ vs).set j (some x)) vs = wipe σ vs)
    (ht : ∀ y ∈ ls, ∀ H1, Ex H H1 → EvT t ((wipe σ vs).set j (some (r y))) H1 (f y)) (he : ∀ y ∈ ls, ∀ H1, Ex H H1 → f y = true → Ev te ((wipe σ vs).set j (some (r y))) H1 (v y)) :
    EvL (tLc (iList K tl) (gName j) t te vs) σ H ((ls.filter f).map v) := by
  have e : given ls.length (fun i => (ls[i]?.map f).getD false) (fun i => (ls[i]?.map v).getD .non) = (ls.filter f).map v := given_map f v fun i y hy => by
    simp only [hy]
    exact ⟨rfl, fun _ => rfl⟩
  intro H0 e0 Q q
  refine h H0 e0 _ fun a H1 ha e1 hx => ⟨a, rfl, ⟨_, SqL.of hx⟩, ?_⟩
  refine lc_go (walk_list (K := K) (a := a) (xs := ls.map r)) (fun H' e2 => SqL.of (e2 _ _ hx)) (fun i => (ls[i]?.map f).getD false) (fun i => (ls[i]?.map v).getD .non) (by rw [List.length_map]; exact hz) (fun i x Ha Hb hi ea y => ?_) (fun D H2 hD e2 hq => ?_)
  · obtain ⟨rfl, hy⟩ := y
    refine ⟨Ex.refl _, fun Qk k => ?_⟩
    rw [List.getElem?_map] at hy
    cases q : ls[i]? with
    | none => rw [q] at hy; cases hy
    | some z =>
      rw [q] at hy
      cases hy
      have m := List.mem_of_getElem? q
      refine k _ (hw _) ?_ ?_
      · simp only [q]; exact ht z m H1 (e0.trans e1)
      · simp only [q]; exact fun hf => he z m H1 (e0.trans e1) hf
  · rw [List.length_map, e] at hq
    exact q D H2 (Evl.fresh_back e1 hD) (e1.trans e2) hq
/-- for k in range(n) -/
theorem el_range {ta : TA} {j n : Nat} (f : Nat → Bool) (v : Nat → V) (h : EvA ta σ H [.int (n : Int)]) (hz : n ≤ 40000) (hw : ∀ x, wipe ((wipe σ vs).set j (some x)) vs = wipe σ vs)
    (ht : ∀ k < n, ∀ H1, Ex H H1 → EvT t ((wipe σ vs).set j (some (.int (k : Int)))) H1 (f k)) (he : ∀ k < n, ∀ H1, Ex H H1 → f k = true → Ev te ((wipe σ vs).set j (some (.int (k : Int)))) H1 (v k)) :
    EvL (tLc (iRng1 ta) (gName j) t te vs) σ H (((List.range n).filter f).map v) := by
  intro H0 e0 Q q
  refine h H0 e0 _ fun H1 e1 => ⟨(n : Int), rfl, by omega, by omega, ?_⟩
  rw [show ((n : Int)).toNat = n from rfl]
  refine lc_go (walk_range (lo := 0) (n := n)) (fun H' e2 => trivial) f v hz (fun i x Ha Hb hi ea y => ?_) (fun D H2 hD e2 hq => ?_)
  · obtain ⟨rfl, rfl⟩ := y
    refine ⟨Ex.refl _, fun Qk k => ?_⟩
    show Qk ((wipe σ vs).set j (some (.int ((0 : Int) + (i : Int))))) _
    rw [Int.zero_add]
    exact k _ (hw _) (ht i hi H1 (e0.trans e1)) (fun hf => he i hi H1 (e0.trans e1) hf)
  · exact q D H2 (Evl.fresh_back e1 hD) (e1.trans e2) hq
/-- for k, x in enumerate(a list that stands) -/
theorem lc_enum {α : Type} {ls : List α} {r : α → V} {a : Addr} {j1 j2 : Nat} {H1 : Hp} (f : α × Nat → Bool) (v : α × Nat → V) (hx : SqL K H1 a (ls.map r)) (hz : ls.length ≤ 40000) (hw : ∀ x y, wipe (((wipe σ vs).set j1 (some x)).set j2 (some y)) vs = wipe σ vs)
    (ht : ∀ (k : Nat) y, ls[k]? = some y → EvT t (((wipe σ vs).set j1 (some (.int (k : Int)))).set j2 (some (r y))) H1 (f (y, k)))
    (he : ∀ (k : Nat) y, ls[k]? = some y → f (y, k) = true → Ev te (((wipe σ vs).set j1 (some (.int (k : Int)))).set j2 (some (r y))) H1 (v (y, k)))
    {Q : VK} (hq : ∀ D H2, H1 D = none → Ex H1 H2 → H2 D = some (.lst ((ls.zipIdx.filter f).map v)) → Q (.ref D) H2) :
    ∀ D, H1 D = none → ∃ W : Nat → Nat → Hp → Prop, (∃ m, W 0 m (upd H1 D (.lst []))) ∧ ∀ i m H, W i m H →
      ((Ite K a).stop i H ∧ Q (.ref D) H) ∨ ((Ite K a).go i H ∧ ∃ Nx : Hp → Prop, (∀ H', Nx H' → ∃ m', m' < m ∧ W (i + 1) m' H') ∧ ∀ x H', (Ite K a).yld i H x H' → gTup K 2 (gCons (gName j1) (gCons (gName j2) gNil)) x (wipe σ vs) H' fun σ2 H2 => wipe σ2 vs = wipe σ vs ∧ t σ2 H2 fun b H3 =>
        if b = true then te σ2 H3 fun y H4 => ∃ acc, H4 D = some (.lst acc) ∧ acc.length < sizeLine ∧ Nx (upd H4 D (.lst (acc ++ [y]))) else Nx H3) := by
  have e : given ls.zipIdx.length (fun i => (ls.zipIdx[i]?.map f).getD false) (fun i => (ls.zipIdx[i]?.map v).getD .non) = (ls.zipIdx.filter f).map v := given_map f v fun i y hy => by
    simp only [hy]
    exact ⟨rfl, fun _ => rfl⟩
  rw [List.length_zipIdx] at e
  refine lc_go (walk_enum (K := K) (a := a) (xs := ls.map r)) (fun H' e2 => Evl.ex_l e2 hx) (fun i => (ls.zipIdx[i]?.map f).getD false) (fun i => (ls.zipIdx[i]?.map v).getD .non) (by rw [List.length_map]; exact hz) (fun i x Ha Hb hi ea y => ?_) (fun D H2 hD e2 hk => ?_)
  · obtain ⟨T, x1, x2, rfl, hT, rfl, h1, h2⟩ := y
    refine ⟨Evl.Ex.new hT, fun Qk k => ?_⟩
    cases h1
    replace h2 : (ls.map r)[i]? = some x2 := h2
    rw [List.getElem?_map] at h2
    cases q : ls[i]? with
    | none => rw [q] at h2; cases h2
    | some z =>
      rw [q] at h2
      cases h2
      have qz : ls.zipIdx[i]? = some (z, i) := by rw [List.getElem?_zipIdx, q]; simp
      refine ⟨T, _, rfl, SqT.of upd_same, rfl, _, _, rfl, _, _, rfl, rfl, ?_⟩
      refine k _ (hw _ _) ?_ ?_
      · simp only [qz]; exact ht i z q
      · simp only [qz]; exact fun hf => he i z q hf
  · rw [List.length_map, e] at hk
    exact hq D H2 hD e2 hk
theorem el_enum {α : Type} {ls : List α} {r : α → V} {a : Addr} {j1 j2 : Nat} (f : α × Nat → Bool) (v : α × Nat → V) (h : Ev tl σ H (.ref a)) (hx : SqL K H a (ls.map r)) (hz : ls.length ≤ 40000) (hw : ∀ x y, wipe (((wipe σ vs).set j1 (some x)).set j2 (some y)) vs = wipe σ vs)
    (ht : ∀ (k : Nat) y, ls[k]? = some y → ∀ H1, Ex H H1 → EvT t (((wipe σ vs).set j1 (some (.int (k : Int)))).set j2 (some (r y))) H1 (f (y, k)))
    (he : ∀ (k : Nat) y, ls[k]? = some y → ∀ H1, Ex H H1 → f (y, k) = true → Ev te (((wipe σ vs).set j1 (some (.int (k : Int)))).set j2 (some (r y))) H1 (v (y, k))) :
    EvL (tLc (iEnum K (tCons tl tNil)) (gTup K 2 (gCons (gName j1) (gCons (gName j2) gNil))) t te vs) σ H ((ls.zipIdx.filter f).map v) := by
  intro H0 e0 Q q
  refine h H0 e0 _ fun H1 e1 => ⟨a, _, rfl, Evl.ex_l (e0.trans e1) hx, ?_⟩
  exact lc_enum f v (Evl.ex_l (e0.trans e1) hx) hz hw (fun k y hy => ht k y hy H1 (e0.trans e1)) (fun k y hy hf => he k y hy H1 (e0.trans e1) hf) (fun D H2 hD e2 hk => q D H2 (Evl.fresh_back e1 hD) (e1.trans e2) hk)
theorem et_yes : EvT tYes σ H true := fun H1 _ _ q => q H1 (Ex.refl H1)
/-- a field of an instance -/
theorem ev_fld {ta : TE} {a C dx : Addr} {fs : List (Str × V)} {f : Str} {v : V} (h : Ev ta σ H (.ref a)) (ho : H a = some (.ins C dx fs)) (hc : Cls K C) (hn : NoAttr K C f) (hl : fs.lookup f = some v) : Ev (tFld K ta f) σ H v := fun H1 e Q q =>
  h H1 e _ fun H2 e2 => ⟨a, C, dx, fs, v, rfl, e2 _ _ (e _ _ ho), hc, hn, hl, q H2 e2⟩
/-- a method that hands back a value, changing nothing that stood -/
theorem ev_meth {ta : TE} {tA : TA} {a C dx : Addr} {fs : List (Str × V)} {m : Str} {sp : Sp} {vs' : List V} {z : V} (h : Ev ta σ H (.ref a)) (ho : H a = some (.ins C dx fs)) (hl : fs.lookup m = none) (hA : EvA tA σ H vs')
    (hs : ∀ H1, Ex H H1 → ∀ Q : VK, (∀ H2, Ex H1 H2 → Q z H2) → sp (.ref a :: vs') H1 Q E0) : Ev (tMeth C m sp [] E0 ta tA) σ H z := fun H1 e Q q =>
  h H1 e _ fun H2 e2 => ⟨a, dx, fs, rfl, e2 _ _ (e _ _ ho), hl, hA H2 (e.trans e2) _ fun H3 e3 => by
    rw [List.append_nil]
    exact hs H3 ((e.trans e2).trans e3) Q fun H4 e4 => q H4 ((e2.trans e3).trans e4)⟩
theorem ev_lenL {ta : TE} {p : Addr} {xs : List V} (ha : Ev ta σ H (.ref p)) (h : SqL K H p xs) : Ev (tCB (rLen K) (tCons ta tNil)) σ H (.int (xs.length : Int)) := fun H1 e Q q =>
  ha H1 e _ fun H2 e2 => ⟨p, xs, rfl, .inl (Evl.ex_l (e.trans e2) h), q H2 e2⟩
theorem el_meth {ta : TE} {tA : TA} {a C dx : Addr} {fs : List (Str × V)} {m : Str} {sp : Sp} {vs' xs : List V} (h : Ev ta σ H (.ref a)) (ho : H a = some (.ins C dx fs)) (hl : fs.lookup m = none) (hA : EvA tA σ H vs')
    (hs : ∀ H1, Ex H H1 → ∀ Q : VK, (∀ p H2, H1 p = none → Ex H1 H2 → H2 p = some (.lst xs) → Q (.ref p) H2) → sp (.ref a :: vs') H1 Q E0) : EvL (tMeth C m sp [] E0 ta tA) σ H xs := fun H1 e Q q =>
  h H1 e _ fun H2 e2 => ⟨a, dx, fs, rfl, e2 _ _ (e _ _ ho), hl, hA H2 (e.trans e2) _ fun H3 e3 => by
    rw [List.append_nil]
    exact hs H3 ((e.trans e2).trans e3) Q fun p H4 hp e4 h4 => q p H4 (Evl.fresh_back (e2.trans e3) hp) ((e2.trans e3).trans e4) h4⟩
theorem el_listOf {ta : TE} {a : Addr} {xs : List V} (h : Ev ta σ H (.ref a)) (hx : SqL K H a xs) : EvL (tCB (rListOf K) (tCons ta tNil)) σ H xs := fun H1 e Q q =>
  h H1 e _ fun H2 e2 => ⟨a, xs, rfl, .inl (Evl.ex_l (e.trans e2) hx), fun l hl => q l _ (Evl.fresh_back e2 hl) (e2.trans (Evl.Ex.new hl)) upd_same⟩
theorem eu_tupleOf {ta : TE} {a : Addr} {xs : List V} (h : Ev ta σ H (.ref a)) (hx : SqL K H a xs) : Evl.EvU (tCB (rTupleOf K) (tCons ta tNil)) σ H xs := fun H1 e Q q =>
  h H1 e _ fun H2 e2 => ⟨a, xs, rfl, .inl ⟨Evl.ex_l (e.trans e2) hx, fun l hl => q l _ (Evl.fresh_back e2 hl) (e2.trans (Evl.Ex.new hl)) upd_same⟩⟩
theorem ev_dget {td ty : TE} {a : Addr} {kvs : List (Key × V)} {k : Key} {v : V} (hd : Ev td σ H (.ref a)) (hy : Ev ty σ H (kV k)) (ha : H a = some (.dK kvs)) (hv : valV kvs k = some v) : Ev (tDGet td ty) σ H v := fun H1 e Q q =>
  hd H1 e _ fun H2 e2 => hy H2 (e.trans e2) _ fun H3 e3 => ⟨a, v, rfl, by
    have z := DGet.k (k := k) (((e.trans e2).trans e3) _ _ ha)
    rw [hv] at z
    exact z, q H3 (e2.trans e3)⟩
theorem et_dnotin {td ty : TE} {a : Addr} {kvs : List (Key × V)} {k : Key} (hd : Ev td σ H (.ref a)) (hy : Ev ty σ H (kV k)) (ha : H a = some (.dK kvs)) : EvT (tB (tDNotIn ty td)) σ H (!(valV kvs k).isSome) := fun H1 e Q q =>
  hy H1 e _ fun H2 e2 => hd H2 (e.trans e2) _ fun H3 e3 => ⟨a, valV kvs k, rfl, DGet.k (k := k) (((e.trans e2).trans e3) _ _ ha), _, rfl, q H3 (e2.trans e3)⟩
theorem ev_allN {ta : TE} {bs : List Bool} (h : EvL ta σ H (bs.map V.bl)) : Ev (tCB (rAll K) (tCons ta tNil)) σ H (.bl (bs.all id)) := fun H1 e Q q =>
  h H1 e _ fun p H2 _ e2 hp => ⟨p, bs, rfl, SqL.of hp, q H2 e2⟩
theorem ev_anyN {ta : TE} {bs : List Bool} (h : EvL ta σ H (bs.map V.bl)) : Ev (tCB (rAny K) (tCons ta tNil)) σ H (.bl (bs.any id)) := fun H1 e Q q =>
  h H1 e _ fun p H2 _ e2 hp => ⟨p, bs, rfl, SqL.of hp, q H2 e2⟩
theorem ev_sumN {ta : TE} {ns : List Int} (h : EvL ta σ H (ns.map V.int)) : Ev (tCB (rSum K) (tCons ta tNil)) σ H (.int ns.sum) := fun H1 e Q q =>
  h H1 e _ fun p H2 _ e2 hp => ⟨p, ns, rfl, SqL.of hp, q H2 e2⟩
theorem ev_sumL {ta : TE} {a : Addr} {ns : List Int} (h : Ev ta σ H (.ref a)) (ha : SqL K H a (ns.map V.int)) : Ev (tCB (rSum K) (tCons ta tNil)) σ H (.int ns.sum) := fun H1 e Q q =>
  h H1 e _ fun H2 e2 => ⟨a, ns, rfl, Evl.ex_l (e.trans e2) ha, q H2 e2⟩
theorem ev_chain {r r' : R2} {ta tb tc : TE} {x y z : V} {k k' : Bool} (ha : Ev ta σ H x) (hb : Ev tb σ H y) (hr : Evl.RV r x y H (.bl k)) (hc : k = true → Ev tc σ H z) (hr' : k = true → Evl.RV r' y z H (.bl k')) : Ev (tChain r r' ta tb tc) σ H (.bl (k && k')) := fun H1 e Q q =>
  ha H1 e _ fun H2 e2 => hb H2 (e.trans e2) _ fun H3 e3 => hr H3 ((e.trans e2).trans e3) _ fun H4 e4 => ⟨k, rfl, by
    cases k with
    | true => exact hc rfl H4 (((e.trans e2).trans e3).trans e4) _ fun H5 e5 => hr' rfl H5 ((((e.trans e2).trans e3).trans e4).trans e5) _ fun H6 e6 => q H6 ((((e2.trans e3).trans e4).trans e5).trans e6)
    | false => exact q H4 ((e2.trans e3).trans e4)⟩
theorem ev_chainLe {ta tb tc : TE} {a b c : Int} (ha : Ev ta σ H (.int a)) (hb : Ev tb σ H (.int b)) (hc : Ev tc σ H (.int c)) : Ev (tChain rLtE rLtE ta tb tc) σ H (.bl (decide (a ≤ b) && decide (b ≤ c))) :=
  ev_chain ha hb Evl.rv_I0 (fun _ => hc) (fun _ => Evl.rv_I0)
theorem ev_eqI {ta tb : TE} {a b : Int} (ha : Ev ta σ H (.int a)) (hb : Ev tb σ H (.int b)) : Ev (tOp rEq ta tb) σ H (.bl (decide (a = b))) :=
  Evl.ev_is (Evl.ev_op ha hb (Evl.rv_eq rfl)) (by rw [dec_int, Bool.beq_eq_decide_eq])
theorem ev_neI {ta tb : TE} {a b : Int} (ha : Ev ta σ H (.int a)) (hb : Ev tb σ H (.int b)) : Ev (tOp rNe ta tb) σ H (.bl (!decide (a = b))) :=
  Evl.ev_is (Evl.ev_op ha hb (Evl.rv_ne rfl)) (by rw [dec_int, Bool.beq_eq_decide_eq])
theorem ev_min2 {ta tb : TE} {a b : Int} (ha : Ev ta σ H (.int a)) (hb : Ev tb σ H (.int b)) : Ev (tCB rMin2 (tCons ta (tCons tb tNil))) σ H (.int (min a b)) := fun H1 e Q q =>
  ha H1 e _ fun H2 e2 => hb H2 (e.trans e2) _ fun H3 e3 => ⟨a, b, rfl, by
    have z : (if b < a then b else a) = min a b := by rw [Int.min_def]; split <;> split <;> omega
    rw [z]
    exact q H3 (e2.trans e3)⟩
theorem ev_max2 {ta tb : TE} {a b : Int} (ha : Ev ta σ H (.int a)) (hb : Ev tb σ H (.int b)) : Ev (tCB rMax2 (tCons ta (tCons tb tNil))) σ H (.int (max a b)) := fun H1 e Q q =>
  ha H1 e _ fun H2 e2 => hb H2 (e.trans e2) _ fun H3 e3 => ⟨a, b, rfl, by
    have z : (if b > a then b else a) = max a b := by rw [Int.max_def]; split <;> split <;> omega
    rw [z]
    exact q H3 (e2.trans e3)⟩
theorem el_is {te : TE} {xs ys : List V} (h : EvL te σ H xs) (e : xs = ys) : EvL te σ H ys := e ▸ h
theorem ea_one {ta : TE} {x : V} (h : Ev ta σ H x) : EvA (tCons ta tNil) σ H [x] := Evl.ea_cons h Evl.ea_nil
theorem ea_two {ta tb : TE} {x y : V} (h : Ev ta σ H x) (h2 : Ev tb σ H y) : EvA (tCons ta (tCons tb tNil)) σ H [x, y] := Evl.ea_cons h (Evl.ea_cons h2 Evl.ea_nil)
end
/-! ### parts of an office, read -/
section
variable {K : PySem.W.Frag} {mg : Str → Option Value} {σ : L2.St} {H : Hp} {ta tb : TE} {A : OA} {s : TimHaul.Office}
theorem evO_places (T : Txt K mg) (O : OffR K H A s) (h : Ev ta σ H (.ref A.a)) : Ev (tFld K ta "places") σ H (.int (s.n : Int)) := ev_fld h O.obj T.c_Office T.a_Office_places (lOffice_places _ _)
theorem evO_roads (T : Txt K mg) (O : OffR K H A s) (h : Ev ta σ H (.ref A.a)) : Ev (tFld K ta "roads") σ H (.ref A.lr) := ev_fld h O.obj T.c_Office T.a_Office_roads (lOffice_roads _ _)
theorem evO_limits (T : Txt K mg) (O : OffR K H A s) (h : Ev ta σ H (.ref A.a)) : Ev (tFld K ta "limits") σ H (.ref A.ll) := ev_fld h O.obj T.c_Office T.a_Office_limits (lOffice_limits _ _)
theorem evO_trucks (T : Txt K mg) (O : OffR K H A s) (h : Ev ta σ H (.ref A.a)) : Ev (tFld K ta "trucks") σ H (.ref A.lt) := ev_fld h O.obj T.c_Office T.a_Office_trucks (lOffice_trucks _ _)
theorem evO_lots (T : Txt K mg) (O : OffR K H A s) (h : Ev ta σ H (.ref A.a)) : Ev (tFld K ta "lots") σ H (.ref A.lo) := ev_fld h O.obj T.c_Office T.a_Office_lots (lOffice_lots _ _)
theorem evO_trips (T : Txt K mg) (O : OffR K H A s) (h : Ev ta σ H (.ref A.a)) : Ev (tFld K ta "trips") σ H (.ref A.lp) := ev_fld h O.obj T.c_Office T.a_Office_trips (lOffice_trips _ _)
theorem evO_nroads (T : Txt K mg) (O : OffR K H A s) (h : Ev ta σ H (.ref A.a)) : Ev (tCB (rLen K) (tCons (tFld K ta "roads") tNil)) σ H (.int (s.roads.length : Int)) := by
  have e := ev_lenL (K := K) (evO_roads T O h) (SqL.of O.lr)
  rwa [List.length_map, O.roads.1] at e
theorem evO_nlimits (T : Txt K mg) (O : OffR K H A s) (h : Ev ta σ H (.ref A.a)) : Ev (tCB (rLen K) (tCons (tFld K ta "limits") tNil)) σ H (.int (s.limits.length : Int)) := by
  have e := ev_lenL (K := K) (evO_limits T O h) (SqL.of O.ll)
  rwa [List.length_map, O.limits.1] at e
theorem evO_ntrucks (T : Txt K mg) (O : OffR K H A s) (h : Ev ta σ H (.ref A.a)) : Ev (tCB (rLen K) (tCons (tFld K ta "trucks") tNil)) σ H (.int (s.trucks.length : Int)) := by
  have e := ev_lenL (K := K) (evO_trucks T O h) (SqL.of O.lt)
  rwa [List.length_map, O.trucks.1] at e
theorem evO_nlots (T : Txt K mg) (O : OffR K H A s) (h : Ev ta σ H (.ref A.a)) : Ev (tCB (rLen K) (tCons (tFld K ta "lots") tNil)) σ H (.int (s.lots.length : Int)) := by
  have e := ev_lenL (K := K) (evO_lots T O h) (SqL.of O.lo)
  rwa [List.length_map, O.lots.1] at e
theorem evO_ntrips (T : Txt K mg) (O : OffR K H A s) (h : Ev ta σ H (.ref A.a)) : Ev (tCB (rLen K) (tCons (tFld K ta "trips") tNil)) σ H (.int (s.trips.length : Int)) := by
  have e := ev_lenL (K := K) (evO_trips T O h) (SqL.of O.lp)
  rwa [List.length_map, O.trips.1] at e
theorem ev_atL {K : PySem.W.Frag} {a : Addr} {as : List Addr} {i : Nat} {p : Addr} (h : Ev ta σ H (.ref a)) (hi : Ev tb σ H (.int (i : Int))) (hl : H a = some (.lst (as.map V.ref))) (hp : as[i]? = some p) : Ev (tOp (rIxL K) ta tb) σ H (.ref p) :=
  Evl.ev_op h hi (Evl.rv_ixL (SqL.of hl) (atI_nat (refs_at hp)))
theorem lot_get {s : TimHaul.Office} {i : Nat} (h : i < s.lots.length) : s.lots[i]? = some (s.lot i) := by
  unfold TimHaul.Office.lot
  rw [List.getD_eq_getElem?_getD, List.getElem?_eq_getElem h]
  rfl
theorem truck_get {s : TimHaul.Office} {i : Nat} (h : i < s.trucks.length) : s.trucks[i]? = some (s.truck i) := by
  unfold TimHaul.Office.truck
  rw [List.getD_eq_getElem?_getD, List.getElem?_eq_getElem h]
  rfl
theorem OffG.lotp (O : OffR K H A s) {i : Nat} (h : i < s.lots.length) : ∃ p dx, A.ro[i]? = some p ∧ H p = some (.ins (He.ga K "Lot") dx (fLot (s.lot i))) := by
  obtain ⟨p, hp, dx, q⟩ := O.lots.2 i _ (lot_get h)
  exact ⟨p, dx, hp, q⟩
theorem OffG.truckp (O : OffR K H A s) {i : Nat} (h : i < s.trucks.length) : ∃ p dx, A.rt[i]? = some p ∧ H p = some (.ins (He.ga K "Truck") dx (fTruck (s.truck i))) := by
  obtain ⟨p, hp, dx, q⟩ := O.trucks.2 i _ (truck_get h)
  exact ⟨p, dx, hp, q⟩
theorem OffG.roadp (O : OffR K H A s) {i : Nat} {r : TimHaul.Road} (h : s.roads[i]? = some r) : ∃ p dx, A.rr[i]? = some p ∧ H p = some (.ins (He.ga K "Road") dx (fRoad r)) := by
  obtain ⟨p, hp, dx, q⟩ := O.roads.2 i _ h
  exact ⟨p, dx, hp, q⟩
end
theorem ite_t {c : Bool} {A B : Prop} (hc : c = true) (h : A) : if c = true then A else B := by
  rw [if_pos hc]
  exact h
theorem ite_f {c : Bool} {A B : Prop} (hc : c = false) (h : B) : if c = true then A else B := by
  rw [hc, if_neg Bool.false_ne_true]
  exact h
theorem cast_min (a b : Nat) : ((min a b : Nat) : Int) = min (a : Int) (b : Int) := by omega
theorem nv_map (l : List Nat) : nv l = l.map fun n : Nat => V.int (n : Int) := rfl
theorem filter_yes {α : Type} (l : List α) : l.filter (fun _ => true) = l := by simp
end Th
namespace Th
open PySem PySem.Spec PyProof.Rows L2
open Evl (Ex Ev EvT EvL EvA given)
open TimHaul (before)
/-! ### < of tuples that hold rows -/
def rLtD (K : PySem.W.Frag) : R2 := fun x y H Q => ∃ d e, Dp K H x d ∧ Dp K H y e ∧ PySem.W.alike d e = true ∧ d ≠ .none ∧ d.depth ≤ 60 ∧ Q (.bl (PySem.W.dataLt d e)) H
theorem op_ltD {X : Cx} (hu : X.A.units + 64 < cLine) : OpR X (compareOp .Lt) (rLtD X.K) := by
  intro pins s σ H x y v u Q I rx ry h
  obtain ⟨d, e, hd, he, ha, hn, hdp, q⟩ := h
  obtain ⟨as, r1⟩ := Dp.reads I d x v hd rx
  obtain ⟨bs, r2⟩ := Dp.reads I e y u he ry
  have hm : min d.depth e.depth ≤ d.depth := Nat.min_le_left _ _
  exact PySem.W.rcLt_alike d e X.A s v u as bs r1 r2 ha hn (by omega) X.prog X.w X.xe _ ⟨.bl _, H, I, rfl, q⟩
/-! ### rows and tuples of numbers as data -/
def dInts (l : List Nat) : List PyData := l.map fun n : Nat => PyData.int (n : Int)
def dTup (a b : Nat) (l : List Nat) : PyData := .tuple [.int (a : Int), .int (b : Int), .list (dInts l)]
theorem alike_ints : ∀ l l' : List Nat, PySem.W.alikeAll (dInts l) (dInts l') = true
  | [], _ => by simp [dInts, PySem.W.alikeAll]
  | _ :: _, [] => by simp [dInts, PySem.W.alikeAll]
  | x :: l, y :: l' => by
    have ih := alike_ints l l'
    show PySem.W.alikeAll (PyData.int (x : Int) :: dInts l) (PyData.int (y : Int) :: dInts l') = true
    rw [PySem.W.alikeAll, ih]
    simp [PySem.W.alike]
theorem alike_tup (a b a' b' : Nat) (l l' : List Nat) : PySem.W.alike (dTup a b l) (dTup a' b' l') = true := by
  have h := alike_ints l l'
  simp [dTup, PySem.W.alike, PySem.W.alikeAll, h]
theorem toks_int (i : Int) (xs : List PyData) : PySem.W.keyToksAll (.int i :: xs) = .inl 1 :: .inl i :: PySem.W.keyToksAll xs := by
  rw [PySem.W.keyToksAll]
  simp [PySem.W.keyToks]
theorem lex_step (i j : Int) (l m : List (Int ⊕ List Nat)) : PyProof.Rows.lexLt PyProof.Rows.itemOrd (.inl i :: l) (.inl j :: m) = (decide (i < j) || (decide (i = j) && PyProof.Rows.lexLt PyProof.Rows.itemOrd l m)) := by
  rw [PyProof.Rows.lex_cons]
  show (decide (i < j) || (!decide (j < i) && _)) = _
  rcases Int.lt_trichotomy i j with h | h | h
  · simp [h]
  · subst h; simp
  · have h1 : ¬ i < j := by omega
    have h2 : ¬ i = j := by omega
    simp [h, h1, h2]
theorem before_step (x y : Nat) (r t : List Nat) : before (x :: r) (y :: t) = (decide ((x : Int) < (y : Int)) || (decide ((x : Int) = (y : Int)) && before r t)) := by
  show (decide (x < y) || (x == y && before r t)) = _
  have e1 : decide (x < y) = decide ((x : Int) < (y : Int)) := decide_eq_decide.mpr (by omega)
  have e2 : (x == y) = decide ((x : Int) = (y : Int)) := by rw [Bool.beq_eq_decide_eq]; exact decide_eq_decide.mpr (by omega)
  rw [e1, e2]
theorem lex_ints (X Y : List (Int ⊕ List Nat)) : ∀ l l' : List Nat, PyProof.Rows.lexLt PyProof.Rows.itemOrd (PySem.W.keyToksAll (dInts l) ++ X) (PySem.W.keyToksAll (dInts l') ++ Y) = (before l l' || (decide (l = l') && PyProof.Rows.lexLt PyProof.Rows.itemOrd X Y))
  | [], [] => by
    show PyProof.Rows.lexLt PyProof.Rows.itemOrd (.inl 0 :: X) (.inl 0 :: Y) = _
    rw [lex_step]
    simp [before]
  | [], y :: l' => by
    show PyProof.Rows.lexLt PyProof.Rows.itemOrd (PySem.W.keyToksAll [] ++ X) (PySem.W.keyToksAll (.int (y : Int) :: dInts l') ++ Y) = _
    rw [toks_int]
    show PyProof.Rows.lexLt PyProof.Rows.itemOrd (.inl 0 :: X) (.inl 1 :: _) = _
    rw [lex_step]
    simp [before]
  | x :: l, [] => by
    show PyProof.Rows.lexLt PyProof.Rows.itemOrd (PySem.W.keyToksAll (.int (x : Int) :: dInts l) ++ X) (PySem.W.keyToksAll [] ++ Y) = _
    rw [toks_int]
    show PyProof.Rows.lexLt PyProof.Rows.itemOrd (.inl 1 :: _) (.inl 0 :: Y) = _
    rw [lex_step]
    simp [before]
  | x :: l, y :: l' => by
    show PyProof.Rows.lexLt PyProof.Rows.itemOrd (PySem.W.keyToksAll (.int (x : Int) :: dInts l) ++ X) (PySem.W.keyToksAll (.int (y : Int) :: dInts l') ++ Y) = _
    rw [toks_int, toks_int]
    show PyProof.Rows.lexLt PyProof.Rows.itemOrd (.inl 1 :: .inl (x : Int) :: (PySem.W.keyToksAll (dInts l) ++ X)) (.inl 1 :: .inl (y : Int) :: (PySem.W.keyToksAll (dInts l') ++ Y)) = _
    rw [lex_step, lex_step, lex_ints X Y l l', before_step]
    by_cases h : (x : Int) = (y : Int)
    · have h' : x = y := by omega
      subst h'
      simp
    · have h' : ¬ x = y := by omega
      simp [h, h']
theorem lt_tup (a b a' b' : Nat) (l l' : List Nat) : PySem.W.dataLt (dTup a b l) (dTup a' b' l') = before (a :: b :: l) (a' :: b' :: l') := by
  unfold dTup
  rw [PySem.W.dataLt_tuple, toks_int, toks_int, toks_int, toks_int, lex_step, lex_step, lex_step, lex_step, before_step, before_step, PySem.W.toks_all_cons, PySem.W.toks_all_cons]
  show _ = _
  have e : PyProof.Rows.lexLt PyProof.Rows.itemOrd (.inl 1 :: (PySem.W.keyToks (.list (dInts l)) ++ PySem.W.keyToksAll [])) (.inl 1 :: (PySem.W.keyToks (.list (dInts l')) ++ PySem.W.keyToksAll [])) = before l l' := by
    rw [lex_step]
    have e1 : ∀ z : List Nat, PySem.W.keyToks (.list (dInts z)) = PySem.W.keyToksAll (dInts z) := fun z => by simp [PySem.W.keyToks]
    rw [e1, e1, lex_ints, PyProof.Rows.lex_irrefl]
    simp
  rw [e]
  simp
theorem depth_ints : ∀ l : List Nat, PyData.depthAll (dInts l) ≤ 1
  | [] => by simp [dInts, PyData.depthAll]
  | x :: l => by
    have ih := depth_ints l
    show PyData.depthAll (PyData.int (x : Int) :: dInts l) ≤ 1
    simp [PyData.depthAll, PyData.depth]
    omega
theorem depth_tup (a b : Nat) (l : List Nat) : (dTup a b l).depth ≤ 5 := by
  have h := depth_ints l
  simp [dTup, PyData.depth, PyData.depthAll]
  omega
theorem lay_ints : ∀ l : List Nat, PyData.canLayAll0 (dInts l) = true
  | [] => by simp [dInts, PyData.canLayAll0]
  | x :: l => by
    have ih := lay_ints l
    show PyData.canLayAll0 (PyData.int (x : Int) :: dInts l) = true
    simp [PyData.canLayAll0, PyData.canLay0, ih]
theorem lay_tup (a b : Nat) (l : List Nat) : (dTup a b l).canLay0 = true := by
  have h := lay_ints l
  simp [dTup, PyData.canLay0, PyData.canLayAll0, h]
theorem eqv_ints : ∀ l l' : List Nat, PyData.eqvAll (dInts l) (dInts l') = decide (l = l')
  | [], [] => by simp [dInts, PyData.eqvAll]
  | [], _ :: _ => by simp [dInts, PyData.eqvAll]
  | _ :: _, [] => by simp [dInts, PyData.eqvAll]
  | x :: l, y :: l' => by
    have ih := eqv_ints l l'
    show PyData.eqvAll (PyData.int (x : Int) :: dInts l) (PyData.int (y : Int) :: dInts l') = _
    rw [PySem.W.eqv_all_cons, ih]
    simp only [PyData.eqv]
    by_cases h : x = y
    · subst h; simp
    · have h' : ¬ (x : Int) = (y : Int) := by omega
      simp [h, h']
theorem eqv_tup (a b a' b' : Nat) (l l' : List Nat) : PyData.eqv (dTup a b l) (dTup a' b' l') = decide (a :: b :: l = a' :: b' :: l') := by
  unfold dTup
  have e := eqv_ints l l'
  simp only [PyData.eqv, PyData.eqvAll, e]
  by_cases h1 : a = a'
  · subst h1
    by_cases h2 : b = b'
    · subst h2; simp
    · have h' : ¬ (b : Int) = (b' : Int) := by omega
      simp [h2, h']
  · have h' : ¬ (a : Int) = (a' : Int) := by omega
    simp [h1, h']
/-! ### tables of rows that may be none -/
def dOpt : Option (List Nat) → PyData
  | some (a :: b :: l) => dTup a b l
  | _ => .none
def Two (o : Option (List Nat)) : Prop := ∀ d, o = some d → ∃ a b l, d = a :: b :: l
theorem eqv_opt {o o' : Option (List Nat)} (h : Two o) (h' : Two o') : PyData.eqv (dOpt o) (dOpt o') = decide (o = o') := by
  cases o with
  | none =>
    cases o' with
    | none => simp [dOpt, PyData.eqv]
    | some d' =>
      obtain ⟨a, b, l, rfl⟩ := h' d' rfl
      simp [dOpt, dTup, PyData.eqv]
  | some d =>
    obtain ⟨a, b, l, rfl⟩ := h d rfl
    cases o' with
    | none => simp [dOpt, dTup, PyData.eqv]
    | some d' =>
      obtain ⟨a', b', l', rfl⟩ := h' d' rfl
      show PyData.eqv (dTup a b l) (dTup a' b' l') = _
      rw [eqv_tup]
      simp
theorem eqv_tab : ∀ {t t' : List (Option (List Nat))}, (∀ o ∈ t, Two o) → (∀ o ∈ t', Two o) → PyData.eqvAll (t.map dOpt) (t'.map dOpt) = decide (t = t')
  | [], [], _, _ => by simp [PyData.eqvAll]
  | [], _ :: _, _, _ => by simp [PyData.eqvAll]
  | _ :: _, [], _, _ => by simp [PyData.eqvAll]
  | o :: t, o' :: t', h, h' => by
    have ih := eqv_tab (t := t) (t' := t') (fun o m => h o (List.mem_cons_of_mem _ m)) (fun o m => h' o (List.mem_cons_of_mem _ m))
    rw [List.map_cons, List.map_cons, PySem.W.eqv_all_cons, ih, eqv_opt (h o List.mem_cons_self) (h' o' List.mem_cons_self)]
    by_cases e1 : o = o'
    · subst e1; simp
    · simp [e1]
theorem depth_opt (o : Option (List Nat)) : (dOpt o).depth ≤ 5 := by
  unfold dOpt
  split
  · exact depth_tup _ _ _
  · simp [PyData.depth]
theorem lay_opt (o : Option (List Nat)) : (dOpt o).canLay0 = true := by
  unfold dOpt
  split
  · exact lay_tup _ _ _
  · simp [PyData.canLay0]
theorem depth_tab : ∀ t : List (Option (List Nat)), PyData.depthAll (t.map dOpt) ≤ 5
  | [] => by simp [PyData.depthAll]
  | o :: t => by
    have ih := depth_tab t
    have h := depth_opt o
    rw [List.map_cons]
    simp [PyData.depthAll]
    omega
theorem lay_tab : ∀ t : List (Option (List Nat)), PyData.canLayAll0 (t.map dOpt) = true
  | [] => by simp [PyData.canLayAll0]
  | o :: t => by
    have ih := lay_tab t
    have h := lay_opt o
    rw [List.map_cons]
    simp [PyData.canLayAll0, ih, h]
theorem shaped_tab (t : List (Option (List Nat))) : SeqAt.shaped (.list (t.map dOpt)) = true := by
  have h1 := depth_tab t
  have h2 := lay_tab t
  unfold SeqAt.shaped
  simp [PyData.canLay0, PyData.depth, h2]
  omega
/-! ### drives in the heap -/
def AllV {α : Type} (R : V → α → Prop) (vs : List V) (xs : List α) : Prop := vs.length = xs.length ∧ ∀ (i : Nat) (x : α), xs[i]? = some x → ∃ v, vs[i]? = some v ∧ R v x
theorem AllV.mono {α : Type} {R S : V → α → Prop} {vs : List V} {xs : List α} (h : AllV R vs xs) (f : ∀ v x, R v x → S v x) : AllV S vs xs :=
  ⟨h.1, fun i x e => let ⟨v, e1, r⟩ := h.2 i x e; ⟨v, e1, f v x r⟩⟩
theorem AllV.set {α : Type} {R : V → α → Prop} {vs : List V} {xs : List α} {j : Nat} {v : V} {x : α} (h : AllV R vs xs) (r : R v x) : AllV R (vs.set j v) (xs.set j x) := by
  refine ⟨by rw [List.length_set, List.length_set]; exact h.1, fun i y e => ?_⟩
  by_cases hij : j = i
  · subst hij
    rw [List.getElem?_set] at e ⊢
    by_cases hl : j < xs.length
    · rw [if_pos rfl, if_pos hl] at e
      cases e
      exact ⟨v, by rw [if_pos rfl, if_pos (by rw [h.1]; exact hl)], r⟩
    · rw [if_pos rfl, if_neg hl] at e
      cases e
  · rw [List.getElem?_set_ne hij] at e ⊢
    exact h.2 i y e
/-- a row of two numbers and more, as a tuple of the two and a list of the others; none: None -/
def DrvAt (H : Hp) (v : V) : Option (List Nat) → Prop
  | none => v = .non
  | some d => ∃ p l a b r, d = a :: b :: r ∧ v = .ref p ∧ H p = some (.tup [.int (a : Nat), .int (b : Nat), .ref l]) ∧ H l = some (.lst (nv r))
theorem DrvAt.mono {H H' : Hp} {v : V} {o : Option (List Nat)} (h : DrvAt H v o) (e : ExD H H') : DrvAt H' v o := by
  cases o with
  | none => exact h
  | some d =>
    obtain ⟨p, l, a, b, r, h1, h2, h3, h4⟩ := h
    exact ⟨p, l, a, b, r, h1, h2, e _ _ h3 rfl, e _ _ h4 rfl⟩
theorem DrvAt.ex {H H' : Hp} {v : V} {o : Option (List Nat)} (h : DrvAt H v o) (e : Ex H H') : DrvAt H' v o := h.mono (exD_of e)
theorem DrvAt.two {H : Hp} {v : V} {o : Option (List Nat)} (h : DrvAt H v o) : Two o := fun d e => by
  subst e
  obtain ⟨_, _, a, b, r, h1, _⟩ := h
  exact ⟨a, b, r, h1⟩
theorem dp_ints {K : PySem.W.Frag} {H : Hp} : ∀ l : List Nat, DpAll K H (nv l) (dInts l)
  | [] => .nil
  | x :: l => .cons (.int _) (dp_ints l)
theorem DrvAt.dp {K : PySem.W.Frag} {H : Hp} {v : V} {o : Option (List Nat)} (h : DrvAt H v o) : Dp K H v (dOpt o) := by
  cases o with
  | none =>
    have e : v = .non := h
    subst e
    exact .non
  | some d =>
    obtain ⟨p, l, a, b, r, rfl, rfl, h3, h4⟩ := h
    exact .tup (SqT.of h3) (.cons (.int _) (.cons (.int _) (.cons (.lst (SqL.of h4) (dp_ints r)) .nil)))
theorem dp_all {K : PySem.W.Frag} {H : Hp} : ∀ {vs : List V} {t : List (Option (List Nat))}, AllV (DrvAt H) vs t → DpAll K H vs (t.map dOpt)
  | [], [], _ => .nil
  | [], _ :: _, h => by cases h.1
  | _ :: _, [], h => by cases h.1
  | v :: vs, o :: t, h => by
    obtain ⟨v', e, r⟩ := h.2 0 o rfl
    cases e
    exact .cons r.dp (dp_all ⟨by have := h.1; simp at this; exact this, fun i x e => h.2 (i + 1) x e⟩)
theorem AllV.two {H : Hp} {vs : List V} {t : List (Option (List Nat))} (h : AllV (DrvAt H) vs t) : ∀ o ∈ t, Two o := fun o m => by
  obtain ⟨i, e⟩ := List.getElem?_of_mem m
  obtain ⟨v, _, r⟩ := h.2 i o e
  exact r.two
theorem del_mono {H H' : Hp} {a : Addr} (e : Ex H H') : Ex (del H a) (del H' a) := fun b o h => by
  obtain ⟨h1, h2⟩ := del_some h
  rw [del_ne h2]
  exact e b o h1
theorem del_upd {H : Hp} {a : Addr} {o : HO} : del (upd H a o) a = del H a := by
  funext b
  unfold del upd
  by_cases e : b = a
  · rw [if_pos e, if_pos e]
  · rw [if_neg e, if_neg e, if_neg e]
theorem del_of {G H : Hp} {a : Addr} (h : G a = none) (e : Ex G H) : Ex G (del H a) := ex_del h e
/-! ### how long a drive's row is -/
def Bnd (t : Tab) (b : Nat) : Prop := ∀ o ∈ t, ∀ d, o = some d → d.length ≤ b
theorem Bnd.mono {t : Tab} {b c : Nat} (h : Bnd t b) (e : b ≤ c) : Bnd t c := fun o m d q => Nat.le_trans (h o m d q) e
theorem Bnd.at {t : Tab} {b p : Nat} {d : List Nat} (h : Bnd t b) (e : at' t p = some d) : d.length ≤ b := by
  have e' : t.getD p none = some d := e
  rw [List.getD_eq_getElem?_getD] at e'
  cases q : t[p]? with
  | none => rw [q] at e'; cases e'
  | some o =>
    rw [q] at e'
    exact h o (List.mem_of_getElem? q) d e'
theorem ext_len {d : List Nat} (k m : Nat) (h : 2 ≤ d.length) : (ext d k m).length = d.length + 1 := by
  unfold ext
  simp
  omega
theorem set_mem {α : Type} {l : List α} {j : Nat} {x y : α} (h : y ∈ l.set j x) : y ∈ l ∨ y = x := by
  rcases List.mem_or_eq_of_mem_set h with h | h
  · exact .inl h
  · exact .inr h
theorem offer_bnd {t : Tab} {h j k m b : Nat} (ht : ∀ o ∈ t, Two o) (hb : Bnd t b) (hj : j < t.length) : Bnd (offer t h j k m) (b + 1) := by
  rcases offer_cases (h := h) (k := k) (m := m) hj with ⟨e, _⟩ | ⟨d, hd, e, _⟩
  · rw [e]; exact hb.mono (Nat.le_succ _)
  · rw [e]
    intro o mo d' q
    rcases set_mem mo with z | z
    · exact Nat.le_succ_of_le (hb o z d' q)
    · subst q
      cases z
      have h2 : 2 ≤ d.length := by
        have e' : t.getD h none = some d := hd
        rw [List.getD_eq_getElem?_getD] at e'
        cases q : t[h]? with
        | none => rw [q] at e'; cases e'
        | some o =>
          rw [q] at e'
          obtain ⟨a, b, l, rfl⟩ := ht o (List.mem_of_getElem? q) d e'
          simp
      rw [ext_len _ _ h2]
      exact Nat.succ_le_succ (hb.at hd)
theorem offer_two {t : Tab} {h j k m : Nat} (ht : ∀ o ∈ t, Two o) (hj : j < t.length) : ∀ o ∈ offer t h j k m, Two o := by
  rcases offer_cases (h := h) (k := k) (m := m) hj with ⟨e, _⟩ | ⟨d, hd, e, _⟩
  · rw [e]; exact ht
  · rw [e]
    intro o mo
    rcases set_mem mo with z | z
    · exact ht o z
    · subst z
      intro d' q
      cases q
      exact ⟨_, _, _, rfl⟩
theorem spread_bnd {n : Nat} : ∀ (u : U) (t : Tab) (b : Nat), (∀ y ∈ u, y.2.a < n ∧ y.2.b < n) → t.length = n → (∀ o ∈ t, Two o) → Bnd t b → Bnd (spread u t) (b + 2 * u.length) ∧ (spread u t).length = n ∧ ∀ o ∈ spread u t, Two o
  | [], t, b, _, hl, ht, hb => ⟨hb, hl, ht⟩
  | (k, x) :: u, t, b, hu, hl, ht, hb => by
    obtain ⟨ha, hbb⟩ := hu _ List.mem_cons_self
    have b1 : Bnd (offer t x.a x.b k x.metres) (b + 1) := offer_bnd ht hb (by rw [hl]; exact hbb)
    have t1 := offer_two (h := x.a) (j := x.b) (k := k) (m := x.metres) ht (by rw [hl]; exact hbb)
    have l1 : (offer t x.a x.b k x.metres).length = n := by rw [offer_len, hl]
    have b2 := offer_bnd (h := x.b) (j := x.a) (k := k) (m := x.metres) t1 b1 (by rw [l1]; exact ha)
    have t2 := offer_two (h := x.b) (j := x.a) (k := k) (m := x.metres) t1 (by rw [l1]; exact ha)
    obtain ⟨r1, r2, r3⟩ := spread_bnd u _ _ (fun y m => hu y (List.mem_cons_of_mem _ m)) (by rw [offer_len, l1]) t2 b2
    refine ⟨r1.mono ?_, r2, r3⟩
    rw [List.length_cons]
    omega
theorem spread_cons (k : Nat) (x : TimHaul.Road) (u : U) (t : Tab) : spread ((k, x) :: u) t = spread u (offer (offer t x.a x.b k x.metres) x.b x.a k x.metres) := rfl
theorem spread_snoc (u : U) (k : Nat) (x : TimHaul.Road) (t : Tab) : spread (u ++ [(k, x)]) t = offer (offer (spread u t) x.a x.b k x.metres) x.b x.a k x.metres := by
  unfold spread
  rw [List.foldl_append]
  rfl
theorem init0_set {n a : Nat} (h : a < n) : (List.replicate n (none : Option (List Nat))).set a (some [0, 0]) = init0 n a := by
  refine List.ext_getElem? fun p => ?_
  rw [List.getElem?_set]
  unfold init0
  rw [List.getElem?_map, List.getElem?_replicate, List.length_replicate]
  by_cases hp : p < n
  · rw [List.getElem?_range hp, if_pos hp]
    by_cases e : a = p
    · rw [if_pos e, if_pos h]
      simp [e]
    · rw [if_neg e]
      simp [Ne.symm e]
  · rw [List.getElem?_eq_none (by simp; omega), if_neg hp, if_neg (by omega)]
    rfl
/-- the roads by their numbers -/
def uOf (s : TimHaul.Office) (ks : List Nat) : U := ks.map fun k => (k, s.roads.getD k ⟨0, 0, 0, 0⟩)
end Th
namespace Th
open PySem PySem.Spec PyProof.Rows L2
open Evl (Ex Ev EvT EvL EvA given)
/-! ### the module's dicts with whole numbers for keys -/
structure WDict (K : PySem.W.Frag) (a : Addr) (kvs : List (Int × Value)) : Prop where
  d : dictI K a = some kvs
  nd : (kvs.map (·.1)).Nodup
theorem ents_pairs {PP : Program} {w : World} : ∀ {es : List DictEntry} {kvs : List (Int × Value)}, entsI es = some kvs → PySem.Pairs (intKind PP w) es kvs ∧ ∀ e ∈ es, ∃ k, (intKind PP w).is k e.key = true ∧ e.hash = (intKind PP w).hash k
  | [], kvs, h => by
    cases h
    exact ⟨.nil, fun e m => by simp at m⟩
  | e :: es, kvs, h => by
    obtain ⟨hash, key, val⟩ := e
    cases key with
    | int i t =>
      have h' : (match decide (hash = hashInt i) with
        | true => (match entsI es with
          | some l => some ((i, val) :: l)
          | none => none)
        | false => none) = some kvs := h
      by_cases c : hash = hashInt i
      · rw [decide_eq_true c] at h'
        cases q : entsI es with
        | none => rw [q] at h'; cases h'
        | some l =>
          rw [q] at h'
          cases h'
          obtain ⟨p1, p2⟩ := ents_pairs (PP := PP) (w := w) q
          refine ⟨.cons (intKind_is _ _ _ _) rfl p1, fun e m => ?_⟩
          rcases List.mem_cons.mp m with rfl | m
          · exact ⟨i, intKind_is _ _ _ _, c⟩
          · exact p2 e m
      · rw [decide_eq_false c] at h'
        cases h'
    | _ => cases h
theorem WDict.of {PP : Program} {w : World} {K : PySem.W.Frag} {h : Heap} {a : Addr} {kvs : List (Int × Value)} (x : WDict K a kvs) (X : K.In h) : h.DictOf (intKind PP w) a kvs ∧ (a == sysModules) = false := by
  obtain ⟨hd, nd⟩ := x
  unfold dictI at hd
  cases q : K.lookup a with
  | none => rw [q] at hd; cases hd
  | some o =>
    obtain ⟨oc, od, dt, osl⟩ := o
    rw [q] at hd
    cases oc with
    | type c =>
      cases od with
      | none =>
        cases dt with
        | dict es ep =>
          have hd' : (match decide (c = "dict") && (osl.isEmpty && !(a == sysModules)) with
            | true => entsI es.toList
            | false => none) = some kvs := hd
          cases cc : decide (c = "dict") && (osl.isEmpty && !(a == sysModules)) with
          | false => rw [cc] at hd'; cases hd'
          | true =>
            rw [cc] at hd'
            rw [Bool.and_eq_true, Bool.and_eq_true] at cc
            obtain ⟨c1, c2, c3⟩ := cc
            obtain ⟨p1, p2⟩ := ents_pairs (PP := PP) (w := w) hd'
            have e1 : c = "dict" := of_decide_eq_true c1
            have e2 : osl = #[] := Array.isEmpty_iff.mp c2
            refine ⟨⟨_, es, ep, X a _ q, ⟨by rw [e1], rfl, by rw [e2]⟩, rfl, fun e m => p2 e (Array.mem_toList_iff.mpr m), p1, nd⟩, by simpa using c3⟩
        | _ => cases hd
      | some z => cases dt <;> cases hd
    | _ => cases od <;> cases dt <;> cases hd
def rInW (K : PySem.W.Frag) : R2 := fun x y H Q => ∃ (a : Addr) (i : Int) (kvs : List (Int × Value)), x = .int i ∧ y = .ref a ∧ WDict K a kvs ∧ Q (.bl (valueAt kvs i).isSome) H
def rNotInW (K : PySem.W.Frag) : R2 := fun x y H Q => ∃ (a : Addr) (i : Int) (kvs : List (Int × Value)), x = .int i ∧ y = .ref a ∧ WDict K a kvs ∧ Q (.bl (!(valueAt kvs i).isSome)) H
def rIxW (K : PySem.W.Frag) : R2 := fun x y H Q => ∃ (a : Addr) (i : Int) (kvs : List (Int × Value)) (u : Value) (v : V), x = .ref a ∧ y = .int i ∧ WDict K a kvs ∧ valueAt kvs i = some u ∧ RelV v u ∧ Q v H
theorem op_inW {X : Cx} : OpR X (compareOp .In) (rInW X.K) := by
  intro pins s σ H x y v u Q I rx ry h
  obtain ⟨a, i, kvs, rfl, rfl, wd, q⟩ := h
  obtain ⟨t, rfl⟩ := rx
  cases ry
  obtain ⟨dd, hd⟩ := wd.of (PP := X.prog) (w := X.w) I.kIn
  exact wpAny_in_of (intKind_is _ _ _ _) hd dd.mapOf ⟨.bl _, H, I.tok _, rfl, q⟩
theorem op_notInW {X : Cx} : OpR X (compareOp .NotIn) (rNotInW X.K) := by
  intro pins s σ H x y v u Q I rx ry h
  obtain ⟨a, i, kvs, rfl, rfl, wd, q⟩ := h
  obtain ⟨t, rfl⟩ := rx
  cases ry
  obtain ⟨dd, hd⟩ := wd.of (PP := X.prog) (w := X.w) I.kIn
  exact wpAny_notIn_of (intKind_is _ _ _ _) hd dd.mapOf ⟨.bl _, H, I.tok _, rfl, q⟩
theorem ix_wdict {X : Cx} : IxR X (rIxW X.K) := by
  intro value slice pins s σ H x y v u Q I rx ry h hs
  obtain ⟨a, i, kvs, u0, r, rfl, rfl, wd, hv, ru, q⟩ := h
  cases rx
  obtain ⟨t, rfl⟩ := ry
  obtain ⟨dd, hd⟩ := wd.of (PP := X.prog) (w := X.w) I.kIn
  exact tail_any dd.mapOf.typeIs slot_dict_getitem.lookup (wpAny_getItem_of (intKind_is _ _ _ _) dd.mapOf hv ⟨r, H, I.tok _, ru, q⟩) hs
theorem ev_inW {K : PySem.W.Frag} {σ : L2.St} {H : Hp} {ta tb : TE} {a : Addr} {i : Int} {kvs : List (Int × Value)} (h1 : Ev ta σ H (.int i)) (h2 : Ev tb σ H (.ref a)) (wd : WDict K a kvs) : Ev (tOp (rInW K) ta tb) σ H (.bl (valueAt kvs i).isSome) :=
  Evl.ev_op h1 h2 (Evl.rv_val fun H1 _ Q q => ⟨a, i, kvs, rfl, rfl, wd, q⟩)
theorem ev_notInW {K : PySem.W.Frag} {σ : L2.St} {H : Hp} {ta tb : TE} {a : Addr} {i : Int} {kvs : List (Int × Value)} (h1 : Ev ta σ H (.int i)) (h2 : Ev tb σ H (.ref a)) (wd : WDict K a kvs) : Ev (tOp (rNotInW K) ta tb) σ H (.bl (!(valueAt kvs i).isSome)) :=
  Evl.ev_op h1 h2 (Evl.rv_val fun H1 _ Q q => ⟨a, i, kvs, rfl, rfl, wd, q⟩)
theorem ev_ixW {K : PySem.W.Frag} {σ : L2.St} {H : Hp} {ta tb : TE} {a : Addr} {i : Int} {kvs : List (Int × Value)} {u : Value} {v : V} (h1 : Ev ta σ H (.ref a)) (h2 : Ev tb σ H (.int i)) (wd : WDict K a kvs) (hv : valueAt kvs i = some u) (r : RelV v u) : Ev (tOp (rIxW K) ta tb) σ H v :=
  Evl.ev_op h1 h2 (Evl.rv_val fun H1 _ Q q => ⟨a, i, kvs, u, v, rfl, rfl, wd, hv, r, q⟩)

/-! ### a dict whose keys are a number and a tuple of numbers -/
abbrev NK := Nat × List Nat
def nkey (k : NK) : NestedKey := .tup [.num (k.1 : Int), .tup (k.2.map fun n : Nat => NestedKey.num (n : Int))]
def nhash (k : NK) : Int := reduceHash (Builtin.Tuple.tupleHashOf [hashInt (k.1 : Int), reduceHash (Builtin.Tuple.tupleHashOf (k.2.map fun n : Nat => hashInt (n : Int)))])
def nEnt (x : NK × Addr × Addr) : DictEntry := ⟨nhash x.1, .ref x.2.1, .ref x.2.2⟩
theorem hashes_map (w : World) : ∀ l : List Nat, NestedKey.hashes w (l.map fun n : Nat => NestedKey.num (n : Int)) = l.map fun n : Nat => hashInt (n : Int)
  | [] => by simp [NestedKey.hashes]
  | x :: l => by
    have ih := hashes_map w l
    rw [List.map_cons, List.map_cons, NestedKey.hashes, ih]
    simp [NestedKey.hash]
theorem nhash_eq (PP : Program) (w : World) (k : NK) : (nestedKind PP w).hash (nkey k) = nhash k := by
  show NestedKey.hash w (nkey k) = nhash k
  unfold nkey nhash
  simp [NestedKey.hash, NestedKey.hashes, hashes_map]
theorem num_inj : ∀ {l m : List Nat}, (l.map fun n : Nat => NestedKey.num (n : Int)) = (m.map fun n : Nat => NestedKey.num (n : Int)) → l = m
  | [], [], _ => rfl
  | [], _ :: _, h => by cases h
  | _ :: _, [], h => by cases h
  | x :: l, y :: m, h => by
    rw [List.map_cons, List.map_cons] at h
    injection h with h1 h2
    injection h1 with h3
    have e : x = y := by omega
    rw [e, num_inj h2]
theorem nkey_inj {k j : NK} (h : nkey k = nkey j) : k = j := by
  obtain ⟨a, l⟩ := k
  obtain ⟨b, m⟩ := j
  unfold nkey at h
  injection h with h
  injection h with h1 h2
  injection h1 with h3
  injection h2 with h4 _
  injection h4 with h5
  have e : a = b := by
    have : ((a : Nat) : Int) = ((b : Nat) : Int) := h3
    omega
  have e2 : l = m := num_inj h5
  rw [e, e2]
theorem depth_nums : ∀ l : List Nat, NestedKey.depthAll (l.map fun n : Nat => NestedKey.num (n : Int)) ≤ 1
  | [] => by simp [NestedKey.depthAll]
  | x :: l => by
    have ih := depth_nums l
    rw [List.map_cons]
    simp [NestedKey.depthAll, NestedKey.depth]
    omega
theorem depth_nkey (k : NK) : (nkey k).depth ≤ 8 := by
  have h := depth_nums k.2
  unfold nkey
  simp [NestedKey.depth, NestedKey.depthAll]
  omega
/-- the tuple at p is the key k -/
def KeyAt (H : Hp) (p : Addr) (k : NK) : Prop := ∃ q, H p = some (.tup [.int (k.1 : Int), .ref q]) ∧ H q = some (.tup (nv k.2))
theorem KeyAt.mono {H H' : Hp} {p : Addr} {k : NK} (h : KeyAt H p k) (e : ExD H H') : KeyAt H' p k := let ⟨q, h1, h2⟩ := h; ⟨q, e _ _ h1 rfl, e _ _ h2 rfl⟩
theorem nested_nums {h : Heap} : ∀ {l : List Nat} {us : List Value}, Vals (nv l) us → NestedAll h (l.map fun n : Nat => NestedKey.num (n : Int)) us
  | [], us, r => by cases r; exact .nil
  | x :: l, us, r => by
    cases r with
    | cons r1 r2 =>
      obtain ⟨t, rfl⟩ := r1
      exact .cons (.int _ _) (nested_nums r2)
theorem KeyAt.is {X : Cx} {pins : List (Addr × Obj)} {σ : L2.St} {H : Hp} {s : Shared} {p : Addr} {k : NK} (I : Inv X pins σ H s) (h : KeyAt H p k) : (nestedKind X.prog X.w).is s.heap (nkey k) p := by
  obtain ⟨q, h1, h2⟩ := h
  obtain ⟨us, r1, ⟨o1, e1, c1, n1, d1⟩, _⟩ := I.tuple (SqT.of (K := X.K) h1)
  obtain ⟨ws, r2, ⟨o2, e2, c2, n2, d2⟩, _⟩ := I.tuple (SqT.of (K := X.K) h2)
  refine ⟨?_, depth_nkey k⟩
  cases r1 with
  | cons ra rb =>
    cases rb with
    | cons rc rd =>
      cases rd
      obtain ⟨t, rfl⟩ := ra
      cases rc
      refine .tup e1 c1 d1 ?_
      refine .cons (.int _ _) (.cons (.tup e2 c2 d2 ?_) .nil)
      exact nested_nums r2
/-- the dict at a: its keys, where each key's tuple and its value lie -/
def NDct (a : Addr) (xs : List (NK × Addr × Addr)) : HO := .ext fun h => ∃ o es ep, h.get? a = some o ∧ o.ExactDict ∧ o.data = .dict es ep ∧ es.toList = xs.map nEnt ∧ (xs.map (·.1)).Nodup ∧ (a == sysModules) = false ∧ xs.length ≤ 1000000
def nFind (xs : List (NK × Addr × Addr)) (k : NK) : Option Addr := (xs.find? fun x => decide (x.1 = k)).map (·.2.2)
def nH (x : NK × Addr × Addr) : NestedKey × Addr × Value := (nkey x.1, x.2.1, .ref x.2.2)
theorem atKey_map (xs : List (NK × Addr × Addr)) (k : NK) : (atKey (xs.map nH) (nkey k)).map (·.2) = (nFind xs k).map Value.ref := by
  induction xs with
  | nil => rfl
  | cons x xs ih =>
    by_cases e : x.1 = k
    · have e' : (nH x).1 = nkey k := by show nkey x.1 = _; rw [e]
      simp [atKey, nFind, e, e', nH]
    · have e' : ¬ (nH x).1 = nkey k := fun z => e (nkey_inj z)
      simp only [atKey, nFind, List.map_cons, List.find?_cons, decide_eq_false e, decide_eq_false e'] at ih ⊢
      exact ih
section
variable {X : Cx} {pins : List (Addr × Obj)} {σ : L2.St} {H : Hp} {s : Shared} {a : Addr} {xs : List (NK × Addr × Addr)}
theorem nd_of (I : Inv X pins σ H s) (h : H a = some (NDct a xs)) (hk : ∀ x ∈ xs, KeyAt H x.2.1 x.1) : s.heap.DictOfH (nestedKind X.prog X.w) a (xs.map nH) ∧ (a == sysModules) = false ∧ xs.length ≤ 1000000 := by
  obtain ⟨⟨o, es, ep, e1, e2, e3, e4, e5, e6, e7⟩, _⟩ := I.hok a _ h
  refine ⟨⟨o, es, ep, e1, e2, e3, ?_, fun y m => ?_, ?_⟩, e6, e7⟩
  · rw [e4, List.map_map]
    refine List.map_congr_left fun x _ => ?_
    show nEnt x = entryOfKey (nestedKind X.prog X.w) (nH x)
    unfold nEnt entryOfKey nH
    rw [nhash_eq]
  · obtain ⟨x, mx, rfl⟩ := List.mem_map.mp m
    exact (hk x mx).is I
  · rw [List.map_map]
    have e : (xs.map ((fun y : NestedKey × Addr × Value => y.1) ∘ nH)) = (xs.map (·.1)).map nkey := by
      rw [List.map_map]
      rfl
    rw [e]
    exact (List.pairwise_map.mpr (e5.imp fun hne z => hne (nkey_inj z)))
def rNotInN : R2 := fun x y H Q => ∃ (p d : Addr) (k : NK) (xs : List (NK × Addr × Addr)), x = .ref p ∧ y = .ref d ∧ KeyAt H p k ∧ H d = some (NDct d xs) ∧ (∀ x ∈ xs, KeyAt H x.2.1 x.1) ∧ Q (.bl (!(nFind xs k).isSome)) H
def rIxN : R2 := fun x y H Q => ∃ (p d : Addr) (k : NK) (xs : List (NK × Addr × Addr)) (b : Addr), x = .ref d ∧ y = .ref p ∧ KeyAt H p k ∧ H d = some (NDct d xs) ∧ (∀ x ∈ xs, KeyAt H x.2.1 x.1) ∧ nFind xs k = some b ∧ Q (.ref b) H
def rSetN : V → V → V → Hp → (Hp → Prop) → Prop := fun o i v H Q => ∃ (p d b : Addr) (k : NK) (xs : List (NK × Addr × Addr)), o = .ref d ∧ i = .ref p ∧ v = .ref b ∧ KeyAt H p k ∧ H d = some (NDct d xs) ∧ (∀ x ∈ xs, KeyAt H x.2.1 x.1) ∧ nFind xs k = none ∧ xs.length < 1000000 ∧ Q (upd H d (NDct d (xs ++ [(k, p, b)])))
theorem op_notInN (hu : X.A.units + 64 < cLine) : OpR X (compareOp .NotIn) rNotInN := by
  intro pins s σ H x y v u Q I rx ry h
  obtain ⟨p, d, k, xs, rfl, rfl, kp, hd, hk, q⟩ := h
  cases rx
  cases ry
  obtain ⟨dd, hs, _⟩ := nd_of I hd hk
  have e : (valueAt (pairsH (xs.map nH)) (nkey k)).isSome = (nFind xs k).isSome := by
    rw [valueAt_pairsH, atKey_map, Option.isSome_map]
  refine notIn_keyed (knd := nestedKind X.prog X.w) (kvs := pairsH (xs.map nH)) (by show X.A.units + 1 + 8 < cLine; omega) (kp.is I) hs ⟨_, dd, rfl⟩ ?_
  rw [e]
  exact ⟨.bl _, H, I.tok _, rfl, q⟩
theorem ix_ndict (hu : X.A.units + 64 < cLine) : IxR X rIxN := by
  intro value slice pins s σ H x y v u Q I rx ry h hs
  obtain ⟨p, d, k, xs, b, rfl, rfl, kp, hd, hk, hf, q⟩ := h
  cases rx
  cases ry
  obtain ⟨dd, _, _⟩ := nd_of I hd hk
  have e : valueAt (pairsH (xs.map nH)) (nkey k) = some (.ref b) := by
    rw [valueAt_pairsH, atKey_map, hf]
    rfl
  exact tail_any dd.typeIs slot_dict_getitem.lookup (getItem_keyed (knd := nestedKind X.prog X.w) (kvs := pairsH (xs.map nH)) (by show X.A.units + 1 + 8 < cLine; omega) (kp.is I) ⟨_, dd, rfl⟩ e ⟨.ref b, H, I.tok _, rfl, q⟩) hs
theorem set_ndict (hu : X.A.units + 64 < cLine) : PSet X rSetN := by
  intro pins s σ H o i v ov iv u Q I ro ri rv h
  obtain ⟨p, d, b, k, xs, rfl, rfl, rfl, kp, hd, hk, hf, hl, q⟩ := h
  cases ro
  cases ri
  cases rv
  obtain ⟨dd, hs, _⟩ := nd_of I hd hk
  have hn : atKey (xs.map nH) (nkey k) = none := by
    have z := atKey_map xs k
    rw [hf] at z
    cases q : atKey (xs.map nH) (nkey k) with
    | none => rfl
    | some y => rw [q] at z; cases z
  refine wpAny_setItem_heap (knd := nestedKind X.prog X.w) (by show X.A.units + 1 + 8 < cLine; omega) (kp.is I) dd (fun h' dd' sb => ?_) (by rw [List.length_map, sizeLine_eq]; omega)
  rw [storedH_new hn] at dd'
  obtain ⟨ob, es, ep, e1, e2, e3, e4, _, e5⟩ := dd'
  have f4 : es.toList = (xs ++ [(k, p, b)]).map nEnt := by
    have z : (xs.map nH ++ [(nkey k, p, Value.ref b)]) = (xs ++ [(k, p, b)]).map nH := by
      rw [List.map_append]
      rfl
    rw [z, List.map_map] at e4
    refine e4.trans (List.map_congr_left fun x _ => ?_)
    show entryOfKey (nestedKind X.prog X.w) (nH x) = nEnt x
    unfold nEnt entryOfKey nH
    rw [nhash_eq]
  have f5 : ((xs ++ [(k, p, b)]).map (·.1)).Nodup := by
    have z : (xs.map nH ++ [(nkey k, p, Value.ref b)]).map (·.1) = ((xs ++ [(k, p, b)]).map (·.1)).map nkey := by
      rw [List.map_append, List.map_append, List.map_append, List.map_map, List.map_map]
      rfl
    rw [z] at e5
    exact (List.pairwise_map.mp e5).imp fun hne z => hne (by rw [z])
  have f6 : (xs ++ [(k, p, b)]).length ≤ 1000000 := by
    rw [List.length_append]
    show xs.length + 1 ≤ _
    omega
  have new : ObjOk X.prog X.w (upd H d (NDct d (xs ++ [(k, p, b)]))) h' d (NDct d (xs ++ [(k, p, b)])) :=
    ⟨⟨ob, es, ep, e1, e2, e3, f4, f5, hs, f6⟩, ⟨ob, e1⟩, fun h1 h2 ⟨ob, es, ep, g1, g2⟩ st => ⟨ob, es, ep, st _ g1, g2⟩⟩
  exact ⟨_, d_write I (by rw [hd]; exact True.intro) sb ⟨ob, e1⟩ new, q⟩
def tDNewN : TE := fun _ H Q => ∀ p, H p = none → Q (.ref p) (upd H p (NDct p []))
theorem pe_dnewN {pos : Pos} : PE X (.Dict [] [] pos) tDNewN := ⟨fun pins s σ H Q I h =>
  wpAny_Dict_empty ⟨.ref s.heap.objs.size, _, I.laid (a := s.heap.objs.size) (o := NDct s.heap.objs.size []) (t' := s.toks) (fun _ _ q => Heap.get?_push_of_some _ q) (Nat.le_refl _)
    ⟨⟨_, #[], 0, Heap.get?_push_size _ rfl, ⟨rfl, rfl, rfl⟩, rfl, rfl, List.nodup_nil, beq_eq_false_iff_ne.mpr (Ne.symm (Nat.ne_of_lt I.big)), Nat.zero_le _⟩, ⟨_, Heap.get?_push_size _ rfl⟩, fun h1 h2 ⟨o, es, ep, g1, g2⟩ st => ⟨o, es, ep, st _ g1, g2⟩⟩, rfl, h _ (I.hok.fresh (Nat.le_refl _))⟩⟩
end
end Th
namespace Th
open PySem PySem.Spec PyProof.Rows L2
open Evl (Ex Ev EvT EvL EvA given)
open TimHaul (Road Limit Truck Lot Trip Office)
def RoadsOk (s : Office) : Prop := ∀ (k : Nat) (r : Road), s.roads[k]? = some r → r.a < s.n ∧ r.b < s.n
/-- what always holds of an office -/
structure Wf (s : Office) : Prop where
  n16 : s.n ≤ 16
  r32 : s.roads.length ≤ 32
  roads : RoadsOk s
  bears : ∀ r ∈ s.roads, r.bears ≤ 100000
  l16 : s.limits.length ≤ 16
  t3 : s.trucks.length ≤ 3
  trucks : ∀ t ∈ s.trucks, t.home < s.n
  lo24 : s.lots.length ≤ 24
  lots : ∀ l ∈ s.lots, l.place < s.n ∧ l.mill < s.n
  p24 : s.trips.length ≤ 24
  trips : ∀ t, some t ∈ s.trips → t.truck < s.trucks.length ∧ t.lots ≠ [] ∧ t.lots.length ≤ 24 ∧ (∀ i ∈ t.lots, i < s.lots.length) ∧ t.full.length ≤ 2000 ∧ (∀ k ∈ t.full, k < s.roads.length) ∧ t.scale ≠ some 0
theorem road_d {s : Office} {k : Nat} {r : Road} (h : s.roads[k]? = some r) : s.roads.getD k ⟨0, 0, 0, 0⟩ = r := by
  rw [List.getD_eq_getElem?_getD, h]
  rfl
theorem uOf_snoc {s : Office} {ks : List Nat} {i k : Nat} {r : Road} (h : ks[i]? = some k) (hr : s.roads[k]? = some r) : uOf s (ks.take (i + 1)) = uOf s (ks.take i) ++ [(k, r)] := by
  unfold uOf
  rw [take_snoc h, List.map_append, List.map_cons, road_d hr]
  rfl
theorem uOf_ok {s : Office} (h : RoadsOk s) {ks : List Nat} (hk : ∀ k ∈ ks, k < s.roads.length) : ∀ y ∈ uOf s ks, y.2.a < s.n ∧ y.2.b < s.n := fun y m => by
  unfold uOf at m
  obtain ⟨k, hm, rfl⟩ := List.mem_map.mp m
  have e := List.getElem?_eq_getElem (hk k hm)
  have g := h k _ e
  show (s.roads.getD k ⟨0, 0, 0, 0⟩).a < s.n ∧ (s.roads.getD k ⟨0, 0, 0, 0⟩).b < s.n
  rw [road_d e]
  exact g
/-! ### roads by what they bear -/
/-- what each road bears on a day -/
def bl (s : Office) (d : Nat) : List Nat := (List.range s.roads.length).map fun k => s.bears k d
theorem bl_len (s : Office) (d : Nat) : (bl s d).length = s.roads.length := by simp [bl]
def roadsFor (s : Office) (d kg : Nat) : List Nat := ((bl s d).zipIdx.filter fun x => decide (kg ≤ x.1)).map Prod.snd
theorem zipIdx_map_range {α β : Type} (f : Nat → α) (g : α × Nat → β) (n : Nat) : (((List.range n).map f).zipIdx).map g = (List.range n).map fun k => g (f k, k) := by
  refine List.ext_getElem? fun i => ?_
  simp only [List.getElem?_map, List.getElem?_zipIdx]
  by_cases h : i < n
  · rw [List.getElem?_range h]
    simp
  · rw [List.getElem?_eq_none (by simp; omega)]
    rfl
theorem roadsFor_eq (s : Office) (d kg : Nat) : roadsFor s d kg = (List.range s.roads.length).filter fun k => decide (kg ≤ s.bears k d) := by
  unfold roadsFor bl
  have e : ((List.range s.roads.length).map fun k => s.bears k d).zipIdx = (List.range s.roads.length).map fun k => (s.bears k d, k) := by
    have z := zipIdx_map_range (fun k => s.bears k d) (fun x : Nat × Nat => x) s.roads.length
    rwa [List.map_id'] at z
  rw [e, List.filter_map, List.map_map]
  have f : (Prod.snd ∘ fun k => (s.bears k d, k)) = fun k : Nat => k := rfl
  rw [f, List.map_id']
  rfl
theorem roadsFor_lt {s : Office} {d kg k : Nat} (h : k ∈ roadsFor s d kg) : k < s.roads.length := by
  rw [roadsFor_eq] at h
  exact List.mem_range.mp (List.mem_filter.mp h).1
theorem roadsFor_len (s : Office) (d kg : Nat) : (roadsFor s d kg).length ≤ s.roads.length := by
  rw [roadsFor_eq]
  have h := List.length_filter_le (fun k => decide (kg ≤ s.bears k d)) (List.range s.roads.length)
  rwa [List.length_range] at h
theorem filterMap_if {α β : Type} (p : α → Bool) (f : α → β) : ∀ l : List α, (l.filterMap fun x => if p x = true then some (f x) else none) = (l.filter p).map f
  | [] => rfl
  | x :: l => by
    rw [List.filterMap_cons, List.filter_cons]
    cases h : p x with
    | true => simp [filterMap_if p f l]
    | false => simp [filterMap_if p f l]
theorem usable_eq (s : Office) (d kg : Nat) : s.usable d kg = uOf s (roadsFor s d kg) := by
  unfold TimHaul.Office.usable uOf
  have e : s.roads.zipIdx = (List.range s.roads.length).map fun k => (s.roads.getD k ⟨0, 0, 0, 0⟩, k) := by
    refine List.ext_getElem? fun i => ?_
    simp only [List.getElem?_map, List.getElem?_zipIdx]
    by_cases h : i < s.roads.length
    · rw [List.getElem?_range h, List.getElem?_eq_getElem h]
      simp [h]
    · rw [List.getElem?_eq_none (by omega), List.getElem?_eq_none (by simp; omega)]
      rfl
  rw [e, roadsFor_eq]
  have g := filterMap_if (fun x : Road × Nat => decide (kg ≤ s.bears x.2 d)) (fun x : Road × Nat => (x.2, x.1)) ((List.range s.roads.length).map fun k => (s.roads.getD k ⟨0, 0, 0, 0⟩, k))
  simp only [decide_eq_true_eq] at g
  rw [g, List.filter_map, List.map_map]
  rfl
/-- the shortest drive, as the program has it -/
theorem drive_eq {s : Office} (w : RoadsOk s) {a b d kg : Nat} (ha : a < s.n) : at' (settle (uOf s (roadsFor s d kg)) s.n (init0 s.n a)) b = s.drive a b d kg := by
  rw [settle_eq (uOf_ok w fun k m => roadsFor_lt m) ha, ← usable_eq]
  rfl
theorem settle_bnd {s : Office} (w : RoadsOk s) {ks : List Nat} (hk : ∀ k ∈ ks, k < s.roads.length) (hl : ks.length ≤ 32) : ∀ (f : Nat) (t : Tab) (b : Nat), t.length = s.n → (∀ o ∈ t, Two o) → Bnd t b → Bnd (iter (spread (uOf s ks)) f t) (b + 64 * f) ∧ (iter (spread (uOf s ks)) f t).length = s.n ∧ ∀ o ∈ iter (spread (uOf s ks)) f t, Two o
  | 0, t, b, h1, h2, h3 => ⟨h3, h1, h2⟩
  | f + 1, t, b, h1, h2, h3 => by
    obtain ⟨b1, l1, t1⟩ := spread_bnd (n := s.n) (uOf s ks) t b (uOf_ok w hk) h1 h2 h3
    have z : (uOf s ks).length ≤ 32 := by unfold uOf; rw [List.length_map]; exact hl
    obtain ⟨r1, r2, r3⟩ := settle_bnd w hk hl f _ _ l1 t1 b1
    exact ⟨r1.mono (by omega), r2, r3⟩
theorem init0_two {n a : Nat} : ∀ o ∈ init0 n a, Two o := fun o m => by
  unfold init0 at m
  obtain ⟨i, _, rfl⟩ := List.mem_map.mp m
  intro d e
  split at e
  · cases e; exact ⟨0, 0, [], rfl⟩
  · cases e
theorem init0_bnd {n a : Nat} : Bnd (init0 n a) 2 := fun o m d q => by
  subst q
  unfold init0 at m
  obtain ⟨i, _, hi⟩ := List.mem_map.mp m
  split at hi
  · cases hi; exact Nat.le_refl _
  · cases hi
theorem wk_roads {u : U} {a p : Nat} {d : List Nat} (w : Wk u a p d) : ∀ k ∈ d.drop 2, ∃ x, (k, x) ∈ u := by
  induction w with
  | nil => intro k h; cases h
  | snoc w hx hA ih =>
    rename_i q p k x d
    intro k' h
    have h' : k' ∈ d.drop 2 ++ [k] := h
    rcases List.mem_append.mp h' with h' | h'
    · exact ih k' h'
    · have e : k' = k := by simpa using h'
      exact ⟨x, by rw [e]; exact hx⟩
/-- what a drive is -/
theorem drive_facts {s : Office} (w : Wf s) {a b d kg : Nat} {r : List Nat} (ha : a < s.n) (h : s.drive a b d kg = some r) : ∃ m c, r = m :: c :: r.drop 2 ∧ (r.drop 2).length ≤ 2000 ∧ ∀ k ∈ r.drop 2, k ∈ roadsFor s d kg := by
  rw [← drive_eq w.roads ha] at h
  have hk : ∀ k ∈ roadsFor s d kg, k < s.roads.length := fun k m => roadsFor_lt m
  have hl : (roadsFor s d kg).length ≤ 32 := Nat.le_trans (roadsFor_len _ _ _) w.r32
  have F := settle_full (uOf_ok w.roads hk) ha
  obtain ⟨b1, l1, t1⟩ := settle_bnd w.roads hk hl s.n (init0 s.n a) 2 init0_len init0_two init0_bnd
  rw [← settle_iter] at b1 l1 t1
  have wk := F.2.1 b r h
  have bd := b1.at h
  obtain ⟨m, rr, e⟩ := wk.wf
  refine ⟨m, rr.length, ?_, ?_, fun k mk => ?_⟩
  · rw [e]; rfl
  · have n16 := w.n16
    rw [List.length_drop]
    omega
  · obtain ⟨x, hx⟩ := wk_roads wk k mk
    unfold uOf at hx
    obtain ⟨j, hj, e2⟩ := List.mem_map.mp hx
    cases e2
    exact hj

/-! ### Ways in the heap -/
structure WA where
  w : Addr
  dx : Addr
  kb : Addr
  kk : Addr
structure WaysAt (K : PySem.W.Frag) (H : Hp) (W : WA) (A : OA) (s : Office) (c : Nat) : Prop where
  obj : H W.w = some (.ins (He.ga K "Ways") W.dx (fWays A.a W.kb W.kk))
  off : OffR K H A s
  wf : Wf s
  b : ∃ kvs : List (Key × V), H W.kb = some (.dK kvs) ∧ kvs.length ≤ c ∧ ∀ (d : Nat) v, valV kvs (.inl (d : Int)) = some v → ∃ p, v = .ref p ∧ H p = some (.lst (nv (bl s d)))
  k : ∃ xs, H W.kk = some (NDct W.kk xs) ∧ xs.length ≤ c ∧ ∀ x ∈ xs, KeyAt H x.2.1 x.1 ∧ ∃ ys, H x.2.2 = some (.lst ys) ∧ AllV (DrvAt H) ys (settle (uOf s x.1.2) s.n (init0 s.n x.1.1))
section
variable {K : PySem.W.Frag} {mg : Str → Option Value} {H H' : Hp} {W : WA} {A : OA} {s : Office} {c c' : Nat}
theorem WaysAt.ex (h : WaysAt K H W A s c) (e : Ex H H') : WaysAt K H' W A s c where
  obj := e _ _ h.obj
  off := h.off.ex e
  wf := h.wf
  b := by
    obtain ⟨kvs, h1, h2, h3⟩ := h.b
    exact ⟨kvs, e _ _ h1, h2, fun d v q => let ⟨p, g1, g2⟩ := h3 d v q; ⟨p, g1, e _ _ g2⟩⟩
  k := by
    obtain ⟨xs, h1, h2, h3⟩ := h.k
    exact ⟨xs, e _ _ h1, h2, fun x m => let ⟨g1, ys, g2, g3⟩ := h3 x m; ⟨g1.mono (exD_of e), ys, e _ _ g2, g3.mono fun v o r => r.ex e⟩⟩
theorem WaysAt.le (h : WaysAt K H W A s c) (l : c ≤ c') : WaysAt K H W A s c' where
  obj := h.obj
  off := h.off
  wf := h.wf
  b := let ⟨kvs, h1, h2, h3⟩ := h.b; ⟨kvs, h1, Nat.le_trans h2 l, h3⟩
  k := let ⟨xs, h1, h2, h3⟩ := h.k; ⟨xs, h1, Nat.le_trans h2 l, h3⟩
theorem exD_dict {a : Addr} {o o' : HO} (h : H a = some o) (d : isD o = true) : ExD H (upd H a o') := fun b u e nd => by
  by_cases z : b = a
  · rw [z, h] at e
    cases e
    rw [d] at nd
    cases nd
  · rw [upd_ne z]
    exact e
theorem evW_office (T : Txt K mg) (h : WaysAt K H W A s c) {σ : L2.St} {ta : TE} (ha : Ev ta σ H (.ref W.w)) : Ev (tFld K ta "office") σ H (.ref A.a) := ev_fld ha h.obj T.c_Ways T.a_Ways_office (lWays_office _ _ _)
theorem evW_borne (T : Txt K mg) (h : WaysAt K H W A s c) {σ : L2.St} {ta : TE} (ha : Ev ta σ H (.ref W.w)) : Ev (tFld K ta "borne") σ H (.ref W.kb) := ev_fld ha h.obj T.c_Ways T.a_Ways_borne (lWays_borne _ _ _)
theorem evW_known (T : Txt K mg) (h : WaysAt K H W A s c) {σ : L2.St} {ta : TE} (ha : Ev ta σ H (.ref W.w)) : Ev (tFld K ta "known") σ H (.ref W.kk) := ev_fld ha h.obj T.c_Ways T.a_Ways_known (lWays_known _ _ _)
end
section
variable {σ : L2.St} {H : Hp} {D : Ends} {td ty tv : TE}
theorem s_dputL {xs : List V} (h : EvL tv σ H xs) (k : ∀ p H1, H p = none → Ex H H1 → H1 p = some (.lst xs) → td σ H1 fun x H2 => ty σ H2 fun y H3 => ∃ a H4, x = .ref a ∧ DPut H3 a y (.ref p) H4 ∧ D.nx σ H4) : sDPut td ty tv D σ H := h H (Ex.refl H) _ k
end
end Th
namespace Th
open PySem PySem.Spec PyProof.Rows L2
open Evl (Ex Ev EvT EvL EvA given)
/-! ### readings with what comes behind them -/
section
variable {K : PySem.W.Frag} {σ : L2.St} {H : Hp} {Q : VK} {E : XK} {D : Ends} {te ta tb : TE} {tA : TA} {tz tu tw : TS} {vs vs' : List V} {v : V} {xs : List V}
theorem q_asgK {i : Nat} (h : te σ H fun v H1 => tz D (σ.set i (some v)) H1) : tSeq (tAsg te (gName i)) tz D σ H := h
theorem q_asgG {g : TG} (h : te σ H fun v H1 => g v σ H1 (tz D)) : tSeq (tAsg te g) tz D σ H := h
theorem s_asgK {i : Nat} (h : te σ H fun v H1 => D.nx (σ.set i (some v)) H1) : tAsg te (gName i) D σ H := h
theorem s_asgG {g : TG} (h : te σ H fun v H1 => g v σ H1 D.nx) : tAsg te g D σ H := h
theorem q_go {t : TS} (h : t { D with nx := tz D } σ H) : tSeq t tz D σ H := h
theorem s_retK (h : te σ H D.rt) : tRet te D σ H := h
theorem s_retG {Q : VK} (e : D.rt = Q) (h : te σ H Q) : tRet te D σ H := by subst e; exact h
theorem k_ev (h : Ev te σ H v) (k : ∀ H1, Ex H H1 → Q v H1) : te σ H Q := h H (Ex.refl H) Q k
theorem k_evL (h : EvL te σ H xs) (k : ∀ p H1, H p = none → Ex H H1 → H1 p = some (.lst xs) → Q (.ref p) H1) : te σ H Q := h H (Ex.refl H) Q k
theorem k_call {sp : Sp} (hA : EvA tA σ H vs) (h : ∀ H1, Ex H H1 → sp vs H1 Q E) : tCall sp [] E tA σ H Q := hA H (Ex.refl H) _ fun H1 e1 => by
  rw [List.append_nil]
  exact h H1 e1
theorem k_meth {sp : Sp} {a C dx : Addr} {fs : List (Str × V)} {m : Str} (h : Ev ta σ H (.ref a)) (ho : H a = some (.ins C dx fs)) (hl : fs.lookup m = none) (hA : EvA tA σ H vs) (hs : ∀ H1, Ex H H1 → sp (.ref a :: vs) H1 Q E) : tMeth C m sp [] E ta tA σ H Q :=
  h H (Ex.refl H) _ fun H1 e1 => ⟨a, dx, fs, rfl, e1 _ _ ho, hl, hA H1 e1 _ fun H2 e2 => by
    rw [List.append_nil]
    exact hs H2 (e1.trans e2)⟩
theorem k_op {r : R2} (h : ta σ H fun x H1 => tb σ H1 fun y H2 => r x y H2 Q) : tOp r ta tb σ H Q := h
theorem k_cb {r : List V → Hp → VK → Prop} (hA : EvA tA σ H vs) (h : ∀ H1, Ex H H1 → r vs H1 Q) : tCB r tA σ H Q := hA H (Ex.refl H) _ h
theorem q_whenK {t : TT} (h : t σ H fun b H1 => if b = true then tu { D with nx := tz D } σ H1 else tz D σ H1) : tSeq (tIfS t tu tNext) tz D σ H := h
theorem k_test {b : Bool} {P : Bool → Hp → Prop} {tt : TT} (h : EvT tt σ H b) (k : ∀ H1, Ex H H1 → P b H1) : tt σ H P := h H (Ex.refl H) P k
/-- a row made of numbers -/
theorem el_nums {ns : List Int} {tA : TA} (h : EvA tA σ H (ns.map V.int)) (hl : ns.length ≤ 100) : EvL (tLst tA) σ H (ns.map V.int) := Evl.el_lst h (by rw [List.length_map]; omega)
theorem rcat {x y : Addr} {xs ys : List V} (hx : H x = some (.lst xs)) (hy : H y = some (.lst ys)) (hl : xs.length + ys.length ≤ 100000) (k : ∀ p, H p = none → Q (.ref p) (upd H p (.lst (xs ++ ys)))) : rCat (.ref x) (.ref y) H Q :=
  ⟨x, y, xs, ys, rfl, rfl, hx, hy, Evl.sz_of hl, k⟩
/-- a new row behind a new row -/
theorem el_cat {tb : TE} {xs ys : List V} (ha : EvL ta σ H xs) (hb : EvL tb σ H ys) (hl : xs.length + ys.length ≤ 100000) : EvL (tOp rCat ta tb) σ H (xs ++ ys) := fun H1 e Q q =>
  ha H1 e _ fun p H2 np e2 hp => hb H2 (e.trans e2) _ fun p' H3 np' e3 hp' => rcat (e3 _ _ hp) hp' hl fun z nz => q z _ (Evl.fresh_back (e2.trans e3) nz) ((e2.trans e3).trans (ex_upd nz)) upd_same
/-- a new row behind one that stands -/
theorem el_catR {tb : TE} {xs ys : List V} {b : Addr} (ha : EvL ta σ H xs) (hb : Ev tb σ H (.ref b)) (hs : H b = some (.lst ys)) (hl : xs.length + ys.length ≤ 100000) : EvL (tOp rCat ta tb) σ H (xs ++ ys) := fun H1 e Q q =>
  ha H1 e _ fun p H2 np e2 hp => hb H2 (e.trans e2) _ fun H3 e3 => rcat (e3 _ _ hp) (((e.trans e2).trans e3) _ _ hs) hl fun z nz => q z _ (Evl.fresh_back (e2.trans e3) nz) ((e2.trans e3).trans (ex_upd nz)) upd_same
/-- a loop over what J gives, z behind it -/
def Loop (g : TG) (tb : TS) (D : Ends) (z : L2.St → Hp → Prop) (σ : L2.St) (J : It) (H1 : Hp) : Prop := ∃ W : Nat → Nat → L2.St → Hp → Prop, (∃ m, W 0 m σ H1) ∧ ∀ i m σ H, W i m σ H →
  (J.stop i H ∧ z σ H) ∨ (J.go i H ∧ ∃ N : L2.St → Hp → Prop, (∀ σ' H', N σ' H' → ∃ m', m' < m ∧ W (i + 1) m' σ' H') ∧ ∀ x H', J.yld i H x H' → g x σ H' fun σ2 H2 => tb { D with nx := N, ct := N, bk := z } σ2 H2)
theorem q_forK {wi : TI} {g : TG} {tb : TS} (h : wi σ H fun J H1 => Loop g tb D (tz D) σ J H1) : tSeq (tFor wi g tb) tz D σ H := h
theorem s_forK {wi : TI} {g : TG} {tb : TS} (h : wi σ H fun J H1 => Loop g tb D D.nx σ J H1) : tFor wi g tb D σ H := h
theorem loop_it {J : It} {n : Nat} {G : Hp → Prop} {Y : Nat → Hp → V → Hp → Prop} {g : TG} {tb : TS} {z : L2.St → Hp → Prop} (w : Walk J n G Y) (Pv : Nat → L2.St → Hp → Prop) (h0 : Pv 0 σ H) (hG : ∀ i σ H, i ≤ n → Pv i σ H → G H)
    (hs : ∀ i x σ H H', i < n → Pv i σ H → Y i H x H' → g x σ H' fun σ2 H2 => tb { D with nx := Pv (i + 1), ct := Pv (i + 1), bk := z } σ2 H2) (hd : ∀ σ H, Pv n σ H → z σ H) : Loop g tb D z σ J H := by
  refine ⟨fun i m σ H => m = n - i ∧ i ≤ n ∧ Pv i σ H, ⟨n, by simp, Nat.zero_le _, h0⟩, ?_⟩
  rintro i m σ H ⟨rfl, hi, p⟩
  have q := hG i σ H hi p
  by_cases hlt : i < n
  · exact .inr ⟨w.goes i H hlt q, Pv (i + 1), fun σ' H' p' => ⟨n - (i + 1), by omega, rfl, hlt, p'⟩, fun x H' y => hs i x σ H H' hlt p (w.yields i H x H' hlt q y)⟩
  · have e : i = n := by omega
    subst e
    exact .inl ⟨w.stops H q, hd σ H p⟩
theorem loop_list {a : Addr} {xs : List V} {j : Nat} {tb : TS} {z : L2.St → Hp → Prop} (Pv : Nat → L2.St → Hp → Prop) (h0 : Pv 0 σ H) (hG : ∀ i σ H, i ≤ xs.length → Pv i σ H → SqL K H a xs)
    (hs : ∀ i x σ H, xs[i]? = some x → Pv i σ H → tb { D with nx := Pv (i + 1), ct := Pv (i + 1), bk := z } (σ.set j (some x)) H) (hd : ∀ σ H, Pv xs.length σ H → z σ H) : Loop (gName j) tb D z σ (Itl K a) H :=
  loop_it (walk_list (K := K) (a := a) (xs := xs)) Pv h0 hG (fun i x σ H H' hi p y => by
    obtain ⟨rfl, hx⟩ := y
    exact hs i x σ H' hx p) hd
theorem ev_fn {sp : Sp} {v : V} (hA : EvA tA σ H vs) (hs : ∀ H1, Ex H H1 → ∀ Q : VK, (∀ H2, Ex H1 H2 → Q v H2) → sp vs H1 Q E) : Ev (tCall sp [] E tA) σ H v := fun H1 e Q q =>
  hA H1 e _ fun H2 e2 => by
    rw [List.append_nil]
    exact hs H2 (e.trans e2) Q fun H3 e3 => q H3 (e2.trans e3)
theorem el_fn {sp : Sp} (hA : EvA tA σ H vs) (hs : ∀ H1, Ex H H1 → ∀ Q : VK, (∀ p H2, H1 p = none → Ex H1 H2 → H2 p = some (.lst xs) → Q (.ref p) H2) → sp vs H1 Q E) : EvL (tCall sp [] E tA) σ H xs := fun H1 e Q q =>
  hA H1 e _ fun H2 e2 => by
    rw [List.append_nil]
    exact hs H2 (e.trans e2) Q fun p H3 np e3 h3 => q p H3 (Evl.fresh_back e2 np) (e2.trans e3) h3
theorem k_cons {tr : TA} {P : List V → Hp → Prop} (h : te σ H fun v H1 => tr σ H1 fun vs H2 => P (v :: vs) H2) : tCons te tr σ H P := h
theorem k_nil {P : List V → Hp → Prop} (h : P [] H) : tNil σ H P := h
theorem k_lst {ta : TA} (h : ta σ H fun xs H1 => xs.length ≤ sizeLine ∧ ∀ p, H1 p = none → Q (.ref p) (upd H1 p (.lst xs))) : tLst ta σ H Q := h
theorem k_tup {ta : TA} (h : ta σ H fun xs H1 => xs.length ≤ sizeLine ∧ ∀ p, H1 p = none → Q (.ref p) (upd H1 p (.tup xs))) : tTup ta σ H Q := h
theorem k_callK {sp : Sp} (h : tA σ H fun vs H1 => sp vs H1 Q E) : tCall sp [] E tA σ H Q := by
  have e0 : (fun (vs : List V) (H1 : Hp) => sp (vs ++ []) H1 Q E) = fun vs H1 => sp vs H1 Q E := by
    funext vs H1
    rw [List.append_nil]
  show tA σ H (fun vs H1 => sp (vs ++ []) H1 Q E)
  rw [e0]
  exact h
theorem split_at' {α : Type} {l : List α} {i : Nat} {x : α} (h : l[i]? = some x) : l = l.take i ++ x :: l.drop (i + 1) := by
  obtain ⟨hi, e⟩ := List.getElem?_eq_some_iff.mp h
  rw [← e, ← List.drop_eq_getElem_cons hi, List.take_append_drop]
theorem if_and {a b : Bool} {P R : Prop} (h1 : a = true → b = true → P) (h2 : (a && b) = false → R) : if (a && b) = true then P else R := by
  cases a with
  | true =>
    cases b with
    | true => exact h1 rfl rfl
    | false => exact h2 rfl
  | false => exact h2 rfl
/-- rows of numbers, sorted -/
theorem perm_nat {ns : List Int} {l : List Nat} (h : ns.Perm (l.map fun n : Nat => (n : Int))) : (ns.map Int.toNat).Perm l ∧ ns = (ns.map Int.toNat).map fun n : Nat => (n : Int) := by
  constructor
  · have z := h.map Int.toNat
    rw [List.map_map] at z
    have e : (l.map (Int.toNat ∘ fun n : Nat => (n : Int))) = l := by
      have : (Int.toNat ∘ fun n : Nat => (n : Int)) = id := by funext n; simp
      rw [this, List.map_id]
    rwa [e] at z
  · rw [List.map_map]
    have g : ∀ x ∈ ns, ((fun n : Nat => (n : Int)) ∘ Int.toNat) x = x := fun x m => by
      obtain ⟨n, _, rfl⟩ := List.mem_map.mp (h.mem_iff.mp m)
      simp
    rw [List.map_congr_left g, List.map_id']
theorem nats_ge {ns : List Int} (h : ns.Pairwise (· ≥ ·)) : (ns.map Int.toNat).Pairwise (· ≥ ·) := by
  rw [List.pairwise_map]
  exact h.imp fun {a b} z => by show a.toNat ≥ b.toNat; omega
theorem nats_le {ns : List Int} (h : ns.Pairwise (· ≤ ·)) : (ns.map Int.toNat).Pairwise (· ≤ ·) := by
  rw [List.pairwise_map]
  exact h.imp fun {a b} z => by show a.toNat ≤ b.toNat; omega
theorem el_sorted {l m : List Nat} (h : EvL te σ H (nv l)) (f : ∀ ns : List Nat, ns.Perm l → ns.Pairwise (· ≤ ·) → ns = m) : EvL (tCB (rSortedI K) (tCons te tNil)) σ H (nv m) := fun H1 e Q q =>
  h H1 e _ fun p H2 np e2 hp => ⟨p, l.map fun n : Nat => (n : Int), rfl, SqL.of (by rw [hp, nv_ints]), fun ns p3 hpm hps n3 => by
    obtain ⟨g1, g2⟩ := perm_nat hpm
    refine q p3 _ (Evl.fresh_back e2 n3) (e2.trans (ex_upd n3)) ?_
    rw [upd_same, g2, f _ g1 (nats_le hps), nv_ints]⟩
end
end Th
namespace Th
open PySem PySem.Spec PyProof.Rows L2
open Evl (Ex Ev EvT EvL EvA given)
open TimHaul (Road Limit Truck Lot Trip Office)
open WrtihaSpec (Call Ans does right no tells)
/-! ### the calls on an office -/
/-- where an office changes -/
def muts (A : OA) : List Addr := A.lr :: A.ll :: A.lt :: A.lo :: A.lp :: A.rp
structure OffM (K : PySem.W.Frag) (G H : Hp) (A : OA) (s : Office) : Prop where
  off : OffG K G H A s
  ex : Ex G H
  nod : ∀ a o, G a = some o → isD o = false
  free : ∀ a ∈ muts A, G a = none
  nd : (muts A).Nodup
  wf : Wf s
structure Stay (G H : Hp) (A : OA) (G' H' : Hp) (A' : OA) : Prop where
  g : Ex G G'
  f : ∀ a o, H a = some o → isD o = false → a ∉ muts A → H' a = some o ∧ a ∉ muts A'
  n : ∀ a o, H a = some o → isD o = false → G a = none → G' a = none
  a : A'.a = A.a
/-- no object that is tracked -/
def NewD (H : Hp) (p : Addr) : Prop := ∀ a o, H a = some o → isD o = false → p ≠ a
def ansV (x : Ans) : List V := (x.code :: x.nums).map V.int
def Done (K : PySem.W.Frag) (c : Call) (G H : Hp) (A : OA) (s : Office) (Q : VK) : Prop :=
  ∀ p H' G' A', Stay G H A G' H' A' → OffM K G' H' A' (does s c).1 → NewD H p → H' p = some (.lst (ansV (does s c).2)) → Q (.ref p) H'
section
variable {K : PySem.W.Frag} {G G' H H' H1 : Hp} {A : OA} {s : Office} {c : Call} {Q : VK} {p : Addr}
theorem NewD.of (e : ExD H H1) (h : H1 p = none) : NewD H p := fun a o ha hd z => by
  rw [← z] at ha
  rw [e p o ha hd] at h
  cases h
theorem NewD.back (e : ExD H H1) (h : NewD H1 p) : NewD H p := fun a o ha hd => h a o (e a o ha hd) hd
theorem OffM.offR (h : OffM K G H A s) : OffR K H A s := h.off.up h.ex
theorem OffM.query (h : OffM K G H A s) (e : ExD H H') : OffM K G H' A s := ⟨h.off.mono (ExD.refl G) e, fun a o q => e a o (h.ex a o q) (h.nod a o q), h.nod, h.free, h.nd, h.wf⟩
theorem Stay.query (e : ExD H H') : Stay G H A G H' A := ⟨Ex.refl G, fun a o h d m => ⟨e a o h d, m⟩, fun _ _ _ _ h => h, rfl⟩
theorem Done.query (k : Done K c G H A s Q) (O : OffM K G H A s) {x : Ans} (hs : does s c = (s, x)) (e : ExD H H') (n : NewD H p) (hp : H' p = some (.lst (ansV x))) : Q (.ref p) H' := by
  refine k p H' G A (Stay.query e) ?_ n ?_
  · rw [hs]; exact O.query e
  · rw [hs]; exact hp
/-- a list of one number -/
theorem s_no {σ : L2.St} {D : Ends} {z : Int} (hD : D.rt = Q) (e : ExD H H1) (k : Done K c G H A s Q) (O : OffM K G H A s) (hs : does s c = (s, no z)) : tRet (tLst (tCons (tC (.int z)) tNil)) D σ H1 := by
  subst hD
  refine Evl.s_retL (Evl.el_lst (ea_one Evl.ev_c) (by show 1 ≤ 100000; decide)) fun p H2 np e2 hp => ?_
  exact k.query O hs (e.ex e2) (NewD.of e np) hp
theorem s_tells {σ : L2.St} {D : Ends} {te : TE} {l : List Nat} (hD : D.rt = Q) (e : ExD H H1) (k : Done K c G H A s Q) (O : OffM K G H A s) (hs : does s c = (s, tells l)) (h : EvL te σ H1 (nv (0 :: l))) : tRet te D σ H1 := by
  subst hD
  refine Evl.s_retL h fun p H2 np e2 hp => ?_
  refine k.query O hs (e.ex e2) (NewD.of e np) ?_
  rw [hp]
  unfold ansV tells nv
  simp
theorem Done.ex (k : Done K c G H A s Q) (e : ExD H H1) : Done K c G H1 A s Q := fun p H' G' A' st O n hp =>
  k p H' G' A' ⟨st.g, fun a o ha hd m => st.f a o (e a o ha hd) hd m, fun a o ha hd hg => st.n a o (e a o ha hd) hd hg, st.a⟩ O (n.back e) hp
end
/-! ### what is made, and put behind a row -/
section
variable {K : PySem.W.Frag} {G G' H H' H1 H2 H3 H4 : Hp} {A A' : OA} {s s' : Office} {c : Call} {Q : VK} {p : Addr} {σ : L2.St} {D : Ends} {tz : TS} {te ta : TE} {tA : TA} {vs : List V}
theorem Done.fin (k : Done K c G H A s Q) (st : Stay G H A G' H3 A') (O : OffM K G' H3 A' s') (dom : ∀ a, H a ≠ none → H3 a ≠ none) {x : Ans} (hs : does s c = (s', x)) (n : H3 p = none) (e : Ex H3 H4) (hp : H4 p = some (.lst (ansV x))) : Q (.ref p) H4 := by
  refine k p H4 G' A' ⟨st.g, fun a o ha hd m => ?_, fun a o ha hd hg => st.n a o ha hd hg, st.a⟩ ?_ (fun a o ha hd z => ?_) ?_
  · obtain ⟨h1, h2⟩ := st.f a o ha hd m
    exact ⟨e _ _ h1, h2⟩
  · rw [hs]; exact O.query (exD_of e)
  · rw [z] at n
    exact dom a (by rw [ha]; intro z; cases z) n
  · rw [hs]; exact hp
theorem s_done {te : TE} {l : List Nat} (hD : D.rt = Q) (k : Done K c G H A s Q) (st : Stay G H A G' H3 A') (O : OffM K G' H3 A' s') (dom : ∀ a, H a ≠ none → H3 a ≠ none) (hs : does s c = (s', tells l)) (h : EvL te σ H3 (nv (0 :: l))) : tRet te D σ H3 := by
  subst hD
  refine Evl.s_retL h fun p H2 np e2 hp => k.fin st O dom hs np e2 ?_
  rw [hp]
  unfold ansV tells nv
  simp
theorem k_make {C : Addr} {sp : Sp} {fs : List (Str × V)} (hsp : ∀ (p dx : Addr) (H : Hp) (Q : VK) (E : XK), H p = some (.ins C dx []) → Q .non (upd H p (.ins C dx fs)) → sp (.ref p :: vs) H Q E) (hA : EvA tA σ H vs) (k : ∀ p H1, H p = none → Ex H H1 → (∃ dx, H1 p = some (.ins C dx fs)) → Q (.ref p) H1) : tMake C sp [] E0 tA σ H Q := by
  refine hA H (Ex.refl H) _ fun H1 e1 => fun x dx nx nd ne => ?_
  rw [List.append_nil]
  have n2 : upd H1 dx (.own x) x = none := by rw [upd_ne (Ne.symm ne)]; exact nx
  refine hsp x dx _ _ _ upd_same ⟨rfl, k x _ (Evl.fresh_back e1 nx) ?_ ⟨dx, upd_same⟩⟩
  rw [upd_upd]
  exact (e1.trans (ex_upd nd)).trans (ex_upd n2)
theorem q_appK {l : Addr} {xs : List V} (hl : H l = some (.lst xs)) (ha : Ev ta σ H (.ref l)) (h : ∀ H1, Ex H H1 → te σ H1 fun v H2 => rAppend (.ref l) [v] H2 fun _ H3 => tz D σ H3) : tSeq (tDrop (tBM K "list" rAppend ta (tCons te tNil))) tz D σ H :=
  ha H (Ex.refl H) _ fun H1 e1 => ⟨Or.inl ⟨rfl, xs, SqL.of (e1 l _ hl)⟩, h H1 e1⟩
theorem app_go {l : Addr} {xs : List V} {v : V} (hl : H l = some (.lst xs)) (hz : xs.length < 100000) (q : Q .non (upd H l (.lst (xs ++ [v])))) : rAppend (.ref l) [v] H Q := ⟨l, xs, v, rfl, rfl, hl, Evl.sz_lt hz, q⟩
theorem dom_upd {l : Addr} {o : HO} (e : Ex H H2) : ∀ a, H a ≠ none → upd H2 l o a ≠ none := fun a ha => by
  by_cases z : a = l
  · rw [z, upd_same]; intro z; cases z
  · rw [upd_ne z]
    cases q : H a with
    | none => exact absurd q ha
    | some u => rw [e a u q]; intro z; cases z
/-- the part that is changed: its own, all else stays -/
theorem stay_upd {l : Addr} {o : HO} (O : OffM K G H A s) (e : Ex H H2) (hl : l ∈ muts A) (g : Ex G G') (gn : ∀ a u, G' a = some u → G a = some u ∨ H a = none) (ha : A'.a = A.a) (hm : ∀ a, a ∈ muts A' → a ∈ muts A ∨ H a = none) : Stay G H A G' (upd H2 l o) A' where
  g := g
  f := fun a u h d m => ⟨by rw [upd_ne (fun z => m (by rw [z]; exact hl))]; exact e _ _ h, fun m2 => by
    rcases hm a m2 with z | z
    · exact m z
    · rw [z] at h; cases h⟩
  n := fun a u h d hg => by
    cases q : G' a with
    | none => rfl
    | some u' =>
      rcases gn a u' q with z | z
      · rw [z] at hg; cases hg
      · rw [z] at h; cases h
  a := ha
theorem ex_in {l : Addr} {o : HO} (O : OffM K G H A s) (e : Ex H H2) (hl : l ∈ muts A) : Ex G (upd H2 l o) := (O.ex.trans e).mut (O.free l hl)
theorem ne_muts {l : List Addr} (h : l.Nodup) (i j : Nat) {a b : Addr} (hi : l[i]? = some a) (hj : l[j]? = some b) (n : i ≠ j) : a ≠ b := fun z => by
  subst z
  obtain ⟨hi', hi''⟩ := List.getElem?_eq_some_iff.mp hi
  obtain ⟨hj', hj''⟩ := List.getElem?_eq_some_iff.mp hj
  have P := List.pairwise_iff_getElem.mp h
  rcases Nat.lt_or_gt_of_ne n with q | q
  · exact P i j hi' hj' q (hi''.trans hj''.symm)
  · exact P j i hj' hi' q (hj''.trans hi''.symm)
theorem muts_some {G H : Hp} {A : OA} {s : Office} (O : OffG K G H A s) {a : Addr} (h : a ∈ muts A) : H a ≠ none := by
  have fin : ∀ {o : HO}, H a = some o → H a ≠ none := fun q z => by rw [q] at z; cases z
  have z : a = A.lr ∨ a = A.ll ∨ a = A.lt ∨ a = A.lo ∨ a = A.lp ∨ a ∈ A.rp := by simpa [muts] using h
  rcases z with z | z | z | z | z | z
  · rw [z]; intro q; rw [O.lr] at q; cases q
  · rw [z]; intro q; rw [O.ll] at q; cases q
  · rw [z]; intro q; rw [O.lt] at q; cases q
  · rw [z]; intro q; rw [O.lo] at q; cases q
  · rw [z]; intro q; rw [O.lp] at q; cases q
  · obtain ⟨i, hi⟩ := List.getElem?_of_mem z
    have hl : i < s.trips.length := by rw [← O.trips.1]; exact (List.getElem?_eq_some_iff.mp hi).1
    obtain ⟨b, hb, q⟩ := O.trips.2 i _ (List.getElem?_eq_getElem hl)
    rw [hi] at hb
    cases hb
    cases q2 : s.trips[i] with
    | none => rw [q2] at q; obtain ⟨_, _, _, _, q⟩ := q; exact fin q
    | some t => rw [q2] at q; obtain ⟨_, _, _, q, _⟩ := q; exact fin q
theorem TripAt.ex {G G' H H' : Hp} {a : Addr} {x : Option Trip} (q : TripAt K G H a x) (g : Ex G G') (e : H' a = H a) : TripAt K G' H' a x := by
  cases x with
  | none => obtain ⟨t, dx, la, ra, q⟩ := q; exact ⟨t, dx, la, ra, e.trans q⟩
  | some t => obtain ⟨dx, la, ra, q, q1, q2⟩ := q; exact ⟨dx, la, ra, e.trans q, g _ _ q1, g _ _ q2⟩
theorem trips_in {o : HO} (O : OffM K G H A s) (e : Ex H H2) (g : Ex G G') {l : Addr} (i : Nat) (hi : i < 5) (hl : (muts A)[i]? = some l) : All2 (TripAt K G' (upd H2 l o)) A.rp s.trips := by
  refine ⟨O.off.trips.1, fun j x hj => ?_⟩
  obtain ⟨a, ha, q⟩ := O.off.trips.2 j x hj
  refine ⟨a, ha, ?_⟩
  have ne : a ≠ l := ne_muts O.nd (j + 5) i (by unfold muts; exact ha) hl (by omega)
  cases x with
  | none => obtain ⟨t, dx, la, ra, q⟩ := q; exact ⟨t, dx, la, ra, by rw [upd_ne ne]; exact e _ _ q⟩
  | some t => obtain ⟨dx, la, ra, q, q1, q2⟩ := q; exact ⟨dx, la, ra, by rw [upd_ne ne]; exact e _ _ q, g _ _ q1, g _ _ q2⟩
theorem OffM.addRoad (O : OffM K G H A s) (e : Ex H H2) (np : H p = none) {r : Road} (hp : RoadAt K H2 p r) (w : Wf { s with roads := s.roads ++ [r] }) : ∃ G', Stay G H A G' (upd H2 A.lr (.lst (A.rr.map V.ref ++ [.ref p]))) { A with rr := A.rr ++ [p] } ∧ OffM K G' (upd H2 A.lr (.lst (A.rr.map V.ref ++ [.ref p]))) { A with rr := A.rr ++ [p] } { s with roads := s.roads ++ [r] } := by
  obtain ⟨dx, hp⟩ := hp
  have gp : G p = none := Evl.fresh_back O.ex np
  have g := ex_upd (o := .ins (He.ga K "Road") dx (fRoad r)) gp
  have m : A.lr ∈ muts A := by simp [muts]
  have pl : p ≠ A.lr := fun z => by rw [z, O.off.lr] at np; cases np
  have gs : Ex (upd G p (.ins (He.ga K "Road") dx (fRoad r))) (upd H2 A.lr (.lst (A.rr.map V.ref ++ [.ref p]))) := fun a u h => by
    by_cases z : a = p
    · subst z
      rw [upd_same] at h
      rw [upd_ne pl, hp, ← h]
    · rw [upd_ne z] at h
      exact ex_in O e m a u h
  refine ⟨_, stay_upd O e m g (fun a u h => ?_) rfl fun a h => .inl h, ⟨?_, gs, fun a u h => ?_, fun a h => ?_, O.nd, w⟩⟩
  · by_cases z : a = p
    · rw [z]; exact .inr np
    · rw [upd_ne z] at h; exact .inl h
  · exact ⟨g _ _ O.off.obj, (by show upd _ _ _ _ = _; rw [upd_same, List.map_append]; rfl), (by rw [upd_ne (ne_muts O.nd 1 0 rfl rfl (by decide))]; exact e _ _ O.off.ll), (by rw [upd_ne (ne_muts O.nd 2 0 rfl rfl (by decide))]; exact e _ _ O.off.lt), (by rw [upd_ne (ne_muts O.nd 3 0 rfl rfl (by decide))]; exact e _ _ O.off.lo), (by rw [upd_ne (ne_muts O.nd 4 0 rfl rfl (by decide))]; exact e _ _ O.off.lp), (O.off.roads.mono fun _ _ ⟨dx, q⟩ => ⟨dx, g _ _ q⟩).snoc ⟨dx, upd_same⟩, (O.off.limits.mono fun _ _ ⟨dx, q⟩ => ⟨dx, g _ _ q⟩), (O.off.trucks.mono fun _ _ ⟨dx, q⟩ => ⟨dx, g _ _ q⟩), (O.off.lots.mono fun _ _ ⟨dx, q⟩ => ⟨dx, g _ _ q⟩), trips_in O e g (l := A.lr) 0 (by decide) rfl⟩
  · by_cases z : a = p
    · rw [z, upd_same] at h; cases h; rfl
    · rw [upd_ne z] at h; exact O.nod a u h
  · have z : a ≠ p := fun z => by
      rw [z] at h
      exact muts_some O.off h np
    rw [upd_ne z]
    exact O.free a h
theorem OffM.addLimit (O : OffM K G H A s) (e : Ex H H2) (np : H p = none) {r : Limit} (hp : LimitAt K H2 p r) (w : Wf { s with limits := s.limits ++ [r] }) : ∃ G', Stay G H A G' (upd H2 A.ll (.lst (A.rl.map V.ref ++ [.ref p]))) { A with rl := A.rl ++ [p] } ∧ OffM K G' (upd H2 A.ll (.lst (A.rl.map V.ref ++ [.ref p]))) { A with rl := A.rl ++ [p] } { s with limits := s.limits ++ [r] } := by
  obtain ⟨dx, hp⟩ := hp
  have gp : G p = none := Evl.fresh_back O.ex np
  have g := ex_upd (o := .ins (He.ga K "Limit") dx (fLimit r)) gp
  have m : A.ll ∈ muts A := by simp [muts]
  have pl : p ≠ A.ll := fun z => by rw [z, O.off.ll] at np; cases np
  have gs : Ex (upd G p (.ins (He.ga K "Limit") dx (fLimit r))) (upd H2 A.ll (.lst (A.rl.map V.ref ++ [.ref p]))) := fun a u h => by
    by_cases z : a = p
    · subst z
      rw [upd_same] at h
      rw [upd_ne pl, hp, ← h]
    · rw [upd_ne z] at h
      exact ex_in O e m a u h
  refine ⟨_, stay_upd O e m g (fun a u h => ?_) rfl fun a h => .inl h, ⟨?_, gs, fun a u h => ?_, fun a h => ?_, O.nd, w⟩⟩
  · by_cases z : a = p
    · rw [z]; exact .inr np
    · rw [upd_ne z] at h; exact .inl h
  · exact ⟨g _ _ O.off.obj, (by rw [upd_ne (ne_muts O.nd 0 1 rfl rfl (by decide))]; exact e _ _ O.off.lr), (by show upd _ _ _ _ = _; rw [upd_same, List.map_append]; rfl), (by rw [upd_ne (ne_muts O.nd 2 1 rfl rfl (by decide))]; exact e _ _ O.off.lt), (by rw [upd_ne (ne_muts O.nd 3 1 rfl rfl (by decide))]; exact e _ _ O.off.lo), (by rw [upd_ne (ne_muts O.nd 4 1 rfl rfl (by decide))]; exact e _ _ O.off.lp), (O.off.roads.mono fun _ _ ⟨dx, q⟩ => ⟨dx, g _ _ q⟩), (O.off.limits.mono fun _ _ ⟨dx, q⟩ => ⟨dx, g _ _ q⟩).snoc ⟨dx, upd_same⟩, (O.off.trucks.mono fun _ _ ⟨dx, q⟩ => ⟨dx, g _ _ q⟩), (O.off.lots.mono fun _ _ ⟨dx, q⟩ => ⟨dx, g _ _ q⟩), trips_in O e g (l := A.ll) 1 (by decide) rfl⟩
  · by_cases z : a = p
    · rw [z, upd_same] at h; cases h; rfl
    · rw [upd_ne z] at h; exact O.nod a u h
  · have z : a ≠ p := fun z => by
      rw [z] at h
      exact muts_some O.off h np
    rw [upd_ne z]
    exact O.free a h
theorem OffM.addTruck (O : OffM K G H A s) (e : Ex H H2) (np : H p = none) {r : Truck} (hp : TruckAt K H2 p r) (w : Wf { s with trucks := s.trucks ++ [r] }) : ∃ G', Stay G H A G' (upd H2 A.lt (.lst (A.rt.map V.ref ++ [.ref p]))) { A with rt := A.rt ++ [p] } ∧ OffM K G' (upd H2 A.lt (.lst (A.rt.map V.ref ++ [.ref p]))) { A with rt := A.rt ++ [p] } { s with trucks := s.trucks ++ [r] } := by
  obtain ⟨dx, hp⟩ := hp
  have gp : G p = none := Evl.fresh_back O.ex np
  have g := ex_upd (o := .ins (He.ga K "Truck") dx (fTruck r)) gp
  have m : A.lt ∈ muts A := by simp [muts]
  have pl : p ≠ A.lt := fun z => by rw [z, O.off.lt] at np; cases np
  have gs : Ex (upd G p (.ins (He.ga K "Truck") dx (fTruck r))) (upd H2 A.lt (.lst (A.rt.map V.ref ++ [.ref p]))) := fun a u h => by
    by_cases z : a = p
    · subst z
      rw [upd_same] at h
      rw [upd_ne pl, hp, ← h]
    · rw [upd_ne z] at h
      exact ex_in O e m a u h
  refine ⟨_, stay_upd O e m g (fun a u h => ?_) rfl fun a h => .inl h, ⟨?_, gs, fun a u h => ?_, fun a h => ?_, O.nd, w⟩⟩
  · by_cases z : a = p
    · rw [z]; exact .inr np
    · rw [upd_ne z] at h; exact .inl h
  · exact ⟨g _ _ O.off.obj, (by rw [upd_ne (ne_muts O.nd 0 2 rfl rfl (by decide))]; exact e _ _ O.off.lr), (by rw [upd_ne (ne_muts O.nd 1 2 rfl rfl (by decide))]; exact e _ _ O.off.ll), (by show upd _ _ _ _ = _; rw [upd_same, List.map_append]; rfl), (by rw [upd_ne (ne_muts O.nd 3 2 rfl rfl (by decide))]; exact e _ _ O.off.lo), (by rw [upd_ne (ne_muts O.nd 4 2 rfl rfl (by decide))]; exact e _ _ O.off.lp), (O.off.roads.mono fun _ _ ⟨dx, q⟩ => ⟨dx, g _ _ q⟩), (O.off.limits.mono fun _ _ ⟨dx, q⟩ => ⟨dx, g _ _ q⟩), (O.off.trucks.mono fun _ _ ⟨dx, q⟩ => ⟨dx, g _ _ q⟩).snoc ⟨dx, upd_same⟩, (O.off.lots.mono fun _ _ ⟨dx, q⟩ => ⟨dx, g _ _ q⟩), trips_in O e g (l := A.lt) 2 (by decide) rfl⟩
  · by_cases z : a = p
    · rw [z, upd_same] at h; cases h; rfl
    · rw [upd_ne z] at h; exact O.nod a u h
  · have z : a ≠ p := fun z => by
      rw [z] at h
      exact muts_some O.off h np
    rw [upd_ne z]
    exact O.free a h
theorem OffM.addLot (O : OffM K G H A s) (e : Ex H H2) (np : H p = none) {r : Lot} (hp : LotAt K H2 p r) (w : Wf { s with lots := s.lots ++ [r] }) : ∃ G', Stay G H A G' (upd H2 A.lo (.lst (A.ro.map V.ref ++ [.ref p]))) { A with ro := A.ro ++ [p] } ∧ OffM K G' (upd H2 A.lo (.lst (A.ro.map V.ref ++ [.ref p]))) { A with ro := A.ro ++ [p] } { s with lots := s.lots ++ [r] } := by
  obtain ⟨dx, hp⟩ := hp
  have gp : G p = none := Evl.fresh_back O.ex np
  have g := ex_upd (o := .ins (He.ga K "Lot") dx (fLot r)) gp
  have m : A.lo ∈ muts A := by simp [muts]
  have pl : p ≠ A.lo := fun z => by rw [z, O.off.lo] at np; cases np
  have gs : Ex (upd G p (.ins (He.ga K "Lot") dx (fLot r))) (upd H2 A.lo (.lst (A.ro.map V.ref ++ [.ref p]))) := fun a u h => by
    by_cases z : a = p
    · subst z
      rw [upd_same] at h
      rw [upd_ne pl, hp, ← h]
    · rw [upd_ne z] at h
      exact ex_in O e m a u h
  refine ⟨_, stay_upd O e m g (fun a u h => ?_) rfl fun a h => .inl h, ⟨?_, gs, fun a u h => ?_, fun a h => ?_, O.nd, w⟩⟩
  · by_cases z : a = p
    · rw [z]; exact .inr np
    · rw [upd_ne z] at h; exact .inl h
  · exact ⟨g _ _ O.off.obj, (by rw [upd_ne (ne_muts O.nd 0 3 rfl rfl (by decide))]; exact e _ _ O.off.lr), (by rw [upd_ne (ne_muts O.nd 1 3 rfl rfl (by decide))]; exact e _ _ O.off.ll), (by rw [upd_ne (ne_muts O.nd 2 3 rfl rfl (by decide))]; exact e _ _ O.off.lt), (by show upd _ _ _ _ = _; rw [upd_same, List.map_append]; rfl), (by rw [upd_ne (ne_muts O.nd 4 3 rfl rfl (by decide))]; exact e _ _ O.off.lp), (O.off.roads.mono fun _ _ ⟨dx, q⟩ => ⟨dx, g _ _ q⟩), (O.off.limits.mono fun _ _ ⟨dx, q⟩ => ⟨dx, g _ _ q⟩), (O.off.trucks.mono fun _ _ ⟨dx, q⟩ => ⟨dx, g _ _ q⟩), (O.off.lots.mono fun _ _ ⟨dx, q⟩ => ⟨dx, g _ _ q⟩).snoc ⟨dx, upd_same⟩, trips_in O e g (l := A.lo) 3 (by decide) rfl⟩
  · by_cases z : a = p
    · rw [z, upd_same] at h; cases h; rfl
    · rw [upd_ne z] at h; exact O.nod a u h
  · have z : a ≠ p := fun z => by
      rw [z] at h
      exact muts_some O.off h np
    rw [upd_ne z]
    exact O.free a h
end
/-! ### what stays right -/
theorem mem_snoc {α : Type} {l : List α} {x y : α} (h : y ∈ l ++ [x]) : y ∈ l ∨ y = x := by
  rcases List.mem_append.mp h with h | h
  · exact .inl h
  · exact .inr (by simpa using h)
theorem Wf.road {s : Office} (w : Wf s) {r : Road} (ha : r.a < s.n) (hb : r.b < s.n) (hk : r.bears ≤ 100000) (hl : s.roads.length < 32) : Wf { s with roads := s.roads ++ [r] } where
  n16 := w.n16
  r32 := by show (s.roads ++ [r]).length ≤ 32; rw [List.length_append]; show _ + 1 ≤ _; omega
  roads := fun k x h => by
    replace h : (s.roads ++ [r])[k]? = some x := h
    rcases mem_snoc (List.mem_of_getElem? h) with m | m
    · obtain ⟨j, hj⟩ := List.getElem?_of_mem m
      exact w.roads j x hj
    · rw [m]; exact ⟨ha, hb⟩
  bears := fun x m => by
    rcases mem_snoc m with m | m
    · exact w.bears x m
    · rw [m]; exact hk
  l16 := w.l16
  t3 := w.t3
  trucks := w.trucks
  lo24 := w.lo24
  lots := w.lots
  p24 := w.p24
  trips := fun t m => by
    obtain ⟨h1, h2, h3, h4, h5, h6, h7⟩ := w.trips t m
    refine ⟨h1, h2, h3, h4, h5, fun k q => ?_, h7⟩
    have := h6 k q
    show k < (s.roads ++ [r]).length
    rw [List.length_append]
    omega
theorem Wf.limit {s : Office} (w : Wf s) {l : Limit} (hl : s.limits.length < 16) : Wf { s with limits := s.limits ++ [l] } :=
  ⟨w.n16, w.r32, w.roads, w.bears, by show (s.limits ++ [l]).length ≤ 16; rw [List.length_append]; show _ + 1 ≤ _; omega, w.t3, w.trucks, w.lo24, w.lots, w.p24, w.trips⟩
theorem Wf.truck {s : Office} (w : Wf s) {t : Truck} (ht : t.home < s.n) (hl : s.trucks.length < 3) : Wf { s with trucks := s.trucks ++ [t] } where
  n16 := w.n16
  r32 := w.r32
  roads := w.roads
  bears := w.bears
  l16 := w.l16
  t3 := by show (s.trucks ++ [t]).length ≤ 3; rw [List.length_append]; show _ + 1 ≤ _; omega
  trucks := fun x m => by
    rcases mem_snoc m with m | m
    · exact w.trucks x m
    · rw [m]; exact ht
  lo24 := w.lo24
  lots := w.lots
  p24 := w.p24
  trips := fun x m => by
    obtain ⟨h1, h2⟩ := w.trips x m
    refine ⟨?_, h2⟩
    show x.truck < (s.trucks ++ [t]).length
    rw [List.length_append]
    omega
theorem Wf.lot {s : Office} (w : Wf s) {l : Lot} (hp : l.place < s.n) (hm : l.mill < s.n) (hl : s.lots.length < 24) : Wf { s with lots := s.lots ++ [l] } where
  n16 := w.n16
  r32 := w.r32
  roads := w.roads
  bears := w.bears
  l16 := w.l16
  t3 := w.t3
  trucks := w.trucks
  lo24 := by show (s.lots ++ [l]).length ≤ 24; rw [List.length_append]; show _ + 1 ≤ _; omega
  lots := fun x m => by
    rcases mem_snoc m with m | m
    · exact w.lots x m
    · rw [m]; exact ⟨hp, hm⟩
  p24 := w.p24
  trips := fun x m => by
    obtain ⟨h1, h2, h3, h4, h5⟩ := w.trips x m
    refine ⟨h1, h2, h3, fun i q => ?_, h5⟩
    have := h4 i q
    show i < (s.lots ++ [l]).length
    rw [List.length_append]
    omega
theorem Wf.trip {s : Office} (w : Wf s) {t : Trip} (ht : t.truck < s.trucks.length ∧ t.lots ≠ [] ∧ t.lots.length ≤ 24 ∧ (∀ i ∈ t.lots, i < s.lots.length) ∧ t.full.length ≤ 2000 ∧ (∀ k ∈ t.full, k < s.roads.length) ∧ t.scale ≠ some 0) (hl : s.trips.length < 24) : Wf { s with trips := s.trips ++ [some t] } :=
  ⟨w.n16, w.r32, w.roads, w.bears, w.l16, w.t3, w.trucks, w.lo24, w.lots, by show (s.trips ++ [some t]).length ≤ 24; rw [List.length_append]; show _ + 1 ≤ _; omega, fun x m => by
    rcases mem_snoc m with m | m
    · exact w.trips x m
    · cases m; exact ht⟩
theorem Wf.setTrip {s : Office} (w : Wf s) {k : Nat} {o : Option Trip} (ht : ∀ t, o = some t → t.truck < s.trucks.length ∧ t.lots ≠ [] ∧ t.lots.length ≤ 24 ∧ (∀ i ∈ t.lots, i < s.lots.length) ∧ t.full.length ≤ 2000 ∧ (∀ k ∈ t.full, k < s.roads.length) ∧ t.scale ≠ some 0) : Wf { s with trips := s.trips.set k o } :=
  ⟨w.n16, w.r32, w.roads, w.bears, w.l16, w.t3, w.trucks, w.lo24, w.lots, by show (s.trips.set k o).length ≤ 24; rw [List.length_set]; exact w.p24, fun x m => by
    rcases List.mem_or_eq_of_mem_set m with m | m
    · exact w.trips x m
    · exact ht x m.symm⟩
end Th
namespace Th
open PySem PySem.Spec PyProof.Rows L2
open Evl (Ex Ev EvT EvL EvA given)
/-! ### the module's tables -/
def Tab2 {β : Type} (P : Value → β → Prop) : List (Int × Value) → List (Int × β) → Prop
  | [], [] => True
  | (k, u) :: l, (j, r) :: L => k = j ∧ P u r ∧ Tab2 P l L
  | _, _ => False
def lkI {β : Type} (i : Int) (L : List (Int × β)) : Option β := (L.find? fun x => x.1 = i).map (·.2)
theorem tab2_keys {β : Type} {P : Value → β → Prop} : ∀ {l : List (Int × Value)} {L : List (Int × β)}, Tab2 P l L → l.map (·.1) = L.map (·.1)
  | [], [], _ => rfl
  | [], _ :: _, h => h.elim
  | (_, _) :: _, [], h => h.elim
  | (k, u) :: l, (j, r) :: L, ⟨h1, _, h3⟩ => by
    rw [List.map_cons, List.map_cons, tab2_keys h3, h1]
theorem tab2_at {β : Type} {P : Value → β → Prop} (i : Int) : ∀ {l : List (Int × Value)} {L : List (Int × β)}, Tab2 P l L → (∃ u r, valueAt l i = some u ∧ lkI i L = some r ∧ P u r) ∨ (valueAt l i = none ∧ lkI i L = none)
  | [], [], _ => .inr ⟨rfl, rfl⟩
  | [], _ :: _, h => h.elim
  | (_, _) :: _, [], h => h.elim
  | (k, u) :: l, (j, r) :: L, ⟨h1, h2, h3⟩ => by
    subst h1
    by_cases e : k = i
    · exact .inl ⟨u, r, by simp [valueAt, e], by simp [lkI, e], h2⟩
    · have ih := tab2_at i h3
      have e1 : valueAt ((k, u) :: l) i = valueAt l i := by simp [valueAt, e]
      have e2 : lkI i ((k, r) :: L) = lkI i L := by simp [lkI, e]
      rw [e1, e2]
      exact ih
theorem mapO_tab {β : Type} {T : Value → Option β} {f : Int × Value → Option (Int × β)} (hf : ∀ x, f x = (T x.2).map fun r => (x.1, r)) : ∀ {l : List (Int × Value)} {L : List (Int × β)}, mapO f l = some L → Tab2 (fun u r => T u = some r) l L
  | [], L, h => by cases h; trivial
  | (k, u) :: l, L, h => by
    unfold mapO at h
    rw [hf] at h
    cases q : T u with
    | none => rw [show T (k, u).2 = none from q] at h; cases h
    | some r =>
      rw [show T (k, u).2 = some r from q] at h
      dsimp only [Option.map] at h
      cases q2 : mapO f l with
      | none => rw [q2] at h; cases h
      | some L' =>
        rw [q2] at h
        cases h
        exact ⟨rfl, q, mapO_tab hf q2⟩
theorem nums_tab : ∀ {l : List (Int × Value)} {L : List (Int × Int)}, nums l = some L → Tab2 (fun u r => RelV (.int r) u) l L
  | [], L, h => by cases h; trivial
  | (k, u) :: l, L, h => by
    cases u with
    | int j t =>
      unfold nums at h
      cases q : nums l with
      | none => rw [q] at h; cases h
      | some L' =>
        rw [q] at h
        cases h
        exact ⟨rfl, ⟨t, rfl⟩, nums_tab q⟩
    | _ => cases h
theorem adrs_tab : ∀ {l : List (Int × Value)} {L : List (Int × Addr)}, adrs l = some L → Tab2 (fun u r => u = .ref r) l L
  | [], L, h => by cases h; trivial
  | (k, u) :: l, L, h => by
    cases u with
    | ref a =>
      unfold adrs at h
      cases q : adrs l with
      | none => rw [q] at h; cases h
      | some L' =>
        rw [q] at h
        cases h
        exact ⟨rfl, rfl, adrs_tab q⟩
    | _ => cases h
section
variable {K : PySem.W.Frag} {mg : Str → Option Value} {H : Hp}
theorem intsV_vals : ∀ {l : List Value} {ns : List Int}, intsV l = some ns → Vals (ns.map V.int) l
  | [], ns, h => by cases h; exact .nil
  | u :: l, ns, h => by
    cases u with
    | int i t =>
      unfold intsV at h
      cases q : intsV l with
      | none => rw [q] at h; cases h
      | some ms =>
        rw [q] at h
        cases h
        exact .cons ⟨t, rfl⟩ (intsV_vals q)
    | _ => cases h
theorem tupV_sq {v : Value} {l : List Value} {xs : List V} (h : tupV K v = some l) (r : Vals xs l) : ∃ t, v = .ref t ∧ SqT K H t xs := by
  cases v with
  | ref t =>
    unfold tupV at h
    dsimp only at h
    cases q : K.lookup t with
    | none => rw [q] at h; cases h
    | some o =>
      obtain ⟨oc, od, dt, osl⟩ := o
      rw [q] at h
      cases oc with
      | type c =>
        cases dt with
        | seq its n =>
          dsimp only at h
          cases cc : decide (c = "tuple") && decide (its.size ≤ 1000) with
          | false => rw [cc] at h; cases h
          | true =>
            rw [cc] at h
            cases h
            obtain ⟨c1, c2⟩ := Bool.and_eq_true_iff.mp cc
            have hs : its.size ≤ 1000 := of_decide_eq_true c2
            refine ⟨t, rfl, .inr ⟨_, its, n, q, ?_, rfl, by rw [sizeLine_eq]; omega, r⟩⟩
            rw [of_decide_eq_true c1]
        | _ => cases h
      | _ => cases dt <;> cases h
  | _ => cases h
theorem tupI_sq {v : Value} {ns : List Int} (h : tupI K v = some ns) : ∃ t, v = .ref t ∧ SqT K H t (ns.map V.int) := by
  unfold tupI at h
  cases q : tupV K v with
  | none => rw [q] at h; cases h
  | some l =>
    rw [q] at h
    exact tupV_sq q (intsV_vals h)
theorem mapO_rows : ∀ {l : List Value} {rows : List (List Int)}, mapO (tupI K) l = some rows → ∃ as : List Addr, Vals (as.map V.ref) l ∧ as.length = rows.length ∧ ∀ (i : Nat) row, rows[i]? = some row → ∃ a, as[i]? = some a ∧ SqT K H a (row.map V.int)
  | [], rows, h => by cases h; exact ⟨[], .nil, rfl, fun i row e => by simp at e⟩
  | u :: l, rows, h => by
    unfold mapO at h
    cases q : tupI K u with
    | none => rw [q] at h; cases h
    | some ns =>
      rw [q] at h
      dsimp only at h
      cases q2 : mapO (tupI K) l with
      | none => rw [q2] at h; cases h
      | some L =>
        rw [q2] at h
        cases h
        obtain ⟨as, v1, v2, v3⟩ := mapO_rows q2
        obtain ⟨a, rfl, sq⟩ := tupI_sq (H := H) q
        refine ⟨a :: as, .cons rfl v1, by simp [v2], fun i row e => ?_⟩
        cases i with
        | zero => cases e; exact ⟨a, rfl, sq⟩
        | succ i => exact v3 i row e
/-- a tuple of tuples of numbers -/
def Rows2 (K : PySem.W.Frag) (H : Hp) (t : Addr) (rows : List (List Int)) : Prop := ∃ as : List Addr, SqT K H t (as.map V.ref) ∧ as.length = rows.length ∧ ∀ (i : Nat) row, rows[i]? = some row → ∃ a, as[i]? = some a ∧ SqT K H a (row.map V.int)
theorem tupT_rows {v : Value} {rows : List (List Int)} (h : tupT K v = some rows) : ∃ t, v = .ref t ∧ Rows2 K H t rows := by
  unfold tupT at h
  cases q : tupV K v with
  | none => rw [q] at h; cases h
  | some l =>
    rw [q] at h
    obtain ⟨as, v1, v2, v3⟩ := mapO_rows (H := H) h
    obtain ⟨t, e, sq⟩ := tupV_sq (H := H) q v1
    exact ⟨t, e, as, sq, v2, v3⟩
theorem Txt.tabs' (T : Txt K mg) : rangesK K = some rangesL ∧ rowsK K = some rowsL ∧ numK K "SPANS" = some spansL ∧ adrK K "DEEDS" = some (refsL K deedsL) ∧ adrK K "DEEDS_WITH_ROW" = some (refsL K deedsRL) := by
  have h := T.tabs
  unfold tabsB at h
  obtain ⟨h1, h⟩ := Bool.and_eq_true_iff.mp h
  obtain ⟨h2, h⟩ := Bool.and_eq_true_iff.mp h
  obtain ⟨h3, h⟩ := Bool.and_eq_true_iff.mp h
  obtain ⟨h4, h5⟩ := Bool.and_eq_true_iff.mp h
  exact ⟨of_decide_eq_true h1, of_decide_eq_true h2, of_decide_eq_true h3, of_decide_eq_true h4, of_decide_eq_true h5⟩
theorem Txt.ranges (T : Txt K mg) : ∃ kvs, WDict K (He.ga K "RANGES") kvs ∧ Tab2 (fun u r => tupT K u = some r) kvs rangesL := by
  have h := T.tabs'.1
  unfold rangesK at h
  cases q : dictI K (He.ga K "RANGES") with
  | none => rw [q] at h; cases h
  | some l =>
    rw [q] at h
    dsimp only at h
    have t := mapO_tab (T := tupT K) (fun x => by cases tupT K x.2 <;> rfl) h
    exact ⟨l, ⟨q, by rw [tab2_keys t]; decide⟩, t⟩
theorem Txt.rows (T : Txt K mg) : ∃ kvs, WDict K (He.ga K "ROWS") kvs ∧ Tab2 (fun u r => tupI K u = some r) kvs rowsL := by
  have h := T.tabs'.2.1
  unfold rowsK at h
  cases q : dictI K (He.ga K "ROWS") with
  | none => rw [q] at h; cases h
  | some l =>
    rw [q] at h
    dsimp only at h
    have t := mapO_tab (T := tupI K) (fun x => by cases tupI K x.2 <;> rfl) h
    exact ⟨l, ⟨q, by rw [tab2_keys t]; decide⟩, t⟩
theorem Txt.spans (T : Txt K mg) : ∃ kvs, WDict K (He.ga K "SPANS") kvs ∧ Tab2 (fun u r => RelV (.int r) u) kvs spansL := by
  have h := T.tabs'.2.2.1
  unfold numK at h
  cases q : dictI K (He.ga K "SPANS") with
  | none => rw [q] at h; cases h
  | some l =>
    rw [q] at h
    have t := nums_tab h
    exact ⟨l, ⟨q, by rw [tab2_keys t]; decide⟩, t⟩
theorem refs_keys (K : PySem.W.Frag) (l : List (Int × Str)) : (refsL K l).map (·.1) = l.map (·.1) := by
  unfold refsL
  rw [List.map_map]
  rfl
theorem Txt.deeds (T : Txt K mg) : ∃ kvs, WDict K (He.ga K "DEEDS") kvs ∧ Tab2 (fun u r => u = .ref r) kvs (refsL K deedsL) := by
  have h := T.tabs'.2.2.2.1
  unfold adrK at h
  cases q : dictI K (He.ga K "DEEDS") with
  | none => rw [q] at h; cases h
  | some l =>
    rw [q] at h
    have t := adrs_tab h
    exact ⟨l, ⟨q, by rw [tab2_keys t, refs_keys]; decide⟩, t⟩
theorem Txt.deedsR (T : Txt K mg) : ∃ kvs, WDict K (He.ga K "DEEDS_WITH_ROW") kvs ∧ Tab2 (fun u r => u = .ref r) kvs (refsL K deedsRL) := by
  have h := T.tabs'.2.2.2.2
  unfold adrK at h
  cases q : dictI K (He.ga K "DEEDS_WITH_ROW") with
  | none => rw [q] at h; cases h
  | some l =>
    rw [q] at h
    have t := adrs_tab h
    exact ⟨l, ⟨q, by rw [tab2_keys t, refs_keys]; decide⟩, t⟩
end
/-! ### what is in range -/
def inR (rows : List (List Int)) (ns : List Int) : Bool := (ns.zip rows).all fun x => decide (x.2.getD 0 0 ≤ x.1) && decide (x.1 ≤ x.2.getD 1 0)
def rowR (c : Int) (zs : List Int) : Bool := match lkI c rowsL with
  | none => true
  | some r => (decide (r.getD 0 0 ≤ (zs.length : Int)) && decide ((zs.length : Int) ≤ r.getD 1 0)) && zs.all fun z => decide (r.getD 2 0 ≤ z) && decide (z ≤ r.getD 3 0)
def spanR (c : Int) (ns : List Int) : Bool := match lkI c spansL with
  | none => true
  | some k => decide (0 ≤ ns.getD (k.toNat + 1) 0 - ns.getD k.toNat 0) && decide (ns.getD (k.toNat + 1) 0 - ns.getD k.toNat 0 ≤ 4)
theorem lkI_mem {β : Type} {i : Int} {L : List (Int × β)} {r : β} (h : lkI i L = some r) : (i, r) ∈ L := by
  unfold lkI at h
  cases q : L.find? fun x => x.1 = i with
  | none => rw [q] at h; cases h
  | some x =>
    rw [q] at h
    cases h
    have e : x.1 = i := by simpa using List.find?_some q
    have m := List.mem_of_find?_eq_some q
    rw [← e]
    exact m
theorem ranges_two : ∀ x ∈ rangesL, ∀ r ∈ x.2, r.length = 2 := by decide
theorem rows_four : ∀ x ∈ rowsL, x.2.length = 4 := by decide
theorem spans_two : ∀ x ∈ spansL, x.2 = 0 ∨ x.2 = 1 := by decide
end Th
namespace Th
open PySem PySem.Spec PyProof.Rows L2
/-! ### calls one behind another, cut up -/
def cP (c : List (List Int)) : Int := (c.headD []).headD 0
def cN (c : List (List Int)) : List Int := (c.headD []).drop 1
def cR (c : List (List Int)) : List Int := c.getD 1 []
theorem shape_tab {p : Int} {n k : Nat} (h : PyWrtiha.shape p = some (n, k)) : (∃ rows, lkI p rangesL = some rows ∧ rows.length = n) ∧ (lkI p rowsL).isSome = decide (k = 1) ∧ k ≤ 1 ∧ (∀ a, lkI p spansL = some a → a.toNat + 1 < n) := by
  unfold PyWrtiha.shape at h
  by_cases e1 : p = 1
  · rw [if_pos e1] at h
    cases h
    subst e1
    exact ⟨⟨_, rfl, rfl⟩, rfl, by decide, fun a e => by have z : lkI 1 spansL = none := rfl; rw [z] at e; cases e⟩
  rw [if_neg e1] at h
  by_cases e2 : p = 2
  · rw [if_pos e2] at h
    cases h
    subst e2
    exact ⟨⟨_, rfl, rfl⟩, rfl, by decide, fun a e => by have z : lkI 2 spansL = none := rfl; rw [z] at e; cases e⟩
  rw [if_neg e2] at h
  by_cases e3 : p = 3
  · rw [if_pos e3] at h
    cases h
    subst e3
    exact ⟨⟨_, rfl, rfl⟩, rfl, by decide, fun a e => by have z : lkI 3 spansL = none := rfl; rw [z] at e; cases e⟩
  rw [if_neg e3] at h
  by_cases e4 : p = 4
  · rw [if_pos e4] at h
    cases h
    subst e4
    exact ⟨⟨_, rfl, rfl⟩, rfl, by decide, fun a e => by have z : lkI 4 spansL = none := rfl; rw [z] at e; cases e⟩
  rw [if_neg e4] at h
  by_cases e5 : p = 5
  · rw [if_pos e5] at h
    cases h
    subst e5
    exact ⟨⟨_, rfl, rfl⟩, rfl, by decide, fun a e => by have z : lkI 5 spansL = none := rfl; rw [z] at e; cases e⟩
  rw [if_neg e5] at h
  by_cases e6 : p = 6
  · rw [if_pos e6] at h
    cases h
    subst e6
    exact ⟨⟨_, rfl, rfl⟩, rfl, by decide, fun a e => by have z : lkI 6 spansL = none := rfl; rw [z] at e; cases e⟩
  rw [if_neg e6] at h
  by_cases e7 : p = 7
  · rw [if_pos e7] at h
    cases h
    subst e7
    exact ⟨⟨_, rfl, rfl⟩, rfl, by decide, fun a e => by have z : lkI 7 spansL = none := rfl; rw [z] at e; cases e⟩
  rw [if_neg e7] at h
  by_cases e8 : p = 8
  · rw [if_pos e8] at h
    cases h
    subst e8
    exact ⟨⟨_, rfl, rfl⟩, rfl, by decide, fun a e => by have z : lkI 8 spansL = none := rfl; rw [z] at e; cases e⟩
  rw [if_neg e8] at h
  by_cases e9 : p = 9
  · rw [if_pos e9] at h
    cases h
    subst e9
    exact ⟨⟨_, rfl, rfl⟩, rfl, by decide, fun a e => by have z : lkI 9 spansL = none := rfl; rw [z] at e; cases e⟩
  rw [if_neg e9] at h
  by_cases e10 : p = 10
  · rw [if_pos e10] at h
    cases h
    subst e10
    exact ⟨⟨_, rfl, rfl⟩, rfl, by decide, fun a e => by have z : lkI 10 spansL = none := rfl; rw [z] at e; cases e⟩
  rw [if_neg e10] at h
  by_cases e11 : p = 11
  · rw [if_pos e11] at h
    cases h
    subst e11
    exact ⟨⟨_, rfl, rfl⟩, rfl, by decide, fun a e => by have z : lkI 11 spansL = none := rfl; rw [z] at e; cases e⟩
  rw [if_neg e11] at h
  by_cases e12 : p = 12
  · rw [if_pos e12] at h
    cases h
    subst e12
    exact ⟨⟨_, rfl, rfl⟩, rfl, by decide, fun a e => by have z : lkI 12 spansL = none := rfl; rw [z] at e; cases e⟩
  rw [if_neg e12] at h
  by_cases e13 : p = 13
  · rw [if_pos e13] at h
    cases h
    subst e13
    exact ⟨⟨_, rfl, rfl⟩, rfl, by decide, fun a e => by have z : lkI 13 spansL = none := rfl; rw [z] at e; cases e⟩
  rw [if_neg e13] at h
  by_cases e14 : p = 14
  · rw [if_pos e14] at h
    cases h
    subst e14
    exact ⟨⟨_, rfl, rfl⟩, rfl, by decide, fun a e => by have z : lkI 14 spansL = none := rfl; rw [z] at e; cases e⟩
  rw [if_neg e14] at h
  by_cases e15 : p = 15
  · rw [if_pos e15] at h
    cases h
    subst e15
    exact ⟨⟨_, rfl, rfl⟩, rfl, by decide, fun a e => by have z : lkI 15 spansL = none := rfl; rw [z] at e; cases e⟩
  rw [if_neg e15] at h
  by_cases e16 : p = 16
  · rw [if_pos e16] at h
    cases h
    subst e16
    exact ⟨⟨_, rfl, rfl⟩, rfl, by decide, fun a e => by have z : lkI 16 spansL = none := rfl; rw [z] at e; cases e⟩
  rw [if_neg e16] at h
  by_cases e17 : p = 17
  · rw [if_pos e17] at h
    cases h
    subst e17
    exact ⟨⟨_, rfl, rfl⟩, rfl, by decide, fun a e => by have z : lkI 17 spansL = some 1 := rfl; rw [z] at e; cases e; decide⟩
  rw [if_neg e17] at h
  by_cases e18 : p = 18
  · rw [if_pos e18] at h
    cases h
    subst e18
    exact ⟨⟨_, rfl, rfl⟩, rfl, by decide, fun a e => by have z : lkI 18 spansL = some 0 := rfl; rw [z] at e; cases e; decide⟩
  rw [if_neg e18] at h
  by_cases e19 : p = 19
  · rw [if_pos e19] at h
    cases h
    subst e19
    exact ⟨⟨_, rfl, rfl⟩, rfl, by decide, fun a e => by have z : lkI 19 spansL = some 0 := rfl; rw [z] at e; cases e; decide⟩
  rw [if_neg e19] at h
  by_cases e20 : p = 20
  · rw [if_pos e20] at h
    cases h
    subst e20
    exact ⟨⟨_, rfl, rfl⟩, rfl, by decide, fun a e => by have z : lkI 20 spansL = some 1 := rfl; rw [z] at e; cases e; decide⟩
  rw [if_neg e20] at h
  cases h
theorem rows_one {r : List Int} {xs : List (List Int)} {t : List Int} (h : PyFlat.rows 1 r = some (xs, t)) : ∃ m r', r = m :: r' ∧ 0 ≤ m ∧ m.toNat ≤ r'.length ∧ xs = [r'.take m.toNat] ∧ t = r'.drop m.toNat := by
  unfold PyFlat.rows PyFlat.row at h
  cases r with
  | nil => cases h
  | cons m r' =>
    by_cases c : 0 ≤ m ∧ m.toNat ≤ r'.length
    · simp only [if_pos c] at h
      unfold PyFlat.rows at h
      cases h
      exact ⟨m, r', rfl, c.1, c.2, rfl, rfl⟩
    · simp only [if_neg c] at h
      cases h
/-- one call, cut off at place a: how far it goes -/
theorem call_step {zs : List Int} {a f : Nat} {cs : List (List (List Int))} (ha : a < zs.length) (h : PyFlat.calls PyWrtiha.shape f (zs.drop a) = some cs) :
    ∃ n k c cs' f', PyWrtiha.shape (zs.getD a 0) = some (n, k) ∧ cs = c :: cs' ∧ a + 1 + n ≤ zs.length ∧ cP c = zs.getD a 0 ∧ cN c = (zs.drop (a + 1)).take n ∧ (cN c).length = n ∧ c.length = k + 1 ∧
      ((k = 0 ∧ cR c = [] ∧ PyFlat.calls PyWrtiha.shape f' (zs.drop (a + 1 + n)) = some cs') ∨
       (k = 1 ∧ a + 1 + n < zs.length ∧ 0 ≤ zs.getD (a + 1 + n) 0 ∧ a + 1 + n + 1 + (zs.getD (a + 1 + n) 0).toNat ≤ zs.length ∧ cR c = (zs.drop (a + 1 + n + 1)).take (zs.getD (a + 1 + n) 0).toNat ∧ (cR c).length = (zs.getD (a + 1 + n) 0).toNat ∧ PyFlat.calls PyWrtiha.shape f' (zs.drop (a + 1 + n + 1 + (zs.getD (a + 1 + n) 0).toNat)) = some cs')) := by
  have ed : zs.drop a = zs.getD a 0 :: zs.drop (a + 1) := by
    rw [List.drop_eq_getElem_cons ha, List.getD_eq_getElem?_getD, List.getElem?_eq_getElem ha]
    rfl
  rw [ed] at h
  cases f with
  | zero => unfold PyFlat.calls at h; cases h
  | succ f =>
    unfold PyFlat.calls at h
    cases q : PyFlat.call PyWrtiha.shape (zs.getD a 0 :: zs.drop (a + 1)) with
    | none => rw [q] at h; cases h
    | some ct =>
      obtain ⟨c, t⟩ := ct
      rw [q] at h
      dsimp only at h
      cases q2 : PyFlat.calls PyWrtiha.shape f t with
      | none => rw [q2] at h; cases h
      | some cs' =>
        rw [q2] at h
        cases h
        unfold PyFlat.call at q
        cases q3 : PyWrtiha.shape (zs.getD a 0) with
        | none => simp only [q3] at q; cases q
        | some nk =>
          obtain ⟨n, k⟩ := nk
          simp only [q3] at q
          by_cases hl : (zs.drop (a + 1)).length < n
          · rw [if_pos hl] at q; cases q
          · rw [if_neg hl] at q
            rw [List.length_drop] at hl
            have hn : a + 1 + n ≤ zs.length := by omega
            have k1 := (shape_tab q3).2.2.1
            have hnl : ((zs.drop (a + 1)).take n).length = n := by rw [List.length_take, List.length_drop]; omega
            have ed2 : (zs.drop (a + 1)).drop n = zs.drop (a + 1 + n) := by rw [List.drop_drop]
            rw [ed2] at q
            rcases Nat.lt_or_ge k 1 with z | z
            · have k0 : k = 0 := by omega
              subst k0
              unfold PyFlat.rows at q
              cases q
              exact ⟨n, 0, _, cs', f, rfl, rfl, hn, rfl, rfl, hnl, rfl, .inl ⟨rfl, rfl, q2⟩⟩
            · have k0 : k = 1 := by omega
              subst k0
              cases q4 : PyFlat.rows 1 (zs.drop (a + 1 + n)) with
              | none => rw [q4] at q; cases q
              | some xt =>
                obtain ⟨xs, t'⟩ := xt
                rw [q4] at q
                cases q
                obtain ⟨m, r', e1, e2, e3, e4, e5⟩ := rows_one q4
                have hlt : a + 1 + n < zs.length := by
                  rcases Nat.lt_or_ge (a + 1 + n) zs.length with y | y
                  · exact y
                  · rw [List.drop_eq_nil_of_le y] at e1; cases e1
                have ed3 : zs.drop (a + 1 + n) = zs.getD (a + 1 + n) 0 :: zs.drop (a + 1 + n + 1) := by
                  rw [List.drop_eq_getElem_cons hlt, List.getD_eq_getElem?_getD, List.getElem?_eq_getElem hlt]
                  rfl
                rw [ed3] at e1
                injection e1 with em er
                subst er em e4 e5
                rw [List.length_drop] at e3
                refine ⟨n, 1, _, cs', f, rfl, rfl, hn, rfl, rfl, hnl, rfl, .inr ⟨rfl, hlt, e2, by omega, rfl, ?_, ?_⟩⟩
                · show ((zs.drop (a + 1 + n + 1)).take (zs.getD (a + 1 + n) 0).toNat).length = (zs.getD (a + 1 + n) 0).toNat
                  rw [List.length_take, List.length_drop]
                  omega
                · rw [← List.drop_drop]
                  exact q2
theorem call_done {zs : List Int} {a f : Nat} {cs : List (List (List Int))} (ha : zs.length ≤ a) (h : PyFlat.calls PyWrtiha.shape f (zs.drop a) = some cs) : cs = [] := by
  rw [List.drop_eq_nil_of_le ha] at h
  unfold PyFlat.calls at h
  cases h
  rfl
end Th
namespace Th
open PySem PySem.Spec PyProof.Rows L2
open TimHaul (Road Limit Truck Lot Trip Office before)
open Evl (Ex Ev EvL EvT EvA)
section
variable {PP : Program} {w : World} {K : PySem.W.Frag} {mg : Str → Option Value} {base : Heap}
/-- the numbers of the trips that aren't called off, rising -/
def standing (s : Office) : List Nat := (s.trips.zipIdx.filter fun x => x.1.isSome).map Prod.snd
def sp_Office_standing_trips (K : PySem.W.Frag) : Sp := fun vs H Q _ => ∃ (A : OA) (s : Office), vs = [.ref A.a] ∧ OffR K H A s ∧ s.trips.length ≤ 24 ∧
  ∀ p H', H p = none → Ex H H' → H' p = some (.lst (nv (standing s))) → Q (.ref p) H'
theorem trip_off {K : PySem.W.Frag} {mg : Str → Option Value} {H : Hp} {p : Addr} {o : Option Trip} (h : TripAt K H H p o) : ∃ dx t la ra, H p = some (.ins (He.ga K "Trip") dx (fTrip t la ra (!o.isSome))) := by
  cases o with
  | none => obtain ⟨t, dx, la, ra, q⟩ := h; exact ⟨dx, t, la, ra, q⟩
  | some t => obtain ⟨dx, la, ra, q, _⟩ := h; exact ⟨dx, t, la, ra, q⟩
theorem zip_both {α β : Type} {as : List α} {bs : List β} (hl : as.length = bs.length) {i : Nat} {a : α} {b : β} (h : (as.zip bs)[i]? = some (a, b)) : as[i]? = some a ∧ bs[i]? = some b := by
  rw [List.getElem?_zip_eq_some] at h
  exact h
theorem sc_Office_standing_trips : FnScope (["self", "at", "trip"] : List Str) ["self"] (defScope s_Office_standing_trips) := ⟨rfl, rfl, rfl, by decide +kernel, rfl, by decide +kernel, by decide +kernel⟩
theorem c_Office_standing_trips (T : Txt K mg) : Cal PP w K mg base 1 (He.ma K (He.ga K "Office") "standing_trips") ["self"] (sp_Office_standing_trips K) := by
  refine Cal.of T.f_Office_standing_trips sc_Office_standing_trips (fun vs H Q E h => ?_) (fun _ _ _ _ _ _ us hl => match us, hl with | [_], _ => rfl) (fun cdv A outer s H vs Q E hr h => ?_)
  · obtain ⟨A, s, rfl, O, hz, k⟩ := h
    rfl
  · obtain ⟨A, s, rfl, O, hz, k⟩ := h
    refine ⟨_, (pss_one (ps_ret (pe_lc (own := [("at", 1), ("trip", 2)]) (g := (gTup K 2 (gCons (gName 1) (gCons (gName 2) gNil)))) (tt := (tNot (tB (tFld K (tVar 2) "called_off")))) (te := (tVar 1)) rfl sc_Office_standing_trips.nd (pi_enum (by rfl) T.n_enumerate (pa_cons (pe_fld (pv 0) rfl) pa_nil)) (blkOk_by (own := [("at", 1), ("trip", 2)]) (N := (["self", "at", "trip"] : List Str)) (sc := defScope s_Office_standing_trips) (by decide +kernel)) (fun _ _ _ _ _ => (pg_tup rfl (pgs_cons (pg_name (i := 1) sc_Office_standing_trips.nd rfl (Or.inl rfl)) (pgs_cons (pg_name (i := 2) sc_Office_standing_trips.nd rfl (Or.inl rfl)) pgs_nil)))) (fun _ _ _ _ _ => pts_one (pt_not (pt_val (pe_fld (pv 2) rfl)))) (fun _ _ _ _ _ => (pv 1))))), ?_⟩
    have hl : A.rp.length = s.trips.length := O.trips.1
    have hm : (A.rp.zip s.trips).map (fun x => V.ref x.1) = A.rp.map V.ref := by
      have e : (A.rp.zip s.trips).map Prod.fst = A.rp := List.map_fst_zip (by omega)
      rw [show (fun x : Addr × Option Trip => V.ref x.1) = V.ref ∘ Prod.fst from rfl, ← List.map_map, e]
    refine (el_enum (K := K) (a := A.lp) (ls := A.rp.zip s.trips) (r := fun x => V.ref x.1) (fun x => x.1.2.isSome) (fun x => .int (x.2 : Int)) (ev_fld (C := He.ga K "Office") (Evl.ev_var rfl) O.obj T.c_Office T.a_Office_trips (lOffice_trips _ _)) (by rw [hm]; exact SqL.of O.lp) (by rw [List.length_zip]; omega) (fun _ _ => rfl) (fun i y hy H1 e1 => ?_) (fun i y _ H1 e1 _ => Evl.ev_var rfl)) H (Ex.refl H) _ fun D H2 hD e2 hq => ?_
    · obtain ⟨a, o⟩ := y
      obtain ⟨h1, h2⟩ := zip_both hl hy
      obtain ⟨p, hp, ht⟩ := O.trips.2 i o h2
      rw [h1] at hp
      cases hp
      obtain ⟨dx, t, la, ra, ho⟩ := trip_off (mg := mg) ht
      refine Evl.et_is (Evl.et_not (Evl.et_B (ev_fld (C := He.ga K "Trip") (Evl.ev_var rfl) (e1 _ _ ho) T.c_Trip T.a_Trip_called_off (lTrip_called_off _ _ _ _)))) ?_
      show (!!o.isSome) = o.isSome
      cases o.isSome <;> rfl
    · refine k D H2 hD e2 ?_
      rw [hq]
      have e : ((A.rp.zip s.trips).zipIdx.filter fun x => x.1.2.isSome).map (fun x => V.int (x.2 : Int)) = nv (standing s) := by
        have e1 : (A.rp.zip s.trips).zipIdx.map (fun x => (x.1.2, x.2)) = s.trips.zipIdx := by
          have e2 : (A.rp.zip s.trips).map Prod.snd = s.trips := List.map_snd_zip (by omega)
          have e3 : s.trips.zipIdx = ((A.rp.zip s.trips).map Prod.snd).zipIdx := by rw [e2]
          rw [e3, List.zipIdx_map]
          rfl
        unfold standing nv
        rw [← e1, List.filter_map, List.map_map, List.map_map]
        rfl
      rw [e]
end
end Th
namespace Th
open PySem PySem.Spec PyProof.Rows L2
open TimHaul (Road Limit Truck Lot Trip Office before)
open Evl (Ex Ev EvL EvT EvA)
section
variable {PP : Program} {w : World} {K : PySem.W.Frag} {mg : Str → Option Value} {base : Heap}
/-- the row of what is left, by the trips looked at -/
def cross (l : List Bool) (ls : List Nat) : List Bool := ls.foldl (fun l i => l.set i false) l
theorem cross_len : ∀ (ls : List Nat) (l : List Bool), (cross l ls).length = l.length
  | [], _ => rfl
  | i :: ls, l => by
    show (cross (l.set i false) ls).length = _
    rw [cross_len ls, List.length_set]
theorem cross_snoc (l : List Bool) (ls : List Nat) (i : Nat) : cross l (ls ++ [i]) = (cross l ls).set i false := by
  unfold cross
  rw [List.foldl_append]
  rfl
theorem cross_get : ∀ (ls : List Nat) (l : List Bool) (j : Nat), (cross l ls)[j]? = (l[j]?).map fun b => b && !ls.contains j
  | [], l, j => by
    show l[j]? = _
    cases l[j]? <;> simp
  | i :: ls, l, j => by
    show (cross (l.set i false) ls)[j]? = _
    rw [cross_get ls, List.getElem?_set]
    by_cases h : i = j
    · subst h
      rw [if_pos rfl]
      by_cases hl : i < l.length
      · rw [if_pos hl, List.getElem?_eq_getElem hl]
        simp
      · rw [if_neg hl, List.getElem?_eq_none (by omega)]
        rfl
    · rw [if_neg h]
      cases l[j]? with
      | none => rfl
      | some b => simp [Ne.symm h]
def tripLots (s : Office) (k : Nat) : List Nat := match s.trips[k]? with
  | some (some t) => t.lots
  | _ => []
def crossed (s : Office) (ks : List Nat) : List Bool := ks.foldl (fun l k => cross l (tripLots s k)) (List.replicate s.lots.length true)
theorem crossed_snoc (s : Office) (ks : List Nat) (k : Nat) : crossed s (ks ++ [k]) = cross (crossed s ks) (tripLots s k) := by
  unfold crossed
  rw [List.foldl_append]
  rfl
theorem crossed_go (s : Office) : ∀ (ks : List Nat) (l : List Bool) (j : Nat), (ks.foldl (fun l k => cross l (tripLots s k)) l)[j]? = (l[j]?).map fun b => b && !ks.any fun k => (tripLots s k).contains j
  | [], l, j => by
    show l[j]? = _
    cases l[j]? <;> simp
  | k :: ks, l, j => by
    show (ks.foldl _ (cross l (tripLots s k)))[j]? = _
    rw [crossed_go s ks, cross_get]
    cases l[j]? with
    | none => rfl
    | some b =>
      simp only [Option.map_some, List.any_cons]
      congr 1
      cases b <;> cases (tripLots s k).contains j <;> simp
theorem standing_mem {s : Office} {k : Nat} : k ∈ standing s ↔ ∃ t, s.trips[k]? = some (some t) := by
  unfold standing
  rw [List.mem_map]
  constructor
  · rintro ⟨⟨o, i⟩, h, rfl⟩
    rw [List.mem_filter, List.mem_zipIdx_iff_getElem?] at h
    obtain ⟨h1, h2⟩ := h
    cases o with
    | none => cases h2
    | some t => exact ⟨t, h1⟩
  · rintro ⟨t, h⟩
    exact ⟨(some t, k), List.mem_filter.mpr ⟨List.mem_zipIdx_iff_getElem?.mpr h, rfl⟩, rfl⟩
theorem goes_eq (s : Office) (j : Nat) : s.goes j = (standing s).any fun k => (tripLots s k).contains j := by
  unfold TimHaul.Office.goes TimHaul.Office.booked
  rw [Bool.eq_iff_iff, List.any_eq_true, List.any_eq_true]
  constructor
  · rintro ⟨t, ht, hc⟩
    rw [List.mem_filterMap] at ht
    obtain ⟨o, ho, rfl⟩ := ht
    obtain ⟨k, hk⟩ := List.getElem?_of_mem ho
    exact ⟨k, standing_mem.mpr ⟨t, hk⟩, by unfold tripLots; rw [hk]; exact hc⟩
  · rintro ⟨k, hk, hc⟩
    obtain ⟨t, ht⟩ := standing_mem.mp hk
    refine ⟨t, List.mem_filterMap.mpr ⟨some t, List.mem_of_getElem? ht, rfl⟩, ?_⟩
    unfold tripLots at hc
    rw [ht] at hc
    exact hc
theorem crossed_len (s : Office) (ks : List Nat) : (crossed s ks).length = s.lots.length := by
  have go : ∀ (ks : List Nat) (l : List Bool), (ks.foldl (fun l k => cross l (tripLots s k)) l).length = l.length := by
    intro ks
    induction ks with
    | nil => intro l; rfl
    | cons k ks ih => intro l; rw [List.foldl_cons, ih, cross_len]
  unfold crossed
  rw [go, List.length_replicate]
theorem crossed_at {s : Office} {j : Nat} (h : j < s.lots.length) : (crossed s (standing s))[j]? = some (!s.goes j) := by
  unfold crossed
  rw [crossed_go, List.getElem?_replicate, if_pos h, goes_eq]
  rfl
def sp_Office_lots_left (K : PySem.W.Frag) : Sp := fun vs H Q _ => ∃ (A : OA) (s : Office), vs = [.ref A.a] ∧ OffR K H A s ∧ s.trips.length ≤ 24 ∧ s.lots.length ≤ 24 ∧ (∀ t, some t ∈ s.trips → ∀ i ∈ t.lots, i < s.lots.length) ∧
  ∀ p H', H p = none → Ex H H' → H' p = some (.lst (nv s.left)) → Q (.ref p) H'
theorem sc_Office_lots_left : FnScope (["self", "left", "at", "lot"] : List Str) ["self"] (defScope s_Office_lots_left) := ⟨rfl, rfl, rfl, by decide +kernel, rfl, by decide +kernel, by decide +kernel⟩
theorem c_Office_lots_left (T : Txt K mg) (C_Office_standing_trips : Cal PP w K mg base 1 (He.ma K (He.ga K "Office") "standing_trips") ["self"] (sp_Office_standing_trips K)) : Cal PP w K mg base 2 (He.ma K (He.ga K "Office") "lots_left") ["self"] (sp_Office_lots_left K) := by
  refine Cal.of T.f_Office_lots_left sc_Office_lots_left (fun vs H Q E h => ?_) (fun _ _ _ _ _ _ us hl => match us, hl with | [_], _ => rfl) (fun cdv A outer s H vs Q E hr h => ?_)
  · obtain ⟨A, s, rfl, O, hz, hz2, wl, k⟩ := h
    rfl
  · obtain ⟨A, s, rfl, O, hz, hz2, wl, k⟩ := h
    refine ⟨_, (pss_cons (ps_set (i := 1) sc_Office_lots_left.nd rfl (Or.inr rfl) (pe_op op_rep (pe_lst (pa_cons pe_bl pa_nil)) (pe_callB cr_len (by rfl) T.n_len (by decide +kernel) (pa_cons (pe_fld (pv 0) rfl) pa_nil))))
      (pss_cons (ps_for PassesOwn.never rfl (pi_list (pe_cmeth0 (pv 0) T.c_Office T.m_Office_standing_trips C_Office_standing_trips (hr.mono (by decide)))) (pg_name (i := 2) sc_Office_lots_left.nd rfl (Or.inl rfl))
      (pss_one (ps_for PassesOwn.never rfl (pi_list (pe_fld (pe_ix ix_list (pe_fld (pv 0) rfl) (pv 2) (fun _ _ => rfl)) rfl)) (pg_name (i := 3) sc_Office_lots_left.nd rfl (Or.inl rfl))
      (pss_one (ps_asg pe_bl (pg_sub (pv 1) (pv 3) set_list))))))
      (pss_one (ps_ret (pe_lc (own := [("lot", 3)]) (g := (gName 3)) (tt := (tB (tOp (rIxL K) (tVar 1) (tVar 3)))) (te := (tVar 3)) rfl sc_Office_lots_left.nd (pi_range1 (by rfl) T.n_range (pa_cons (pe_callB cr_len (by rfl) T.n_len (by decide +kernel) (pa_cons (pv 1) pa_nil)) pa_nil)) (blkOk_by (own := [("lot", 3)]) (N := (["self", "left", "at", "lot"] : List Str)) (sc := defScope s_Office_lots_left) (by decide +kernel)) (fun _ _ _ _ _ => (pg_name (i := 3) sc_Office_lots_left.nd rfl (Or.inl rfl))) (fun _ _ _ _ _ => pts_one (pt_val (pe_ix ix_list (pv 1) (pv 3) (fun _ _ => rfl)))) (fun _ _ _ _ _ => (pv 3))))))), ?_⟩
    -- left = [True] * len(self.lots)
    refine ⟨by show 1 ≤ sizeLine; decide, fun p0 hp0 => ?_⟩
    refine evO_nlots T (O.ex (ex_upd hp0)) (Evl.ev_var rfl) _ (Ex.refl _) _ fun H1 e1 => ?_
    refine ⟨p0, (s.lots.length : Int), _, rfl, rfl, e1 _ _ upd_same, by omega, by omega, by show 1 * _ ≤ sizeLine; rw [sizeLine_eq]; omega, fun p hp => ?_⟩
    have eH : Ex H H1 := (ex_upd hp0).trans e1
    have hpH : H p = none := Evl.fresh_back eH hp
    have e0 : (List.replicate ((s.lots.length : Int)).toNat [V.bl true]).flatten = (crossed s ((standing s).take 0)).map V.bl := by
      show (List.replicate s.lots.length [V.bl true]).flatten = (List.replicate s.lots.length true).map V.bl
      rw [List.map_replicate]
      induction s.lots.length with
      | zero => rfl
      | succ n ih => rw [List.replicate_succ, List.replicate_succ, List.flatten_cons, ih]; rfl
    rw [e0]
    -- for at in self.standing_trips()
    refine ⟨_, rfl, A.a, A.dx, _, rfl, Evl.Ex.new hp _ _ (eH _ _ O.obj), lOffice_standing_trips _ _, ?_⟩
    refine ⟨A, s, rfl, O.ex (eH.trans (ex_upd hp)), hz, fun q H2 hq e2 hl2 => ?_⟩
    have hpq : p ≠ q := ne_of_none (o := .lst ((crossed s ((standing s).take 0)).map V.bl)) (H := upd H1 p (.lst ((crossed s ((standing s).take 0)).map V.bl))) upd_same hq
    refine ⟨q, rfl, ⟨_, SqL.of hl2⟩, for_list (K := K) (a := q) (xs := nv (standing s)) (fun i σ' H' => ∃ v1 v2, σ' = [some (.ref A.a), some (.ref p), v1, v2] ∧ Ex H H' ∧ H' q = some (.lst (nv (standing s))) ∧ H' p = some (.lst ((crossed s ((standing s).take i)).map V.bl))) ⟨none, none, rfl, (eH.trans (ex_upd hp)).trans e2, hl2, e2 _ _ upd_same⟩ (fun i σ' H' _ ⟨_, _, _, _, h, _⟩ => SqL.of h) ?_ ?_⟩
    · rintro i x σ' H' hx ⟨v1, v2, rfl, e, hq', hp'⟩
      obtain ⟨kk, hk, rfl⟩ := nv_get hx
      obtain ⟨t, ht⟩ := standing_mem.mp (List.mem_of_getElem? hk)
      obtain ⟨tp, htp, dt, la, ra, g1, g2, g3⟩ := O.trips.2 kk _ ht
      have hla : la ≠ p := ne_of_none g2 hpH
      refine (ev_fld (ev_atL (evO_trips T (O.ex e) (Evl.ev_var (i := 0) rfl)) (Evl.ev_var (i := 2) rfl) (e _ _ O.lp) htp) (e _ _ g1) T.c_Trip T.a_Trip_lots (lTrip_lots _ _ _ _)) H' (Ex.refl _) _ fun H3 e3 => ?_
      refine ⟨la, rfl, ⟨_, SqL.of (e3 _ _ (e _ _ g2))⟩, for_list (K := K) (a := la) (xs := nv t.lots) (fun j σ' H' => ∃ v2, σ' = [some (.ref A.a), some (.ref p), some (.int (kk : Int)), v2] ∧ Ex H H' ∧ H' q = some (.lst (nv (standing s))) ∧ H' p = some (.lst ((cross (crossed s ((standing s).take i)) (t.lots.take j)).map V.bl))) ⟨v2, rfl, e.trans e3, e3 _ _ hq', e3 _ _ hp'⟩ (fun j σ' H' _ ⟨_, _, h, _, _⟩ => SqL.of (h _ _ g2)) ?_ ?_⟩
      · rintro j x σ' H4 hx ⟨v2, rfl, e4, hq4, hp4⟩
        obtain ⟨n, hn, rfl⟩ := nv_get hx
        have hlt : n < s.lots.length := wl t (List.mem_of_getElem? ht) n (List.mem_of_getElem? hn)
        refine ⟨_, rfl, _, rfl, p, _, (n : Int), n, rfl, rfl, hp4, Evl.ixN_nat (by rw [List.length_map, cross_len, crossed_len]; exact hlt), ?_⟩
        refine ⟨_, rfl, e4.mut hpH, by rw [upd_ne (Ne.symm hpq)]; exact hq4, ?_⟩
        rw [upd_same, take_snoc hn, cross_snoc, List.map_set]
      · rintro σ' H4 ⟨v2, rfl, e4, hq4, hp4⟩
        refine ⟨_, _, rfl, e4, hq4, ?_⟩
        rw [nv_len, List.take_length] at hp4
        rw [take_snoc hk, crossed_snoc, hp4]
        unfold tripLots
        rw [ht]
    · rintro σ' H' ⟨v1, v2, rfl, e, hq', hp'⟩
      rw [nv_len, List.take_length] at hp'
      have ln : Ev (tCB (rLen K) (tCons (tVar 1) tNil)) [some (.ref A.a), some (.ref p), v1, v2] H' (.int (s.lots.length : Int)) := by
        have q := ev_lenL (K := K) (Evl.ev_var (σ := [some (.ref A.a), some (.ref p), v1, v2]) (i := 1) (H := H') rfl) (SqL.of hp')
        rwa [List.length_map, crossed_len] at q
      dsimp only
      refine Evl.s_retL (el_range (n := s.lots.length) (fun i => !s.goes i) (fun i => .int (i : Int)) (ea_one ln) (by omega) (by intro _; rfl) (fun i hi H1 e1 => ?_) (fun i _ H1 e1 _ => Evl.ev_var rfl)) (fun r H2 hr e2 h2 => ?_)
      · exact Evl.et_B (Evl.ev_op (Evl.ev_var rfl) (Evl.ev_var rfl) (Evl.rv_ixL (SqL.of (e1 _ _ hp')) (atI_nat (by rw [List.getElem?_map, crossed_at hi]; rfl))))
      · exact k r H2 (Evl.fresh_back e hr) (e.trans e2) h2
end
end Th
namespace Th
open PySem PySem.Spec PyProof.Rows L2
open TimHaul (Road Limit Truck Lot Trip Office before)
open Evl (Ex Ev EvL EvT EvA)
section
variable {PP : Program} {w : World} {K : PySem.W.Frag} {mg : Str → Option Value} {base : Heap}
def tripIs (s : Office) (f : Trip → Bool) (k : Nat) : Bool := match s.trips[k]? with
  | some (some t) => f t
  | _ => false
theorem booked_any (s : Office) (f : Trip → Bool) : s.booked.any f = (standing s).any (tripIs s f) := by
  unfold TimHaul.Office.booked
  rw [Bool.eq_iff_iff, List.any_eq_true, List.any_eq_true]
  constructor
  · rintro ⟨t, ht, hc⟩
    rw [List.mem_filterMap] at ht
    obtain ⟨o, ho, rfl⟩ := ht
    obtain ⟨k, hk⟩ := List.getElem?_of_mem ho
    exact ⟨k, standing_mem.mpr ⟨t, hk⟩, by unfold tripIs; rw [hk]; exact hc⟩
  · rintro ⟨k, hk, hc⟩
    obtain ⟨t, ht⟩ := standing_mem.mp hk
    refine ⟨t, List.mem_filterMap.mpr ⟨some t, List.mem_of_getElem? ht, rfl⟩, ?_⟩
    unfold tripIs at hc
    rw [ht] at hc
    exact hc
theorem trip_at {K : PySem.W.Frag} {H : Hp} {A : OA} {s : Office} (O : OffR K H A s) {k : Nat} (hk : k ∈ standing s) : ∃ t p dx la ra, s.trips[k]? = some (some t) ∧ A.rp[k]? = some p ∧ H p = some (.ins (He.ga K "Trip") dx (fTrip t la ra false)) ∧ H la = some (.lst (nv t.lots)) ∧ H ra = some (.lst (nv t.full)) := by
  obtain ⟨t, ht⟩ := standing_mem.mp hk
  obtain ⟨p, hp, dx, la, ra, g1, g2, g3⟩ := O.trips.2 k _ ht
  exact ⟨t, p, dx, la, ra, ht, hp, g1, g2, g3⟩
theorem standing_len (s : Office) : (standing s).length ≤ s.trips.length := by
  unfold standing
  rw [List.length_map]
  exact Nat.le_trans (List.length_filter_le _ _) (by rw [List.length_zipIdx]; exact Nat.le_refl _)
/-- the trips' own places -/
def rpAt (A : OA) (k : Nat) : V := .ref (A.rp.getD k 0)
theorem rpAt_of {A : OA} {k p : Nat} (h : A.rp[k]? = some p) : rpAt A k = .ref p := by
  unfold rpAt
  rw [List.getD_eq_getElem?_getD, h]
  rfl
def sp_Office_is_free (K : PySem.W.Frag) : Sp := fun vs H Q _ => ∃ (A : OA) (s : Office) (k day : Nat), vs = [.ref A.a, .int (k : Int), .int (day : Int)] ∧ OffR K H A s ∧ s.trips.length ≤ 24 ∧ ∀ H', Ex H H' → Q (.bl (!s.busy k day)) H'
theorem el_standing {K : PySem.W.Frag} {σ : L2.St} {H : Hp} {A : OA} {s : Office} {ta : TE} (O : OffR K H A s) (hz : s.trips.length ≤ 24) (h : Ev ta σ H (.ref A.a)) : EvL (tMeth (He.ga K "Office") "standing_trips" (sp_Office_standing_trips K) [] E0 ta tNil) σ H (nv (standing s)) :=
  el_meth h O.obj (lOffice_standing_trips _ _) Evl.ea_nil fun H1 e Q q => ⟨A, s, rfl, O.ex e, hz, q⟩
theorem sc_Office_is_free : FnScope (["self", "truck", "day", "trips", "at", "trip"] : List Str) ["self", "truck", "day"] (defScope s_Office_is_free) := ⟨rfl, rfl, rfl, by decide +kernel, rfl, by decide +kernel, by decide +kernel⟩
theorem c_Office_is_free (T : Txt K mg) (C_Office_standing_trips : Cal PP w K mg base 1 (He.ma K (He.ga K "Office") "standing_trips") ["self"] (sp_Office_standing_trips K)) : Cal PP w K mg base 2 (He.ma K (He.ga K "Office") "is_free") ["self", "truck", "day"] (sp_Office_is_free K) := by
  refine Cal.of T.f_Office_is_free sc_Office_is_free (fun vs H Q E h => ?_) (fun _ _ _ _ _ _ us hl => match us, hl with | [_, _, _], _ => rfl) (fun cdv A outer s H vs Q E hr h => ?_)
  · obtain ⟨A, s, kk, day, rfl, O, hz, k⟩ := h
    rfl
  · obtain ⟨A, s, kk, day, rfl, O, hz, k⟩ := h
    refine ⟨_, (pss_cons (ps_setLc (i := 3) (own := [("at", 4)]) (g := (gName 4)) (tt := tYes) (te := (tOp (rIxL K) (tFld K (tVar 0) "trips") (tVar 4))) rfl sc_Office_is_free.nd rfl rfl (sw_true rfl rfl rfl (by decide +kernel)) (pi_list (pe_cmeth0 (pv 0) T.c_Office T.m_Office_standing_trips C_Office_standing_trips (hr.mono (by decide)))) (blkOk_by (own := [("at", 4)]) (N := (["self", "truck", "day", "trips", "at", "trip"] : List Str)) (sc := defScope s_Office_is_free) (by decide +kernel)) (fun _ _ _ _ _ => (pg_name (i := 4) sc_Office_is_free.nd rfl (Or.inl rfl))) (fun _ _ _ _ _ => pts_nil) (fun _ _ _ _ _ => (pe_ix ix_list (pe_fld (pv 0) rfl) (pv 4) (fun _ _ => rfl))))
      (pss_one (ps_ret (pe_not (pe_callB (cr_any rfl) (by rfl) T.n_any (by decide +kernel) (pa_cons (pe_lc (own := [("trip", 5)]) (g := (gName 5)) (tt := tYes) (te := (tAndV (tOp rEq (tFld K (tVar 5) "truck") (tVar 1)) (tOp rEq (tFld K (tVar 5) "day") (tVar 2)))) rfl sc_Office_is_free.nd (pi_list (pv 3)) (blkOk_by (own := [("trip", 5)]) (N := (["self", "truck", "day", "trips", "at", "trip"] : List Str)) (sc := defScope s_Office_is_free) (by decide +kernel)) (fun _ _ _ _ _ => (pg_name (i := 5) sc_Office_is_free.nd rfl (Or.inl rfl))) (fun _ _ _ _ _ => pts_nil) (fun _ _ _ _ _ => (pe_and (pe_cmpR op_eq (pe_fld (pv 5) rfl) (pv 1) (nomark _)) (pe_one (pe_cmpR op_eq (pe_fld (pv 5) rfl) (pv 2) (nomark _)))))) pa_nil)))))), ?_⟩
    have hl := standing_len s
    refine Evl.q_asgL (el_listN (K := K) (ls := standing s) (r := fun n : Nat => V.int (n : Int)) (fun _ => true) (rpAt A) (el_standing O hz (Evl.ev_var rfl)) (by omega) (by intro _; rfl) (fun _ _ _ _ => et_yes) (fun y hy H1 e1 _ => ?_)) (fun p H1 hp e1 h1 => ?_)
    · obtain ⟨t, p, dx, la, ra, ht, hp, _⟩ := trip_at O hy
      rw [rpAt_of hp]
      exact ev_atL (evO_trips T (O.ex e1) (Evl.ev_var rfl)) (Evl.ev_var rfl) (e1 _ _ O.lp) hp
    · rw [filter_yes] at h1
      refine Evl.s_ret (Evl.ev_notV (ev_anyN (bs := (standing s).map (tripIs s fun t => t.truck == kk && t.day == day)) (el_is (el_list (K := K) (a := p) (ls := standing s) (r := rpAt A) (fun _ => true) (fun k => .bl (tripIs s (fun t => t.truck == kk && t.day == day) k)) (Evl.ev_var rfl) (SqL.of h1) (by omega) (by intro _; rfl) (fun _ _ _ _ => et_yes) (fun y hy H2 e2 _ => ?_)) ?_))) ?_
      · obtain ⟨t, p2, dx, la, ra, ht, hp2, hI, _⟩ := trip_at O hy
        rw [rpAt_of hp2]
        have F := e2 _ _ (e1 _ _ hI)
        refine Evl.ev_is (Evl.ev_andV (ev_eqI (ev_fld (Evl.ev_var rfl) F T.c_Trip T.a_Trip_truck (lTrip_truck _ _ _ _)) (Evl.ev_var rfl)) (fun _ => ev_eqI (ev_fld (Evl.ev_var rfl) F T.c_Trip T.a_Trip_day (lTrip_day _ _ _ _)) (Evl.ev_var rfl))) (congrArg V.bl ?_)
        unfold tripIs
        rw [ht]
        show _ = (t.truck == kk && t.day == day)
        congr 1 <;> (rw [Bool.beq_eq_decide_eq]; exact decide_eq_decide.mpr (by omega))
      · rw [filter_yes, List.map_map]
        rfl
      · intro H2 e2
        rw [List.any_map]
        have e : s.busy kk day = (standing s).any (id ∘ tripIs s fun t => t.truck == kk && t.day == day) := booked_any s _
        rw [← e]
        exact k H2 (e1.trans e2)
end
end Th
namespace Th
open PySem PySem.Spec PyProof.Rows L2
open TimHaul (Road Limit Truck Lot Trip Office before)
open Evl (Ex Ev EvL EvT EvA)
section
variable {PP : Program} {w : World} {K : PySem.W.Frag} {mg : Str → Option Value} {base : Heap}
def PairAt (H : Hp) (v : V) (x : Nat × Nat) : Prop := ∃ p, v = .ref p ∧ H p = some (.tup [.int (x.1 : Nat), .int (x.2 : Nat)])
theorem PairAt.ex {H H' : Hp} {v : V} {x : Nat × Nat} (h : PairAt H v x) (e : Ex H H') : PairAt H' v x := let ⟨p, h1, h2⟩ := h; ⟨p, h1, e _ _ h2⟩
theorem PairAt.mono {H H' : Hp} {v : V} {x : Nat × Nat} (h : PairAt H v x) (e : ExD H H') : PairAt H' v x := let ⟨p, h1, h2⟩ := h; ⟨p, h1, e _ _ h2 rfl⟩
theorem AllV.nil {α : Type} {R : V → α → Prop} : AllV R [] [] := ⟨rfl, fun i x e => by simp at e⟩
theorem AllV.snoc {α : Type} {R : V → α → Prop} {as : List V} {xs : List α} {a : V} {x : α} (h : AllV R as xs) (r : R a x) : AllV R (as ++ [a]) (xs ++ [x]) := by
  refine ⟨by simp [h.1], fun i y e => ?_⟩
  rcases Nat.lt_or_ge i xs.length with hi | hi
  · rw [List.getElem?_append_left hi] at e
    obtain ⟨b, e1, r1⟩ := h.2 i y e
    exact ⟨b, by rw [List.getElem?_append_left (by rw [h.1]; exact hi)]; exact e1, r1⟩
  · rw [List.getElem?_append_right hi] at e
    have e0 : i - xs.length = 0 := by
      rcases Nat.eq_zero_or_pos (i - xs.length) with z | z
      · exact z
      · rw [List.getElem?_eq_none (by simp; omega)] at e; cases e
    rw [e0] at e
    cases e
    exact ⟨a, by rw [List.getElem?_append_right (by rw [h.1]; exact hi), h.1, e0]; rfl, r⟩
def slotsDay (s : Office) (day j : Nat) : List (Nat × Nat) := ((List.range j).filter fun (k : Nat) => !s.busy k day).map fun (k : Nat) => (day, k)
theorem slots_eq (s : Office) (d e : Nat) : s.slots d e = (List.range (e + 1 - d)).flatMap fun i => slotsDay s (d + i) s.trucks.length := rfl
theorem slotsDay_succ (s : Office) (day j : Nat) : slotsDay s day (j + 1) = slotsDay s day j ++ (if (!s.busy j day) = true then [(day, j)] else []) := by
  unfold slotsDay
  rw [List.range_succ, List.filter_append, List.map_append]
  congr 1
  cases h : s.busy j day with
  | true => simp [h]
  | false => simp [h]
theorem slotsDay_len (s : Office) (day j : Nat) : (slotsDay s day j).length ≤ j := by
  unfold slotsDay
  rw [List.length_map]
  exact Nat.le_trans (List.length_filter_le _ _) (by rw [List.length_range]; exact Nat.le_refl _)
theorem slots_len (s : Office) (d : Nat) : ∀ n, ((List.range n).flatMap fun i => slotsDay s (d + i) s.trucks.length).length ≤ n * s.trucks.length
  | 0 => by simp
  | n + 1 => by
    have ih := slots_len s d n
    rw [List.range_succ, List.flatMap_append, List.length_append, Nat.succ_mul]
    have := slotsDay_len s (d + n) s.trucks.length
    simp only [List.flatMap_cons, List.flatMap_nil, List.append_nil]
    omega
def sp_free_slots (K : PySem.W.Frag) : Sp := fun vs H Q _ => ∃ (A : OA) (s : Office) (d e : Nat), vs = [.ref A.a, .int (d : Int), .int (e : Int)] ∧ OffR K H A s ∧ Wf s ∧ d ≤ 99999 ∧ e ≤ 99999 ∧ e < d + 5 ∧
  ∀ p H' xs, H p = none → Ex H H' → H' p = some (.lst xs) → AllV (PairAt H') xs (s.slots d e) → Q (.ref p) H'
theorem sc_free_slots : FnScope (["office", "first", "last", "slots", "day", "truck"] : List Str) ["office", "first", "last"] (defScope s_free_slots) := ⟨rfl, rfl, rfl, by decide +kernel, rfl, by decide +kernel, by decide +kernel⟩
theorem c_free_slots (T : Txt K mg) (C_Office_is_free : Cal PP w K mg base 2 (He.ma K (He.ga K "Office") "is_free") ["self", "truck", "day"] (sp_Office_is_free K)) : Cal PP w K mg base 3 (He.ga K "free_slots") ["office", "first", "last"] (sp_free_slots K) := by
  refine Cal.of T.f_free_slots sc_free_slots (fun vs H Q E h => ?_) (fun _ _ _ _ _ _ us hl => match us, hl with | [_, _, _], _ => rfl) (fun cdv A outer s H vs Q E hr h => ?_)
  · obtain ⟨A, s, d, e, rfl, O, wf, hd, he, hde, k⟩ := h
    rfl
  · obtain ⟨A, s, d, e, rfl, O, wf, hd, he, hde, k⟩ := h
    refine ⟨_, (pss_cons (ps_set (i := 3) sc_free_slots.nd rfl (Or.inl rfl) (pe_lst pa_nil))
      (pss_cons (ps_for PassesOwn.never rfl (pi_range2 (by rfl) T.n_range (pa_cons (pv 1) (pa_cons (pe_op op_add (pv 2) pe_int) pa_nil))) (pg_name (i := 4) sc_free_slots.nd rfl (Or.inl rfl))
      (pss_one (ps_for PassesOwn.never rfl (pi_range1 (by rfl) T.n_range (pa_cons (pe_callB cr_len (by rfl) T.n_len (by decide +kernel) (pa_cons (pe_fld (pv 0) rfl) pa_nil)) pa_nil)) (pg_name (i := 5) sc_free_slots.nd rfl (Or.inl rfl))
      (pss_one (ps_if (pt_val (pe_cmeth (pv 0) T.c_Office T.m_Office_is_free C_Office_is_free (hr.mono (by decide)) (pa_cons (pv 5) (pa_cons (pv 4) pa_nil)))) (pss_one (ps_expr (pe_bm PySem.F.plainAttrs_list PySem.F.slot_list_append PySem.F.type_list_append mt_append (pv 3) (pa_cons (pe_tup (pa_cons (pv 4) (pa_cons (pv 5) pa_nil))) pa_nil)))) pss_nil)))))
      (pss_one (ps_ret (pv 3))))), ?_⟩
    refine Evl.q_asgL (Evl.el_lst Evl.ea_nil (Nat.zero_le _)) fun b H1 nb e1 h1 => ?_
    have h3 := wf.t3
    have ea : EvA (tCons (tVar 1) (tCons (tOp rAdd' (tVar 2) (tC (.int 1))) tNil)) [some (.ref A.a), some (.int (d : Int)), some (.int (e : Int)), some (.ref b), none, none] H1 [.int (d : Int), .int ((e : Int) + 1)] := ea_two (Evl.ev_var rfl) (Evl.ev_op (Evl.ev_var rfl) Evl.ev_c Evl.rv_I0)
    refine q_forK (ea H1 (Ex.refl _) _ fun H2 e2 => ⟨_, _, rfl, by omega, ?_⟩)
    rw [show ((e : Int) + 1 - (d : Int)).toNat = e + 1 - d by omega]
    have stepO : ∀ H', Ex H H' → OffR K H' A s := fun H' ex => O.ex ex
    refine loop_it walk_range (fun i σ H' => (∃ v4 v5, σ = [some (.ref A.a), some (.int (d : Int)), some (.int (e : Int)), some (.ref b), v4, v5]) ∧ Ex H H' ∧ ∃ xs, H' b = some (.lst xs) ∧ AllV (PairAt (del H' b)) xs ((List.range i).flatMap fun i => slotsDay s (d + i) s.trucks.length)) ?_ (fun _ _ _ _ _ => trivial) (fun i x σ H' H3 hi p y => ?_) (fun σ H' p => ?_)
    · exact ⟨⟨none, none, rfl⟩, e1.trans e2, [], e2 _ _ h1, AllV.nil⟩
    · obtain ⟨⟨v4, v5, rfl⟩, ex, xs, hb, hx⟩ := p
      obtain ⟨rfl, rfl⟩ := y
      have ec : EvA (tCons (tCB (rLen K) (tCons (tFld K (tVar 0) "trucks") tNil)) tNil) [some (.ref A.a), some (.int (d : Int)), some (.int (e : Int)), some (.ref b), some (.int ((d : Int) + (i : Int))), v5] H3 [.int (s.trucks.length : Nat)] := ea_one (evO_ntrucks T (stepO _ ex) (Evl.ev_var rfl))
      refine s_forK (ec H3 (Ex.refl _) _ fun H4 e4 => ⟨_, rfl, by omega, by omega, ?_⟩)
      rw [show ((s.trucks.length : Nat) : Int).toNat = s.trucks.length from rfl]
      refine loop_it walk_range (fun j σ H' => (∃ v5, σ = [some (.ref A.a), some (.int (d : Int)), some (.int (e : Int)), some (.ref b), some (.int ((d : Int) + (i : Int))), v5]) ∧ Ex H H' ∧ ∃ xs, H' b = some (.lst xs) ∧ AllV (PairAt (del H' b)) xs (((List.range i).flatMap fun i => slotsDay s (d + i) s.trucks.length) ++ slotsDay s (d + i) j)) ?_ (fun _ _ _ _ _ => trivial) (fun j x σ H' H5 hj p y => ?_) (fun σ H' p => ?_)
      · refine ⟨⟨_, rfl⟩, ex.trans e4, xs, e4 _ _ hb, ?_⟩
        show AllV _ xs (_ ++ [])
        rw [List.append_nil]
        exact hx.mono fun v o r => r.ex (del_mono e4)
      · obtain ⟨⟨v5', rfl⟩, ex, xs, hb, hx⟩ := p
        obtain ⟨rfl, rfl⟩ := y
        have e0 : (0 : Int) + (j : Int) = (j : Int) := Int.zero_add _
        have ed : (d : Int) + (i : Int) = ((d + i : Nat) : Int) := by omega
        rw [slotsDay_succ]
        have lx : xs.length ≤ 100 := by
          rw [hx.1, List.length_append]
          have a1 := slots_len s d i
          have a2 := slotsDay_len s (d + i) j
          have : i * s.trucks.length ≤ 5 * 3 := Nat.mul_le_mul (by omega) h3
          omega
        dsimp only
        rw [e0, ed]
        refine Evl.s_when (b := !s.busy j (d + i)) (Evl.et_B (ev_meth (vs' := [.int (j : Int), .int ((d + i : Nat) : Int)]) (z := .bl (!s.busy j (d + i))) (Evl.ev_var rfl) (stepO _ ex).obj (lOffice_is_free _ _) (ea_two (Evl.ev_var rfl) (Evl.ev_var rfl)) fun H6 e6 Q6 q6 => ⟨A, s, j, d + i, rfl, stepO _ (ex.trans e6), wf.p24, q6⟩)) (fun hf H6 e6 => ?_) (fun hf H6 e6 => ?_)
        · rw [if_pos hf]
          refine Evl.s_appU (ys := [.int ((d + i : Nat) : Int), .int (j : Nat)]) (e6 _ _ hb) (Evl.ev_var rfl) (Evl.eu_tup (ea_two (Evl.ev_var rfl) (Evl.ev_var rfl)) (by show 2 ≤ 100000; decide)) (by omega) fun p H7 np e7 h7 => ?_
          have pb : p ≠ b := fun z => by rw [z, e6 _ _ hb] at np; cases np
          refine ⟨⟨_, rfl⟩, ((ex.trans e6).trans e7).mut nb, _, upd_same, ?_⟩
          rw [del_upd, ← List.append_assoc]
          exact (hx.mono fun v o r => r.ex (del_mono (e6.trans e7))).snoc ⟨p, rfl, by rw [del_ne pb]; exact h7⟩
        · rw [hf, if_neg (by decide), List.append_nil]
          exact ⟨⟨_, rfl⟩, ex.trans e6, xs, e6 _ _ hb, hx.mono fun v o r => r.ex (del_mono e6)⟩
      · obtain ⟨⟨v5', rfl⟩, ex, xs, hb, hx⟩ := p
        refine ⟨⟨_, _, rfl⟩, ex, xs, hb, ?_⟩
        rw [List.range_succ, List.flatMap_append]
        simpa using hx
    · obtain ⟨⟨v4, v5, rfl⟩, ex, xs, hb, hx⟩ := p
      refine Evl.s_ret (Evl.ev_var rfl) fun H3 e3 => k b H3 xs nb (ex.trans e3) (e3 _ _ hb) ?_
      rw [slots_eq]
      exact hx.mono fun v o r => (r.ex (del_ex _ _)).ex e3
end
end Th
namespace Th
open PySem PySem.Spec PyProof.Rows L2
open TimHaul (Road Limit Truck Lot Trip Office before)
open Evl (Ex Ev EvL EvT EvA)
section
variable {PP : Program} {w : World} {K : PySem.W.Frag} {mg : Str → Option Value} {base : Heap}
def sp_is_row_in_range (K : PySem.W.Frag) : Sp := fun vs H Q _ => ∃ (rl : Addr) (c : Int) (zs : List Int), vs = [.int c, .ref rl] ∧ H rl = some (.lst (zs.map V.int)) ∧ zs.length ≤ 5000 ∧
  ∀ H', Ex H H' → Q (.bl (rowR c zs)) H'
theorem tab2_some {β : Type} {P : Value → β → Prop} {i : Int} {l : List (Int × Value)} {L : List (Int × β)} (t : Tab2 P l L) : (valueAt l i).isSome = (lkI i L).isSome := by
  rcases tab2_at i t with ⟨u, r, h1, h2, _⟩ | ⟨h1, h2⟩
  · rw [h1, h2]; rfl
  · rw [h1, h2]; rfl
theorem sc_is_row_in_range : FnScope (["call", "row", "fewest", "longest", "least", "most", "number"] : List Str) ["call", "row"] (defScope s_is_row_in_range) := ⟨rfl, rfl, rfl, by decide +kernel, rfl, by decide +kernel, by decide +kernel⟩
theorem c_is_row_in_range (T : Txt K mg) : Cal PP w K mg base 1 (He.ga K "is_row_in_range") ["call", "row"] (sp_is_row_in_range K) := by
  refine Cal.of T.f_is_row_in_range sc_is_row_in_range (fun vs H Q E h => ?_) (fun _ _ _ _ _ _ us hl => match us, hl with | [_, _], _ => rfl) (fun cdv A outer s H vs Q E hr h => ?_)
  · obtain ⟨rl, c, zs, rfl, hn, hl, k⟩ := h
    rfl
  · obtain ⟨rl, c, zs, rfl, hn, hl, k⟩ := h
    refine ⟨_, (pss_cons (ps_if (pt_cmpR op_notInW (pv 0) (pe_glob (v := .ref (He.ga K "ROWS")) (by rfl) T.g_ROWS rfl) (by rfl)) (pss_one (ps_ret pe_bl)) pss_nil)
      (pss_cons (ps_asg (pe_ix ix_wdict (pe_glob (v := .ref (He.ga K "ROWS")) (by rfl) T.g_ROWS rfl) (pv 0) (fun _ _ => rfl)) (pg_tup rfl (pgs_cons (pg_name (i := 2) sc_is_row_in_range.nd rfl (Or.inl rfl)) (pgs_cons (pg_name (i := 3) sc_is_row_in_range.nd rfl (Or.inl rfl)) (pgs_cons (pg_name (i := 4) sc_is_row_in_range.nd rfl (Or.inr rfl)) (pgs_cons (pg_name (i := 5) sc_is_row_in_range.nd rfl (Or.inr rfl)) pgs_nil))))))
      (pss_one (ps_ret (pe_and (pe_chain op_le op_le (pv 2) (pe_callB cr_len (by rfl) T.n_len (by decide +kernel) (pa_cons (pv 1) pa_nil)) (pv 3)) (pe_one (pe_callB (cr_all rfl) (by rfl) T.n_all (by decide +kernel) (pa_cons (pe_lc (own := [("number", 6)]) (g := (gName 6)) (tt := tYes) (te := (tChain rLtE rLtE (tVar 4) (tVar 6) (tVar 5))) rfl sc_is_row_in_range.nd (pi_list (pv 1)) (blkOk_by (own := [("number", 6)]) (N := (["call", "row", "fewest", "longest", "least", "most", "number"] : List Str)) (sc := defScope s_is_row_in_range) (by decide +kernel)) (fun _ _ _ _ _ => (pg_name (i := 6) sc_is_row_in_range.nd rfl (Or.inl rfl))) (fun _ _ _ _ _ => pts_nil) (fun _ _ _ _ _ => (pe_chain op_le op_le (pv 4) (pv 6) (pv 5)))) pa_nil)))))))), ?_⟩
    obtain ⟨kvs, wd, tab⟩ := T.rows
    have ts := tab2_some (i := c) tab
    refine Evl.q_when (b := !(lkI c rowsL).isSome) (Evl.et_test (Evl.ev_is (ev_notInW (Evl.ev_var rfl) Evl.ev_c wd) (congrArg (fun b => V.bl (!b)) ts))) (fun hc H1 e1 => ?_) (fun hc H1 e1 => ?_)
    · refine Evl.s_ret Evl.ev_c fun H2 e2 => ?_
      have z := k H2 (e1.trans e2)
      have e : rowR c zs = true := by
        unfold rowR
        cases q : lkI c rowsL with
        | none => rfl
        | some r => rw [q] at hc; cases hc
      rw [e] at z
      exact z
    · rcases tab2_at c tab with ⟨u, r, h1, h2, h3⟩ | ⟨_, h2⟩
      · have f4 := rows_four _ (lkI_mem h2)
        obtain ⟨t, rfl, sq⟩ := tupI_sq (H := H1) h3
        match r, f4 with
        | [r0, r1, r2, r3], _ =>
          have er : rowR c zs = ((decide (r0 ≤ (zs.length : Int)) && decide ((zs.length : Int) ≤ r1)) && zs.all fun z => decide (r2 ≤ z) && decide (z ≤ r3)) := by
            unfold rowR
            rw [h2]
            rfl
          have ei : Ev (tOp (rIxW K) (tC (.ref (He.ga K "ROWS"))) (tVar 0)) [some (.int c), some (.ref rl), none, none, none, none, none] H1 (.ref t) := ev_ixW (v := .ref t) Evl.ev_c (Evl.ev_var rfl) wd h1 rfl
          refine q_asgG (k_ev ei fun H2 e2 => ⟨t, _, rfl, Evl.ex_t e2 sq, rfl, _, _, rfl, _, _, rfl, _, _, rfl, _, _, rfl, rfl, ?_⟩)
          have e12 := e1.trans e2
          have hn2 := e12 _ _ hn
          refine Evl.s_ret (Evl.ev_is (Evl.ev_andV (ev_chainLe (Evl.ev_var rfl) (ev_lenL (Evl.ev_var rfl) (SqL.of hn2)) (Evl.ev_var rfl)) fun _ => ev_allN (bs := zs.map fun z => decide (r2 ≤ z) && decide (z ≤ r3)) (el_is (el_list (K := K) (a := rl) (ls := zs) (r := V.int) (fun _ => true) (fun z => .bl (decide (r2 ≤ z) && decide (z ≤ r3))) (Evl.ev_var rfl) (SqL.of hn2) (by omega) (by intro _; rfl) (fun _ _ _ _ => et_yes) (fun y hy H3 e3 _ => ?_)) ?_)) (congrArg V.bl ?_)) fun H3 e3 => k H3 (e12.trans e3)
          · exact ev_chainLe (Evl.ev_var rfl) (Evl.ev_var rfl) (Evl.ev_var rfl)
          · rw [filter_yes, List.map_map]; rfl
          · rw [er, List.all_map, List.length_map]
            rfl
      · rw [h2] at hc
        cases hc
end
end Th
namespace Th
open PySem PySem.Spec PyProof.Rows L2
open TimHaul (Road Limit Truck Lot Trip Office before)
open Evl (Ex Ev EvL EvT EvA)
section
variable {PP : Program} {w : World} {K : PySem.W.Frag} {mg : Str → Option Value} {base : Heap}
def RawAt (H : Hp) (v : V) (c : List (List Int)) : Prop := ∃ t wn rl, v = .ref t ∧ H t = some (.tup [.int (cP c), .ref wn, .ref rl]) ∧ H wn = some (.lst ((cN c).map V.int)) ∧ H rl = some (.lst ((cR c).map V.int))
theorem RawAt.ex {H H' : Hp} {v : V} {c : List (List Int)} (h : RawAt H v c) (e : Ex H H') : RawAt H' v c := let ⟨t, wn, rl, h1, h2, h3, h4⟩ := h; ⟨t, wn, rl, h1, e _ _ h2, e _ _ h3, e _ _ h4⟩
theorem cut_nat (zs : List Int) (i j : Nat) (h1 : i ≤ j) (h2 : j ≤ zs.length) : cutV (zs.map V.int) (some (i : Int)) (some (j : Int)) = ((zs.drop i).take (j - i)).map V.int := by
  unfold cutV
  rw [HT.sIx_nat, HT.sIx_nat, List.length_map]
  have e1 : min i zs.length = i := by omega
  have e2 : min j zs.length = j := by omega
  simp only [e1, e2, ← List.map_drop, ← List.map_take]
def sp_cut_calls (K : PySem.W.Frag) : Sp := fun vs H Q _ => ∃ (rn : Addr) (zs : List Int) (raw : List (List (List Int))), vs = [.ref rn] ∧ SqL K H rn (zs.map V.int) ∧ zs.length ≤ 100000 ∧ raw.length ≤ 1000 ∧ PyFlat.calls PyWrtiha.shape zs.length zs = some raw ∧
  ∀ p H' xs, H p = none → Ex H H' → H' p = some (.lst xs) → AllV (RawAt H') xs raw → Q (.ref p) H'
theorem sc_cut_calls : FnScope (["numbers", "calls", "at", "call", "end", "whole", "row", "first"] : List Str) ["numbers"] (defScope s_cut_calls) := ⟨rfl, rfl, rfl, by decide +kernel, rfl, by decide +kernel, by decide +kernel⟩
theorem c_cut_calls (T : Txt K mg) : Cal PP w K mg base 1 (He.ga K "cut_calls") ["numbers"] (sp_cut_calls K) := by
  refine Cal.of T.f_cut_calls sc_cut_calls (fun vs H Q E h => ?_) (fun _ _ _ _ _ _ us hl => match us, hl with | [_], _ => rfl) (fun cdv A outer s H vs Q E hr h => ?_)
  · obtain ⟨rn, zs, raw, rfl, hn, hl, hraw, hc, k⟩ := h
    rfl
  · obtain ⟨rn, zs, raw, rfl, hn, hl, hraw, hc, k⟩ := h
    refine ⟨_, (pss_cons (ps_set (i := 1) sc_cut_calls.nd rfl (Or.inl rfl) (pe_lst pa_nil))
      (pss_cons (ps_set (i := 2) sc_cut_calls.nd rfl (Or.inl rfl) pe_int)
      (pss_cons (ps_while PassesOwn.never (pt_cmpR op_lt (pv 2) (pe_callB cr_len (by rfl) T.n_len (by decide +kernel) (pa_cons (pv 0) pa_nil)) (nomark _))
      (pss_cons (ps_set (i := 3) sc_cut_calls.nd rfl (Or.inl rfl) (pe_ix ix_list (pv 0) (pv 2) (fun _ _ => rfl)))
      (pss_cons (ps_set (i := 4) sc_cut_calls.nd rfl (Or.inl rfl) (pe_op op_add (pe_op op_add (pv 2) pe_int) (pe_callB cr_len (by rfl) T.n_len (by decide +kernel) (pa_cons (pe_ix ix_wdict (pe_glob (v := .ref (He.ga K "RANGES")) (by rfl) T.g_RANGES rfl) (pv 3) (fun _ _ => rfl)) pa_nil))))
      (pss_cons (ps_set (i := 5) sc_cut_calls.nd rfl (Or.inl rfl) (pe_slice sl_list (pv 0) (po_some (pe_op op_add (pv 2) pe_int)) (po_some (pv 4))))
      (pss_cons (ps_set (i := 6) sc_cut_calls.nd rfl (Or.inl rfl) (pe_lst pa_nil))
      (pss_cons (ps_if (pt_cmpR op_inW (pv 3) (pe_glob (v := .ref (He.ga K "ROWS")) (by rfl) T.g_ROWS rfl) (by rfl)) (pss_cons (ps_set (i := 7) sc_cut_calls.nd rfl (Or.inl rfl) (pe_op op_add (pv 4) pe_int))
      (pss_cons (ps_set (i := 4) sc_cut_calls.nd rfl (Or.inl rfl) (pe_op op_add (pv 7) (pe_ix ix_list (pv 0) (pv 4) (fun _ _ => rfl))))
      (pss_one (ps_set (i := 6) sc_cut_calls.nd rfl (Or.inl rfl) (pe_slice sl_list (pv 0) (po_some (pv 7)) (po_some (pv 4))))))) pss_nil)
      (pss_cons (ps_expr (pe_bm PySem.F.plainAttrs_list PySem.F.slot_list_append PySem.F.type_list_append mt_append (pv 1) (pa_cons (pe_tup (pa_cons (pv 3) (pa_cons (pv 5) (pa_cons (pv 6) pa_nil)))) pa_nil)))
      (pss_one (ps_set (i := 2) sc_cut_calls.nd rfl (Or.inl rfl) (pv 4))))))))))
      (pss_one (ps_ret (pv 1)))))), ?_⟩
    obtain ⟨kvs, wd, tab⟩ := T.ranges
    obtain ⟨kvR, wR, tR⟩ := T.rows
    refine Evl.q_asgL (Evl.el_lst Evl.ea_nil (Nat.zero_le _)) fun b H1 nb e1 h1 => ?_
    refine Evl.q_asg (v := .int ((0 : Nat) : Int)) Evl.ev_c fun H2 e2 => ?_
    refine Evl.q_while (fun m σ H' => ∃ a f cs done v3 v4 v5 v6 v7, σ = [some (.ref rn), some (.ref b), some (.int ((a : Nat) : Int)), v3, v4, v5, v6, v7] ∧ m = zs.length - a ∧ a ≤ zs.length ∧ PyFlat.calls PyWrtiha.shape f (zs.drop a) = some cs ∧ raw = done ++ cs ∧ Ex H H' ∧ ∃ xs, H' b = some (.lst xs) ∧ AllV (RawAt (del H' b)) xs done) zs.length ?_ (fun m σ H' hw => ?_)
    · exact ⟨0, zs.length, raw, [], none, none, none, none, none, rfl, rfl, Nat.zero_le _, hc, rfl, e1.trans e2, [], e2 _ _ h1, AllV.nil⟩
    · obtain ⟨a, f, cs, done, v3, v4, v5, v6, v7, rfl, rfl, ha, hcs, hrw, ex, xs, hb, hx⟩ := hw
      have hn' := Evl.ex_l ex hn
      refine ⟨decide (a < zs.length), Evl.et_is (Evl.et_test (Evl.ev_op (Evl.ev_var rfl) (ev_lenL (Evl.ev_var rfl) hn') Evl.rv_I0)) (decide_eq_decide.mpr (by rw [List.length_map]; omega)), fun hlt H3 e3 => ?_, fun hlt H3 e3 => ?_⟩
      · have hlt' := of_decide_eq_true hlt
        obtain ⟨n, kk, c, cs', f', hsh, rfl, hn1, hcP, hcN, hcNl, hcl, hrest⟩ := call_step hlt' hcs
        obtain ⟨⟨rows, hrows, hrl⟩, hrow, hk1, _⟩ := shape_tab hsh
        have ex3 := ex.trans e3
        have at_ : ∀ j, j < zs.length → (zs.map V.int)[j]? = some (.int (zs.getD j 0)) := fun j hj => by
          rw [List.getElem?_map, List.getElem?_eq_getElem hj, List.getD_eq_getElem?_getD, List.getElem?_eq_getElem hj]
          rfl
        have hb3 := e3 _ _ hb
        have hdone : done.length ≤ 1000 := by rw [hrw, List.length_append] at hraw; omega
        have xl : xs.length ≤ 1000 := by rw [hx.1]; exact hdone
        -- what is left of the turn, once the row is there
        refine ⟨fun σ H' => ∃ a' f cs done v3 v4 v5 v6 v7, σ = [some (.ref rn), some (.ref b), some (.int ((a' : Nat) : Int)), v3, v4, v5, v6, v7] ∧ a < a' ∧ a' ≤ zs.length ∧ PyFlat.calls PyWrtiha.shape f (zs.drop a') = some cs ∧ raw = done ++ cs ∧ Ex H H' ∧ ∃ xs, H' b = some (.lst xs) ∧ AllV (RawAt (del H' b)) xs done, fun σ' H' h => ?_, ?_⟩
        · obtain ⟨a', f, cs, done, v3, v4, v5, v6, v7, h1, h2, h3, h4⟩ := h
          exact ⟨zs.length - a', by omega, a', f, cs, done, v3, v4, v5, v6, v7, h1, rfl, h3, h4⟩
        · generalize hp : zs.getD a 0 = p at hsh hcP hrows hrow
          refine Evl.q_asg (v := .int p) (Evl.ev_op (Evl.ev_var rfl) (Evl.ev_var rfl) (Evl.rv_ixL (Evl.ex_l ex3 hn) (atI_nat (by rw [at_ a hlt', hp])))) fun H4 e4 => ?_
          rcases tab2_at p tab with ⟨u, r, g1, g2, g3⟩ | ⟨_, g2⟩
          · rw [hrows] at g2
            cases g2
            have ex4 := ex3.trans e4
            obtain ⟨tt, rfl, as, sq, la, _⟩ := tupT_rows (H := H4) g3
            have en : Ev (tOp rAdd' (tOp rAdd' (tVar 2) (tC (.int 1))) (tCB (rLen K) (tCons (tOp (rIxW K) (tC (.ref (He.ga K "RANGES"))) (tVar 3)) tNil))) [some (.ref rn), some (.ref b), some (.int ((a : Nat) : Int)), some (.int p), v4, v5, v6, v7] H4 (.int ((a + 1 + n : Nat) : Int)) := by
              refine Evl.ev_is (Evl.ev_op (Evl.ev_op (Evl.ev_var rfl) Evl.ev_c Evl.rv_I0) (y := .int (n : Int)) (fun H5 e5 Q5 q5 => ?_) Evl.rv_I0) (congrArg V.int (by omega))
              refine (ev_ixW (v := .ref tt) Evl.ev_c (Evl.ev_var rfl) wd g1 rfl : Ev (tOp (rIxW K) (tC (.ref (He.ga K "RANGES"))) (tVar 3)) [some (.ref rn), some (.ref b), some (.int ((a : Nat) : Int)), some (.int p), v4, v5, v6, v7] H4 (.ref tt)) H5 e5 _ fun H6 e6 => ⟨tt, _, rfl, .inr (Evl.ex_t (e5.trans e6) sq), ?_⟩
              rw [List.length_map, la, hrl]
              exact q5 H6 e6
            refine Evl.q_asg en fun H5 e5 => ?_
            have ex5 := ex4.trans e5
            have ew : EvL (tSl (rSlL K) (tVar 0) (tPart (tOp rAdd' (tVar 2) (tC (.int 1)))) (tPart (tVar 4))) [some (.ref rn), some (.ref b), some (.int ((a : Nat) : Int)), some (.int p), some (.int ((a + 1 + n : Nat) : Int)), v5, v6, v7] H5 ((cN c).map V.int) := by
              refine el_is (Evl.el_sl (lo := some ((a + 1 : Nat) : Int)) (hi := some ((a + 1 + n : Nat) : Int)) (Evl.ev_var rfl) (Evl.eo_some (Evl.ev_is (Evl.ev_op (Evl.ev_var rfl) Evl.ev_c Evl.rv_I0) (congrArg V.int (by omega)))) (Evl.eo_some (Evl.ev_var rfl)) (Evl.ex_l ex5 hn)) ?_
              rw [cut_nat zs _ _ (by omega) hn1, hcN, show a + 1 + n - (a + 1) = n by omega]
            refine Evl.q_asgL ew fun wn H6 nwn e6 h6 => ?_
            have ex6 := ex5.trans e6
            have hb5 := (e4.trans e5) _ _ hb3
            have wnb : wn ≠ b := fun z => by rw [z, hb5] at nwn; cases nwn
            have hb6 := e6 _ _ hb5
            refine Evl.q_asgL (Evl.el_lst Evl.ea_nil (Nat.zero_le _)) fun r0 H7 nr0 e7 h7 => ?_
            have ex7 := ex6.trans e7
            have hb7 := e7 _ _ hb6
            have h67 := e7 _ _ h6
            have r0b : r0 ≠ b := fun z => by rw [z, hb6] at nr0; cases nr0
            -- the turn's end
            have fin : ∀ (a' f : Nat) (rl : Addr) (H8 : Hp) (v7 : Option V) (D : Ends), Ex H7 H8 → rl ≠ b → H8 rl = some (.lst ((cR c).map V.int)) → a < a' → a' ≤ zs.length → PyFlat.calls PyWrtiha.shape f (zs.drop a') = some cs' → D.nx = (fun σ H' => ∃ a' f cs done v3 v4 v5 v6 v7, σ = [some (.ref rn), some (.ref b), some (.int ((a' : Nat) : Int)), v3, v4, v5, v6, v7] ∧ a < a' ∧ a' ≤ zs.length ∧ PyFlat.calls PyWrtiha.shape f (zs.drop a') = some cs ∧ raw = done ++ cs ∧ Ex H H' ∧ ∃ xs, H' b = some (.lst xs) ∧ AllV (RawAt (del H' b)) xs done) →
                tSeq (tDrop (tBM K "list" rAppend (tVar 1) (tCons (tTup (tCons (tVar 3) (tCons (tVar 5) (tCons (tVar 6) tNil)))) tNil))) (tAsg (tVar 4) (gName 2)) D [some (.ref rn), some (.ref b), some (.int ((a : Nat) : Int)), some (.int p), some (.int ((a' : Nat) : Int)), some (.ref wn), some (.ref rl), v7] H8 := fun a' f rl H8 v7 D e8 rlb h8 ha1 ha2 hf hD => by
              have hb8 := e8 _ _ hb7
              refine Evl.q_appU (ys := [.int p, .ref wn, .ref rl]) hb8 (Evl.ev_var rfl) (Evl.eu_tup (Evl.ea_cons (Evl.ev_var rfl) (ea_two (Evl.ev_var rfl) (Evl.ev_var rfl))) (by show 3 ≤ 100000; decide)) (by omega) fun q H9 nq e9 h9 => ?_
              have qb : q ≠ b := fun z => by rw [z, hb8] at nq; cases nq
              refine Evl.s_asg (Evl.ev_var rfl) fun Ha ea => ?_
              rw [hD]
              have e79 : Ex H7 H9 := e8.trans e9
              have dele : del (upd H9 b (.lst (xs ++ [.ref q]))) b = del H9 b := del_upd
              have e9a : Ex (del H9 b) (del Ha b) := by rw [← dele]; exact del_mono ea
              refine ⟨a', f, cs', done ++ [c], _, _, _, _, _, rfl, ha1, ha2, hf, ?_, (((ex7.trans e79).mut nb).trans ea), _, ea _ _ upd_same, ?_⟩
              · rw [hrw, List.append_assoc]
                rfl
              · refine ((hx.mono fun v o r => r.ex ((del_mono ((((e3.trans e4).trans e5).trans e6).trans (e7.trans e79))).trans e9a))).snoc ⟨q, wn, rl, rfl, ?_, ?_, ?_⟩
                · refine e9a _ _ ?_
                  rw [del_ne qb, hcP]
                  exact h9
                · refine e9a _ _ ?_
                  rw [del_ne wnb]
                  exact e79 _ _ h67
                · refine e9a _ _ ?_
                  rw [del_ne rlb]
                  exact e9 _ _ h8
            have ets : Ev (tOp (rInW K) (tVar 3) (tC (.ref (He.ga K "ROWS")))) [some (.ref rn), some (.ref b), some (.int ((a : Nat) : Int)), some (.int p), some (.int ((a + 1 + n : Nat) : Int)), some (.ref wn), some (.ref r0), v7] H7 (.bl (decide (kk = 1))) := Evl.ev_is (ev_inW (Evl.ev_var rfl) Evl.ev_c wR) (congrArg V.bl ((tab2_some tR).trans hrow))
            refine Evl.q_if (Evl.et_test ets) (fun hkk H8 e8 => ?_) (fun hkk H8 e8 => ?_)
            · rcases hrest with ⟨z, _⟩ | ⟨_, hlt2, h0, hle, hcR, hcRl, hf⟩
              · have := of_decide_eq_true hkk; omega
              · have e12 : (((a + 1 + n : Nat) : Int) + 1) = ((a + 1 + n + 1 : Nat) : Int) := by omega
                have ex8 := ex7.trans e8
                refine Evl.q_asg (v := .int ((a + 1 + n + 1 : Nat) : Int)) (Evl.ev_is (Evl.ev_op (Evl.ev_var rfl) Evl.ev_c Evl.rv_I0) (congrArg V.int e12)) fun H9 e9 => ?_
                have ex9 := ex8.trans e9
                have eend : Ev (tOp rAdd' (tVar 7) (tOp (rIxL K) (tVar 0) (tVar 4))) [some (.ref rn), some (.ref b), some (.int ((a : Nat) : Int)), some (.int p), some (.int ((a + 1 + n : Nat) : Int)), some (.ref wn), some (.ref r0), some (.int ((a + 1 + n + 1 : Nat) : Int))] H9 (.int ((a + 1 + n + 1 + (zs.getD (a + 1 + n) 0).toNat : Nat) : Int)) := Evl.ev_is (Evl.ev_op (Evl.ev_var rfl) (Evl.ev_op (Evl.ev_var rfl) (Evl.ev_var rfl) (Evl.rv_ixL (Evl.ex_l ex9 hn) (atI_nat (at_ _ hlt2)))) Evl.rv_I0) (congrArg V.int (by omega))
                refine Evl.q_asg eend fun Ha ea => ?_
                have exa := ex9.trans ea
                have er : EvL (tSl (rSlL K) (tVar 0) (tPart (tVar 7)) (tPart (tVar 4))) [some (.ref rn), some (.ref b), some (.int ((a : Nat) : Int)), some (.int p), some (.int ((a + 1 + n + 1 + (zs.getD (a + 1 + n) 0).toNat : Nat) : Int)), some (.ref wn), some (.ref r0), some (.int ((a + 1 + n + 1 : Nat) : Int))] Ha ((cR c).map V.int) := by
                  refine el_is (Evl.el_sl (Evl.ev_var rfl) (Evl.eo_some (Evl.ev_var rfl)) (Evl.eo_some (Evl.ev_var rfl)) (Evl.ex_l exa hn)) ?_
                  rw [cut_nat zs _ _ (by omega) hle, hcR, show a + 1 + n + 1 + (zs.getD (a + 1 + n) 0).toNat - (a + 1 + n + 1) = (zs.getD (a + 1 + n) 0).toNat by omega]
                dsimp only
                refine Evl.s_asgL er fun rl Hb nrl eb hb' => ?_
                have e7b := (e8.trans e9).trans (ea.trans eb)
                have rlb : rl ≠ b := fun z => by rw [z, ((e8.trans e9).trans ea) _ _ hb7] at nrl; cases nrl
                exact fin _ f' rl Hb _ _ e7b rlb hb' (by omega) hle hf rfl
            · rcases hrest with ⟨_, hcR, hf⟩ | ⟨z, _⟩
              · exact fin _ f' r0 H8 _ _ e8 r0b (by rw [e8 _ _ h7, hcR]; rfl) (by omega) hn1 hf rfl
              · have := of_decide_eq_false hkk; omega
          · rw [hrows] at g2; cases g2
      · have hge := of_decide_eq_false hlt
        have e := call_done (by omega) hcs
        subst e
        rw [List.append_nil] at hrw
        subst hrw
        exact Evl.s_ret (Evl.ev_var rfl) fun H4 e4 => k b H4 xs nb ((ex.trans e3).trans e4) ((e3.trans e4) _ _ hb) (hx.mono fun v o r => (r.ex (del_ex _ _)).ex (e3.trans e4))
end
end Th
namespace Th
open PySem PySem.Spec PyProof.Rows L2
open TimHaul (Road Limit Truck Lot Trip Office before)
open Evl (Ex Ev EvL EvT EvA)
section
variable {PP : Program} {w : World} {K : PySem.W.Frag} {mg : Str → Option Value} {base : Heap}
def sp_is_span_in_range (K : PySem.W.Frag) : Sp := fun vs H Q _ => ∃ (rn : Addr) (c : Int) (ns : List Int), vs = [.int c, .ref rn] ∧ H rn = some (.lst (ns.map V.int)) ∧ (∀ at', lkI c spansL = some at' → at'.toNat + 1 < ns.length) ∧
  ∀ H', Ex H H' → Q (.bl (spanR c ns)) H'
theorem sc_is_span_in_range : FnScope (["call", "numbers", "at"] : List Str) ["call", "numbers"] (defScope s_is_span_in_range) := ⟨rfl, rfl, rfl, by decide +kernel, rfl, by decide +kernel, by decide +kernel⟩
theorem c_is_span_in_range (T : Txt K mg) : Cal PP w K mg base 1 (He.ga K "is_span_in_range") ["call", "numbers"] (sp_is_span_in_range K) := by
  refine Cal.of T.f_is_span_in_range sc_is_span_in_range (fun vs H Q E h => ?_) (fun _ _ _ _ _ _ us hl => match us, hl with | [_, _], _ => rfl) (fun cdv A outer s H vs Q E hr h => ?_)
  · obtain ⟨rn, c, ns, rfl, hn, hl, k⟩ := h
    rfl
  · obtain ⟨rn, c, ns, rfl, hn, hl, k⟩ := h
    refine ⟨_, (pss_cons (ps_if (pt_cmpR op_notInW (pv 0) (pe_glob (v := .ref (He.ga K "SPANS")) (by rfl) T.g_SPANS rfl) (by rfl)) (pss_one (ps_ret pe_bl)) pss_nil)
      (pss_cons (ps_set (i := 2) sc_is_span_in_range.nd rfl (Or.inl rfl) (pe_ix ix_wdict (pe_glob (v := .ref (He.ga K "SPANS")) (by rfl) T.g_SPANS rfl) (pv 0) (fun _ _ => rfl)))
      (pss_one (ps_ret (pe_chain op_le op_le pe_int (pe_op op_sub (pe_ix ix_list (pv 1) (pe_op op_add (pv 2) pe_int) (fun _ _ => rfl)) (pe_ix ix_list (pv 1) (pv 2) (fun _ _ => rfl))) (pe_gint T.i_LONGEST_SPAN (by rfl))))))), ?_⟩
    obtain ⟨kvs, wd, tab⟩ := T.spans
    have ts := tab2_some (i := c) tab
    refine Evl.q_when (b := !(lkI c spansL).isSome) (Evl.et_test (Evl.ev_is (ev_notInW (Evl.ev_var rfl) Evl.ev_c wd) (congrArg (fun b => V.bl (!b)) ts))) (fun hc H1 e1 => ?_) (fun hc H1 e1 => ?_)
    · refine Evl.s_ret Evl.ev_c fun H2 e2 => ?_
      have z := k H2 (e1.trans e2)
      have e : spanR c ns = true := by
        unfold spanR
        cases q : lkI c spansL with
        | none => rfl
        | some r => rw [q] at hc; cases hc
      rw [e] at z
      exact z
    · rcases tab2_at c tab with ⟨u, r, h1, h2, h3⟩ | ⟨_, h2⟩
      · have f2 := spans_two _ (lkI_mem h2)
        have hlt := hl r h2
        have r0 : 0 ≤ r := by rcases f2 with z | z <;> (have z' : r = _ := z; omega)
        have es : spanR c ns = (decide (0 ≤ ns.getD (r.toNat + 1) 0 - ns.getD r.toNat 0) && decide (ns.getD (r.toNat + 1) 0 - ns.getD r.toNat 0 ≤ 4)) := by
          unfold spanR
          rw [h2]
        have ei : Ev (tOp (rIxW K) (tC (.ref (He.ga K "SPANS"))) (tVar 0)) [some (.int c), some (.ref rn), none] H1 (.int r) := ev_ixW (v := .int r) Evl.ev_c (Evl.ev_var rfl) wd h1 h3
        refine Evl.q_asg ei fun H2 e2 => ?_
        have hn2 := (e1.trans e2) _ _ hn
        have at_ : ∀ j, j < ns.length → (ns.map V.int)[j]? = some (.int (ns.getD j 0)) := fun j hj => by
          rw [List.getElem?_map, List.getElem?_eq_getElem hj, List.getD_eq_getElem?_getD, List.getElem?_eq_getElem hj]
          rfl
        have er : r = ((r.toNat : Nat) : Int) := by omega
        have er1 : r + 1 = ((r.toNat + 1 : Nat) : Int) := by omega
        have a1 : Ev (tOp (rIxL K) (tVar 1) (tOp rAdd' (tVar 2) (tC (.int 1)))) [some (.int c), some (.ref rn), some (.int r)] H2 (.int (ns.getD (r.toNat + 1) 0)) := Evl.ev_op (Evl.ev_var rfl) (Evl.ev_is (Evl.ev_op (Evl.ev_var rfl) Evl.ev_c Evl.rv_I0) (congrArg V.int er1)) (Evl.rv_ixL (SqL.of hn2) (atI_nat (at_ _ hlt)))
        have a2 : Ev (tOp (rIxL K) (tVar 1) (tVar 2)) [some (.int c), some (.ref rn), some (.int r)] H2 (.int (ns.getD r.toNat 0)) := Evl.ev_op (Evl.ev_var rfl) (Evl.ev_is (Evl.ev_var rfl) (congrArg V.int er)) (Evl.rv_ixL (SqL.of hn2) (atI_nat (at_ _ (by omega))))
        rw [es] at k
        exact Evl.s_ret (ev_chainLe Evl.ev_c (Evl.ev_op a1 a2 Evl.rv_I0) Evl.ev_c) fun H3 e3 => k H3 ((e1.trans e2).trans e3)
      · rw [h2] at hc
        cases hc
end
end Th
namespace Th
open PySem PySem.Spec PyProof.Rows L2
open Evl (Ex Ev EvT EvL EvA given)
/-! ### zip of a list and a tuple -/
def ItzM (K : PySem.W.Frag) (a b : Addr) : It :=
  ⟨fun i H => ∃ (xs ys : List V) (x y : V), SqL K H a xs ∧ SqT K H b ys ∧ xs[i]? = some x ∧ ys[i]? = some y,
    fun i H v H' => ∃ T x y, v = .ref T ∧ H T = none ∧ H' = upd H T (.tup [x, y]) ∧ (∀ xs, SqL K H a xs → xs[i]? = some x) ∧ ∀ ys, SqT K H b ys → ys[i]? = some y,
    fun i H => ∃ xs ys : List V, SqL K H a xs ∧ SqT K H b ys ∧ i ≤ xs.length ∧ i ≤ ys.length ∧ (i = xs.length ∨ i = ys.length)⟩
theorem turn_zipM {P : Program} {w : World} {K : PySem.W.Frag} {elts : List Expr} {kk : Nat} {tpos : Pos} {a b z TI TO i1 i2 : Addr} (D : ZipSep2 z TI TO i1 i2 [i1, a] [i2, b]) (hTO2 : i1 ≠ a ∧ i2 ≠ b) :
    Turn P w K (.Tuple elts kk tpos) (ItzM K a b) [z, TI, TO, i1, i2] z (fun i h => IsZip h z TI TO .none ∧ IsTupOf2 h TI (.ref i1) (.ref i2) ∧ (∃ x y, IsTupOf2 h TO x y) ∧ h.IsListIter i1 a i ∧ h.IsTupleIter i2 b i) where
  mem := by simp
  obj := fun i h st c hc => by
    obtain ⟨hz, hTI, ⟨x, y, hTO⟩, ⟨o1, e1, _, d1⟩, ⟨o2, e2, _, d2⟩⟩ := st
    have e' : c = z ∨ c = TI ∨ c = TO ∨ c = i1 ∨ c = i2 := by simpa using hc
    rcases e' with q | q | q | q | q
    · rw [q]; exact ⟨_, hz, fun v q => nomatch q⟩
    · rw [q]; exact ⟨_, hTI, fun v q => nomatch q⟩
    · rw [q]; exact ⟨_, hTO, fun v q => nomatch q⟩
    · rw [q]; exact ⟨o1, e1, fun v q => by rw [d1] at q; cases q⟩
    · rw [q]; exact ⟨o2, e2, fun v q => by rw [d2] at q; cases q⟩
  keep := fun i h h' st k => by
    obtain ⟨hz, hTI, ⟨x, y, hTO⟩, h1, h2⟩ := st
    exact ⟨k z (by simp) _ hz, k TI (by simp) _ hTI, ⟨x, y, k TO (by simp) _ hTO⟩, h1.at fun o q => k i1 (by simp) o q, h2.at fun o q => k i2 (by simp) o q⟩
  item := by
    intro X hP hw hK hc i pins s σ H E I hf st hg
    subst hP hw hK
    obtain ⟨hz, hTI, ⟨x0, y0, hTO⟩, h1, h2⟩ := st
    obtain ⟨xs, ys, x, y, hqx, hqy, hx, hy⟩ := hg
    obtain ⟨its, rv, p, _⟩ := I.list hqx
    obtain ⟨its2, rv2, p2, _⟩ := I.tuple hqy
    obtain ⟨u, hu, ru⟩ := rv.get hx
    obtain ⟨u2, hu2, ru2⟩ := rv2.get hy
    have hzl : z < s.heap.objs.size := Heap.lt_size hz
    have l1 : i < its.toArray.size := by
      have : i < its.length := (List.getElem?_eq_some_iff.mp hu).1
      simpa using this
    have l2 : i < its2.toArray.size := by
      have : i < its2.length := (List.getElem?_eq_some_iff.mp hu2).1
      simpa using this
    have hh : X.A.handled = none := I.ok.hd hc
    refine wpAny_pyNext_zipD2_item D (Draws.list (show X.A.in1.handled = none from hh) i1 a (Ne.symm hTO2.1) its.toArray) (Draws.tuple (show X.A.in1.handled = none from hh) i2 b (Ne.symm hTO2.2) its2.toArray) hz hTI hTO ⟨h1, p.isList⟩ ⟨h2, p2⟩ l1 l2 fun v1 v2 h' tk g1 g2 z' TO' s1' s2' hT hsz hk => ?_
    have e1 : v1 = u := by simpa [hu] using g1.symm
    have e2 : v2 = u2 := by simpa [hu2] using g2.symm
    subst e1 e2
    refine ⟨_, rfl, wpAny_letOwnedTupleGo_zip (s := { s with heap := h', toks := tk }) z' fun h'' z'' sb => ?_⟩
    have hT2 : h''.get? s.heap.objs.size = some { cls := .type "tuple", data := .seq #[v1, v2] } := (sb.2 _ (Nat.ne_of_gt hzl)).trans hT
    have new : ObjOk X.prog X.w (upd H s.heap.objs.size (.tup [x, y])) h'' s.heap.objs.size (.tup [x, y]) :=
      ⟨by show 2 ≤ sizeLine; decide, [v1, v2], .cons ru (.cons ru2 .nil), ⟨_, hT2, rfl, _, rfl⟩⟩
    have I1 : Inv X pins σ (upd H s.heap.objs.size (.tup [x, y])) { s with heap := h'', toks := tk } :=
      I.turnedNew (t' := tk) (ch := [z, TI, TO, i1, i2]) (fun c o hb q => (sb.2 c (fun q' => hb (by simp [q']))).trans (hk c o (fun q' => hb (by simp [q'])) (fun q' => hb (by simp [q'])) (fun q' => hb (by simp [q'])) (fun q' => hb (by simp [q'])) q)) hf (Nat.le_refl _) new
    refine ⟨.ref s.heap.objs.size, _, I1, rfl, ⟨_, x, y, rfl, I.hok.fresh (Nat.le_refl _), rfl, fun l hl => by rw [I.list_inj hl hqx]; exact hx, fun l hl => by rw [I.tuple_inj hl hqy]; exact hy⟩, ⟨z'', ?_, ⟨v1, v2, ?_⟩, ?_, ?_⟩, fun c hcm => ?_⟩
    · exact (sb.2 _ D.TIz).trans (hk _ _ D.TIz D.TITO D.TIi1 D.TIi2 hTI)
    · exact (sb.2 _ D.TOz).trans TO'
    · exact s1'.1.at fun o q => (sb.2 _ D.zi1.symm).trans q
    · exact s2'.1.at fun o q => (sb.2 _ D.zi2.symm).trans q
    · have hlt : c < s.heap.objs.size := by
        have e' : c = z ∨ c = TI ∨ c = TO ∨ c = i1 ∨ c = i2 := by simpa using hcm
        rcases e' with q | q | q | q | q
        · rw [q]; exact hzl
        · rw [q]; exact Heap.lt_size hTI
        · rw [q]; exact Heap.lt_size hTO
        · rw [q]; obtain ⟨_, e1, _⟩ := h1; exact Heap.lt_size e1
        · rw [q]; obtain ⟨_, e2, _⟩ := h2; exact Heap.lt_size e2
      rw [upd_ne (Nat.ne_of_lt hlt)]
      exact (hf c hcm).1
  done := by
    intro X hP hw hK hc i pins s σ H E I hf st hg
    subst hP hw hK
    obtain ⟨hz, hTI, ⟨x0, y0, hTO⟩, h1, h2⟩ := st
    obtain ⟨xs, ys, hqx, hqy, le1, le2, hend⟩ := hg
    obtain ⟨its, rv, p, _⟩ := I.list hqx
    obtain ⟨its2, rv2, p2, _⟩ := I.tuple hqy
    have l1 := rv.length
    have l2 := rv2.length
    have hh : X.A.handled = none := I.ok.hd hc
    exact wpAny_pyNext_zipD2_end D (Draws.list (show X.A.in1.handled = none from hh) i1 a (Ne.symm hTO2.1) its.toArray) (Draws.tuple (show X.A.in1.handled = none from hh) i2 b (Ne.symm hTO2.2) its2.toArray) hz hTI hTO ⟨h1, p.isList⟩ ⟨h2, p2⟩ (by simp; omega) (by simp; omega) (by simp; omega) fun h' tk hk => ⟨rfl, I.turnedL (t' := tk) (ch := [z, TI, TO, i1, i2]) (fun c o hb q =>
      hk c o (fun q' => hb (by simp [q'])) (fun q' => hb (by simp [q'])) (fun q' => hb (by simp [q'])) (fun q' => hb (by simp [q'])) q) hf⟩
  self := fun A i s Q E st h => wpAny_pyIter_zip st.1 h
def iZipM (K : PySem.W.Frag) (ta : TA) : TI := fun σ H R => ta σ H fun vs H1 => ∃ a b xs ys, vs = [.ref a, .ref b] ∧ SqL K H1 a xs ∧ SqT K H1 b ys ∧ R (ItzM K a b) H1
theorem pi_zipM {X : Cx} {e e2 : Expr} {ta : TA} {p pos tpos : Pos} {elts : List Expr} {kk : Nat} (hg : Gl X "zip") (hm : X.mg "zip" = none) (ha : PA X [e, e2] ta)
    (hs : starEach [e, e2] X.env = (false, eval e X.env) :: starEach [e2] X.env := by rfl) (hpl : (backTo pos (starEach [e2] X.env)).any (·.1) = false := by rfl) :
    PI X (.Tuple elts kk tpos) (.Call (.Name "zip" p) [e, e2] [] pos) (iZipM X.K ta) := by
  refine ⟨fun pins s σ H R I h => ?_⟩
  refine Call_ (ld_blt I hg hm PyProof.Rows.boot_zip (PyProof.Rows.callWith_type1 (thn (ha.run pos pins s σ H _ I h) fun us s1 ⟨vs, H1, I1, r1, q1⟩ => ?_) hs hpl))
  obtain ⟨a, b, xs, ys, ex, hqx, hqy, q⟩ := q1
  subst ex
  cases r1 with
  | cons r rr =>
    cases rr with
    | cons r' rr =>
      cases rr
      cases r
      cases r'
      obtain ⟨its, rv, p1, _⟩ := I1.list hqx
      obtain ⟨its2, rv2, p2, _⟩ := I1.tuple hqy
      obtain ⟨o2, ho2, _⟩ := id p2
      have la : a < s1.heap.objs.size := p1.lt
      have lb : b < s1.heap.objs.size := Heap.lt_size ho2
      refine zip_begins2 (begins_list a its.toArray) (begins_tuple b its2.toArray) p1.isList p2 fun h' hz hTI hTO h1 h2 hsz hk => wpAny_pyIter_zip hz ?_
      have I2 : Inv X pins σ H1 { s1 with heap := h' } := I1.kept (t' := s1.toks) hk
      refine ⟨s1.heap.objs.size + 4, [s1.heap.objs.size + 4, s1.heap.objs.size + 2, s1.heap.objs.size + 3, s1.heap.objs.size, s1.heap.objs.size + 1], _, _, H1, rfl, I2, turn_zipM (zip_sep2 (fp1 := [a]) (fp2 := [b]) (fun c hc => by rw [List.mem_singleton.mp hc]; exact la) (fun c hc => by rw [List.mem_singleton.mp hc]; exact lb)) ⟨Nat.ne_of_gt la, Nat.ne_of_gt (Nat.lt_succ_of_lt lb)⟩, ⟨hz, hTI, ⟨_, _, hTO⟩, ⟨_, h1, rfl, rfl⟩, ⟨_, h2, rfl, rfl⟩⟩, fun c hcm => ?_, q⟩
      have e' : c = s1.heap.objs.size + 4 ∨ c = s1.heap.objs.size + 2 ∨ c = s1.heap.objs.size + 3 ∨ c = s1.heap.objs.size ∨ c = s1.heap.objs.size + 1 := by simpa using hcm
      have hle : s1.heap.objs.size ≤ c := by
        rcases e' with z | z | z | z | z
        · rw [z]; exact Nat.le_add_right _ _
        · rw [z]; exact Nat.le_add_right _ _
        · rw [z]; exact Nat.le_add_right _ _
        · rw [z]; exact Nat.le_refl _
        · rw [z]; exact Nat.le_add_right _ _
      exact I1.fpOk hle (I1.hok.fresh hle)
theorem walk_zipM {K : PySem.W.Frag} {a b : Addr} {xs ys : List V} (hn : xs.length = ys.length) : Walk (ItzM K a b) xs.length (fun H => SqL K H a xs ∧ SqT K H b ys) (YPair (fun i => xs[i]?) (fun i => ys[i]?)) where
  goes := fun i H hi h => ⟨xs, ys, _, _, h.1, h.2, List.getElem?_eq_getElem hi, List.getElem?_eq_getElem (by omega)⟩
  stops := fun H h => ⟨xs, ys, h.1, h.2, Nat.le_refl _, by omega, .inl rfl⟩
  yields := fun i H v H' hi h y => by
    obtain ⟨T, x, y', e1, e2, e3, f1, f2⟩ := y
    exact ⟨T, x, y', e1, e2, e3, f1 xs h.1, f2 ys h.2⟩
/-! ### enumerate(list, start=k) -/
def IteS (K : PySem.W.Frag) (k0 : Nat) (a : Addr) : It :=
  ⟨fun i H => ∃ (xs : List V) (x : V), SqL K H a xs ∧ xs[i]? = some x, fun i H v H' => ∃ T x, v = .ref T ∧ H T = none ∧ H' = upd H T (.tup [.int ((i + k0 : Nat) : Int), x]) ∧ ∀ xs, SqL K H a xs → xs[i]? = some x, fun i H => ∃ xs : List V, SqL K H a xs ∧ xs.length = i⟩
theorem turn_enumS {P : Program} {w : World} {K : PySem.W.Frag} {elts : List Expr} {kk : Nat} {tpos : Pos} (k0 : Nat) (a e it : Addr) (hd : a ≠ it ∧ e ≠ it ∧ e ≠ a) :
    Turn P w K (.Tuple elts kk tpos) (IteS K k0 a) [e, it] e (fun i h => (∃ old, IsEnum h e it ((i + k0 : Nat) : Int) old) ∧ h.IsListIter it a i) where
  mem := by simp
  obj := fun i h st b hb => by
    obtain ⟨⟨old, he⟩, ⟨o, ho, hc, hd⟩⟩ := st
    have e' : b = e ∨ b = it := by simpa using hb
    rcases e' with z | z
    · rw [z]; exact ⟨_, he, fun v q => nomatch q⟩
    · rw [z]; exact ⟨o, ho, fun v q => by rw [hd] at q; cases q⟩
  keep := fun i h h' st k => let ⟨⟨old, he⟩, hi⟩ := st; ⟨⟨old, k e (by simp) _ he⟩, hi.at fun o q => k it (by simp) o q⟩
  item := by
    intro X hP hw hK hc i pins s σ H E I hf st hg
    subst hP hw hK
    obtain ⟨⟨old, he⟩, hit⟩ := st
    obtain ⟨xs, x, hq, hx⟩ := hg
    obtain ⟨its, rv, p, hz⟩ := I.list hq
    obtain ⟨u, hu, ru⟩ := rv.get hx
    have hel : e < s.heap.objs.size := Heap.lt_size he
    have hil : it < s.heap.objs.size := by obtain ⟨_, q, _⟩ := hit; exact Heap.lt_size q
    have l1 : i < its.toArray.size := by
      have : i < its.length := (List.getElem?_eq_some_iff.mp hu).1
      simpa using this
    have hh : X.A.handled = none := I.ok.hd hc
    refine wpAny_pyNext_enum_itemC (Draws.list (show X.A.in1.handled = none from hh) it a hd.1 its.toArray) he ⟨hit, p.isList⟩ l1 hd.2.1 (by simp [hd.2.1, hd.2.2]) fun v h' tk g1 ho st' hT hsz hk => ?_
    have e1 : v = u := by simpa [hu] using g1.symm
    subst e1
    refine ⟨_, rfl, wpAny_letOwnedTupleGo_enum (s := { s with heap := h', toks := tk + 1 }) ho fun h'' he' sb => ?_⟩
    have hT2 : h''.get? s.heap.objs.size = some { cls := .type "tuple", data := .seq #[.int ((i + k0 : Nat) : Int) tk, v] } := (sb.2 _ (Nat.ne_of_gt hel)).trans hT
    have new : ObjOk X.prog X.w (upd H s.heap.objs.size (.tup [.int ((i + k0 : Nat) : Int), x])) h'' s.heap.objs.size (.tup [.int ((i + k0 : Nat) : Int), x]) :=
      ⟨by show 2 ≤ sizeLine; decide, [.int ((i + k0 : Nat) : Int) tk, v], .cons ⟨_, rfl⟩ (.cons ru .nil), ⟨_, hT2, rfl, _, rfl⟩⟩
    have I1 : Inv X pins σ (upd H s.heap.objs.size (.tup [.int ((i + k0 : Nat) : Int), x])) { s with heap := h'', toks := tk + 1 } :=
      I.turnedNew (ch := [e, it]) (fun b ob hb q => (sb.2 b (fun z => hb (by simp [z]))).trans (hk b ob (fun z => hb (by simp [z])) (fun z => hb (by simp [z])) q)) hf (Nat.le_refl _) new
    refine ⟨.ref s.heap.objs.size, _, I1, rfl, ⟨_, x, rfl, I.hok.fresh (Nat.le_refl _), rfl, fun ys hy => by rw [I.list_inj hy hq]; exact hx⟩, ⟨⟨v, ?_⟩, st'.1.at fun o q => (sb.2 it (Ne.symm hd.2.1)).trans q⟩, fun b hb => ?_⟩
    · have e1 : ((i + 1 + k0 : Nat) : Int) = ((i + k0 : Nat) : Int) + 1 := by omega
      rw [e1]; exact he'
    · have hb' : b < s.heap.objs.size := by
        have e' : b = e ∨ b = it := by simpa using hb
        rcases e' with z | z
        · rw [z]; exact hel
        · rw [z]; exact hil
      rw [upd_ne (Nat.ne_of_lt hb')]
      exact (hf b hb).1
  done := by
    intro X hP hw hK hc i pins s σ H E I hf st hg
    subst hP hw hK
    obtain ⟨⟨old, he⟩, hit⟩ := st
    obtain ⟨xs, hq, hx⟩ := hg
    obtain ⟨its, rv, p, hz⟩ := I.list hq
    obtain ⟨f0, f1, f2, f3, f4, f5⟩ := hf it (by simp)
    have hl := rv.length
    have hh : X.A.handled = none := I.ok.hd hc
    have en : i = its.toArray.size := by simp; omega
    rw [en] at hit
    exact wpAny_pyNext_enum_endD (Draws.list (show X.A.in1.handled = none from hh) it a hd.1 its.toArray) he ⟨hit, p.isList⟩ fun h' eb => ⟨rfl, I.turned (t' := s.toks) (fun b o hb q => eb b o hb q) f0 f1 f3 f4 f5⟩
  self := fun A i s Q E st h => let ⟨⟨_, he⟩, _⟩ := st; wpAny_pyIter_enum he h
section
variable {M : Model} {A : Around} {env : Env} {E : Value → Shared → Prop} {s : Shared}
theorem callWith_type_kwB {pos : Pos} {id : String} {first : List Value} {args : List (Bool × Sem Value)} {keywords : List (Option Str × Sem Value)} {Q : Value → Shared → Prop}
    (hplain : args.any (·.1) = false) (hkw : keywords.any (·.1.isNone) = false)
    (h : wpAny M A (evalArgs (.type id) true args keywords) (fun a s₁ => wpAny M A (call (.type id) (first ++ a.pos) a.kw) Q E s₁) E s) :
    wpAny M A (callWith pos (.type id) first args keywords) Q E s := by
  unfold callWith
  refine wpAny_bind (wpAny_holding (wpAny_mono h (fun a s₁ h₁ => wpAny_bind (wpAny_standAt ?_)) fun _ _ x => x))
  simp only [hplain, hkw, Bool.or_false]
  refine wpAny_bind (wpAny_pure ?_)
  exact wpAny_bind (wpAny_mono h₁ (fun r s₂ hr => wpAny_bind (wpAny_holding (wpAny_point (wpAny_pure hr)))) fun _ _ x => x)
theorem callWith_typeKw {pos : Pos} {id : String} {e : Expr} {rest : List Expr} {kws : List Keyword} {Q : Value → Shared → Prop}
    (h : wpAny M A (spliced (backTo pos (starEach (e :: rest) env))) (fun vs s₁ => wpAny M A (evalAll ((backToKw pos (keywordEach kws env)).map (·.2)))
      (fun kvs s₂ => wpAny M A (call (.type id) vs (((backToKw pos (keywordEach kws env)).filterMap (·.1)).zip kvs)) Q E s₂) E s₁) E s)
    (he : backTo pos (starEach (e :: rest) env) = (false, eval e env) :: backTo pos (starEach rest env) := by rfl)
    (hplain : (backTo pos (starEach (e :: rest) env)).any (·.1) = false := by rfl)
    (hall : (backToKw pos (keywordEach kws env)).all (·.1.isSome) = true := by rfl)
    (hkw : (backToKw pos (keywordEach kws env)).any (·.1.isNone) = false := by rfl) :
    wpAny M A (callWith pos (.type id) [] (backTo pos (starEach (e :: rest) env)) (backToKw pos (keywordEach kws env))) Q E s := by
  refine callWith_type_kwB hplain hkw ?_
  rw [he] at h ⊢
  exact evalArgs_kwB hall h
end
def iEnumS (K : PySem.W.Frag) (ta tk : TA) : TI := fun σ H R => ta σ H fun vs H1 => tk σ H1 fun zs H2 => ∃ (a : Addr) (xs : List V) (k0 : Nat), vs = [.ref a] ∧ zs = [.int (k0 : Int)] ∧ k0 < 1000 ∧ SqL K H2 a xs ∧ R (IteS K k0 a) H2
theorem pi_enumS {X : Cx} {e : Expr} {kws : List Keyword} {ta tk : TA} {p pos tpos : Pos} {elts : List Expr} {kk : Nat} (hg : Gl X "enumerate") (hm : X.mg "enumerate" = none) (ha : PA X [e] ta) (hk : PK X kws tk)
    (he : backTo pos (starEach [e] X.env) = (false, eval e X.env) :: backTo pos (starEach [] X.env) := by rfl) (hpl : (backTo pos (starEach [e] X.env)).any (·.1) = false := by rfl)
    (hall : (backToKw pos (keywordEach kws X.env)).all (·.1.isSome) = true := by rfl) (hnone : (backToKw pos (keywordEach kws X.env)).any (·.1.isNone) = false := by rfl) (hks : (backToKw pos (keywordEach kws X.env)).filterMap (·.1) = [Str.ofString "start"] := by rfl) :
    PI X (.Tuple elts kk tpos) (.Call (.Name "enumerate" p) [e] kws pos) (iEnumS X.K ta tk) := by
  refine ⟨fun pins s σ H R I h => ?_⟩
  refine wpAny_Call_Name_kw (ld_blt I hg hm boot_enumerate (callWith_typeKw (thn (ha.run pos pins s σ H _ I h) fun us s1 ⟨vs, H1, I1, r1, q1⟩ => thn (hk.run pos pins s1 σ H1 _ I1 q1) fun ws s2 ⟨zs, H2, I2, r2, q2⟩ => ?_) he hpl hall hnone))
  rw [hks]
  obtain ⟨a, xs, k0, ex, ez, hk0, hq, q⟩ := q2
  subst ex ez
  cases r1 with
  | cons r rr =>
    cases rr
    cases r
    cases r2 with
    | cons r rr =>
      cases rr
      obtain ⟨t, rfl⟩ := r
      obtain ⟨its, rv, p', hz⟩ := I2.list hq
      have la : a < s2.heap.objs.size := p'.lt
      refine enum_begins_start (begins_list a its.toArray) p'.isList (by omega) (by omega) fun h' he hit hsz hk => wpAny_pyIter_enum he ?_
      have I3 : Inv X pins σ H2 { s2 with heap := h' } := I2.kept (t' := s2.toks) hk
      refine ⟨s2.heap.objs.size + 1, [s2.heap.objs.size + 1, s2.heap.objs.size], _, _, H2, rfl, I3, turn_enumS k0 a (s2.heap.objs.size + 1) s2.heap.objs.size ⟨Nat.ne_of_lt la, Nat.succ_ne_self _, Nat.ne_of_gt (Nat.lt_succ_of_lt la)⟩, ⟨⟨.none, by rw [Nat.zero_add]; exact he⟩, ⟨_, hit, rfl, rfl⟩⟩, fun b hb => ?_, q⟩
      have e' : b = s2.heap.objs.size + 1 ∨ b = s2.heap.objs.size := by simpa using hb
      have hle : s2.heap.objs.size ≤ b := by
        rcases e' with z | z
        · rw [z]; exact Nat.le_add_right _ _
        · rw [z]; exact Nat.le_refl _
      exact I2.fpOk hle (I2.hok.fresh hle)
theorem walk_enumS {K : PySem.W.Frag} {k0 : Nat} {a : Addr} {xs : List V} : Walk (IteS K k0 a) xs.length (fun H => SqL K H a xs) (YPair (fun i => some (.int ((i + k0 : Nat) : Int))) (fun i => xs[i]?)) where
  goes := fun i H hi h => ⟨xs, _, h, List.getElem?_eq_getElem hi⟩
  stops := fun H h => ⟨xs, h, rfl⟩
  yields := fun i H v H' hi h y => by
    obtain ⟨T, x, e1, e2, e3, f1⟩ := y
    exact ⟨T, _, x, e1, e2, e3, rfl, f1 xs h⟩
/-! ### min(list, default=d) -/
def minOr (d : Int) : List Int → Int
  | [] => d
  | n :: r => r.foldl min n
def rMinDef (K : PySem.W.Frag) : List V → List V → Hp → VK → Prop := fun vs zs H Q => ∃ (a : Addr) (ns : List Int) (d : Int), vs = [V.ref a] ∧ zs = [.int d] ∧ SqL K H a (ns.map V.int) ∧ Q (.int (minOr d ns)) H
theorem dp_ints' {K : PySem.W.Frag} {H : Hp} : ∀ l : List Int, DpAll K H (l.map V.int) (l.map PyData.int)
  | [] => .nil
  | x :: l => .cons (.int _) (dp_ints' l)
theorem depth_ints' : ∀ l : List Int, PyData.depthAll (l.map PyData.int) ≤ 1
  | [] => by simp [PyData.depthAll]
  | x :: l => by
    have ih := depth_ints' l
    rw [List.map_cons]
    simp [PyData.depthAll, PyData.depth]
    omega
theorem alike_ints' (l : List Int) : PySem.W.AlikeAll (l.map PyData.int) := ⟨fun x hx y hy => by
  obtain ⟨i, _, rfl⟩ := List.mem_map.mp hx
  obtain ⟨j, _, rfl⟩ := List.mem_map.mp hy
  simp [PySem.W.alike], fun x hx e => by
  obtain ⟨i, _, rfl⟩ := List.mem_map.mp hx
  cases e⟩
theorem cr_minDef {X : Cx} (hc : X.calm = true) (hu : X.A.units + 64 < cLine) : CallRK X (.builtin "min") [Str.ofString "default"] (rMinDef X.K) := by
  intro pins s σ H vs zs us ws Q I r rz h
  obtain ⟨a, ns, d, rfl, rfl, hs, q⟩ := h
  obtain rfl := Vals.ref1 r
  obtain ⟨w1, rfl, e1⟩ := vals1 rz
  obtain ⟨t1, rfl⟩ := e1
  obtain ⟨its, rv, hl, _⟩ := I.list hs
  obtain ⟨as, rr⟩ := Dp.readsAll I _ _ _ (dp_ints' (K := X.K) (H := H) ns) rv
  have hd := depth_ints' ns
  refine PySem.W.min_list_default (I.ok.hd hc) hl.isList (xs := ns.map PyData.int) (by simpa using rr) (alike_ints' ns) (by omega) (fun e h' tk hk => ?_) (fun y ys i v h' tk bs e hv hr hk => ?_)
  · have en : ns = [] := by simpa using e
    subst en
    exact ⟨.int _, H, I.kept hk, ⟨_, rfl⟩, q⟩
  · cases ns with
    | nil => cases e
    | cons n r =>
      rw [List.map_cons] at e
      cases e
      rw [PySem.W.minD_ints] at hr
      cases hr
      exact ⟨.int _, H, I.kept hk, ⟨_, rfl⟩, q⟩
theorem minOr_nat (d : Nat) : ∀ ns : List Nat, (∀ n ∈ ns, n ≤ d) → minOr (d : Int) (ns.map fun n : Nat => (n : Int)) = ((ns.foldl min d : Nat) : Int)
  | [], _ => rfl
  | n :: r, h => by
    have go : ∀ (l : List Nat) (m : Nat), (l.map fun n : Nat => (n : Int)).foldl min (m : Int) = ((l.foldl min m : Nat) : Int) := fun l => by
      induction l with
      | nil => intro m; rfl
      | cons x l ih => intro m; rw [List.map_cons, List.foldl_cons, List.foldl_cons, ← ih]; congr 1; omega
    show (r.map _).foldl min (n : Int) = _
    rw [go, List.foldl_cons]
    have := h n List.mem_cons_self
    congr 2
    omega
/-! ### len(set(list)) -/
def dedup (ns : List Int) : List Int := PyProof.Rows.firstMet (fun i => ns.getD i 0) ns.length
theorem dedup_nodup (ns : List Int) : ((dedup ns).length = ns.length) ↔ ns.Nodup := by
  constructor
  · intro h
    have key : ∀ i, i ≤ ns.length → (PyProof.Rows.firstMet (fun i => ns.getD i 0) i).length = i → (ns.take i).Nodup := fun i => by
      induction i with
      | zero => intro _ _; exact List.nodup_nil
      | succ i ih =>
        intro hi hl
        have le := PyProof.Rows.firstMet_length_le (fun i => ns.getD i 0) i
        rw [PyProof.Rows.firstMet_succ] at hl
        have hlt : i < ns.length := by omega
        by_cases c : (PyProof.Rows.firstMet (fun i => ns.getD i 0) i).any (· == ns.getD i 0) = true
        · have e : PyProof.Rows.step_dedup (PyProof.Rows.firstMet (fun i => ns.getD i 0) i) (ns.getD i 0) = PyProof.Rows.firstMet (fun i => ns.getD i 0) i := if_pos c
          rw [e] at hl
          omega
        · have e : PyProof.Rows.step_dedup (PyProof.Rows.firstMet (fun i => ns.getD i 0) i) (ns.getD i 0) = PyProof.Rows.firstMet (fun i => ns.getD i 0) i ++ [ns.getD i 0] := if_neg c
          rw [e, List.length_append] at hl
          have nd := ih (by omega) (by have : [ns.getD i 0].length = 1 := rfl; omega)
          rw [PyProof.Rows.firstMet_any] at c
          have e1 : ns.getD i 0 = ns[i] := by rw [List.getD_eq_getElem?_getD, List.getElem?_eq_getElem hlt]; rfl
          have e2 : ns.take (i + 1) = ns.take i ++ [ns[i]] := by rw [List.take_add_one, List.getElem?_eq_getElem hlt]; rfl
          rw [e2]
          refine List.nodup_append.mpr ⟨nd, by simp, fun x hx y hy => ?_⟩
          rw [List.mem_singleton] at hy
          subst hy
          intro exy
          apply c
          rw [List.any_eq_true]
          obtain ⟨j, hj⟩ := List.mem_iff_getElem?.mp hx
          rw [List.getElem?_take] at hj
          by_cases hji : j < i
          · rw [if_pos hji] at hj
            refine ⟨ns.getD j 0, List.mem_map.mpr ⟨j, List.mem_range.mpr hji, rfl⟩, ?_⟩
            rw [e1, List.getD_eq_getElem?_getD, hj, ← exy]
            simp
          · rw [if_neg hji] at hj
            cases hj
    have z := key ns.length (Nat.le_refl _) h
    rwa [List.take_length] at z
  · intro h
    unfold dedup
    rw [RZ.firstMet_nodup h ns.length (Nat.le_refl _), List.take_length]
def tLenSetA (K : PySem.W.Frag) (ta : TE) : TE := fun σ H Q => ta σ H fun x H1 => ∃ (l : Addr) (ns : List Int), x = .ref l ∧ SqL K H1 l (ns.map V.int) ∧ ns.length ≤ 4000 ∧ Q (.int ((dedup ns).length : Nat)) H1
theorem pe_lenSetA {X : Cx} {a : Expr} {ta : TE} {p p2 q pos : Pos} (hg : Gl X "len") (hm : X.mg "len" = none) (hg2 : Gl X "set") (hm2 : X.mg "set" = none) (ha : PE X a ta) (hc : X.calm = true := by rfl)
    (na : starEach [a] X.env = (false, eval a X.env) :: starEach [] X.env := by rfl) : PE X (.Call (.Name "len" p) [.Call (.Name "set" p2) [a] [] q] [] pos) (tLenSetA X.K ta) := by
  refine ⟨fun pins s σ H Q I h => ?_⟩
  refine Call_ (ld_blt I hg hm boot_len ?_)
  refine PyProof.Rows.callWith_builtin1 (PyProof.Rows.args_cons ?_ rfl) rfl rfl
  refine Call_ (ld_blt I hg2 hm2 boot_set ?_)
  refine PyProof.Rows.callWith_type1 (PyProof.Rows.args_cons (thn (ha.run pins s σ H _ I h) fun v s1 ⟨x, H1, I1, r1, q1⟩ => PyProof.Rows.args_nil ?_) na) na rfl
  obtain ⟨l, ns, rfl, hq, hl, q1⟩ := q1
  cases r1
  obtain ⟨its, r, pl, hz⟩ := I1.list hq
  have hlen : its.toArray.size = ns.length := by rw [List.size_toArray, ← r.length, List.length_map]
  refine call_set_list (I1.ok.hd hc) pl.isList (by simpa using RZ.intsAre_vals r) (by rw [hlen]; unfold scanBound; omega) fun h' tk hS hk => ?_
  refine PyProof.Rows.args_nil ?_
  rw [hlen] at hS
  have hS' : Heap.SetOf _ _ _ _ (dedup ns).length := hS
  obtain ⟨o, es, ep, t, ho, hex, hd, _, _, _, hf, hn⟩ := hS'
  have hle : (dedup ns).length ≤ ns.length := PyProof.Rows.firstMet_length_le _ _
  have I2 : Inv X pins σ H1 { s1 with heap := h', toks := tk } := I1.kept fun b o e => hk b o (Heap.lt_size e) e
  exact call_len_set ho hex hd hf (by rw [hn] <;> omega) ⟨.int (dedup ns).length, H1, I2.tok _, ⟨_, by rw [hn]⟩, q1⟩
end Th
namespace Th
open PySem PySem.Spec PyProof.Rows L2
open TimHaul (Road Limit Truck Lot Trip Office before)
open Evl (Ex Ev EvL EvT EvA)
section
variable {PP : Program} {w : World} {K : PySem.W.Frag} {mg : Str → Option Value} {base : Heap}
def sp_are_numbers_in_range (K : PySem.W.Frag) : Sp := fun vs H Q _ => ∃ (rn : Addr) (c : Int) (ns : List Int) (rows : List (List Int)), vs = [.int c, .ref rn] ∧ H rn = some (.lst (ns.map V.int)) ∧ lkI c rangesL = some rows ∧ ns.length = rows.length ∧
  ∀ H', Ex H H' → Q (.bl (inR rows ns)) H'
theorem sc_are_numbers_in_range : FnScope (["call", "numbers", "number", "least", "most"] : List Str) ["call", "numbers"] (defScope s_are_numbers_in_range) := ⟨rfl, rfl, rfl, by decide +kernel, rfl, by decide +kernel, by decide +kernel⟩
theorem c_are_numbers_in_range (T : Txt K mg) : Cal PP w K mg base 1 (He.ga K "are_numbers_in_range") ["call", "numbers"] (sp_are_numbers_in_range K) := by
  refine Cal.of T.f_are_numbers_in_range sc_are_numbers_in_range (fun vs H Q E h => ?_) (fun _ _ _ _ _ _ us hl => match us, hl with | [_, _], _ => rfl) (fun cdv A outer s H vs Q E hr h => ?_)
  · obtain ⟨rn, c, ns, rows, rfl, hn, hr', hl, k⟩ := h
    rfl
  · obtain ⟨rn, c, ns, rows, rfl, hn, hr', hl, k⟩ := h
    refine ⟨_, (pss_one (ps_ret (pe_callB (cr_all rfl) (by rfl) T.n_all (by decide +kernel) (pa_cons (pe_lc (own := [("number", 2), ("least", 3), ("most", 4)]) (g := (gTup K 2 (gCons (gName 2) (gCons (gTup K 2 (gCons (gName 3) (gCons (gName 4) gNil))) gNil)))) (tt := tYes) (te := (tChain rLtE rLtE (tVar 3) (tVar 2) (tVar 4))) rfl sc_are_numbers_in_range.nd (pi_zipM (by rfl) T.n_zip (pa_cons (pv 1) (pa_cons (pe_ix ix_wdict (pe_glob (v := .ref (He.ga K "RANGES")) (by rfl) T.g_RANGES rfl) (pv 0) (fun _ _ => rfl)) pa_nil))) (blkOk_by (own := [("number", 2), ("least", 3), ("most", 4)]) (N := (["call", "numbers", "number", "least", "most"] : List Str)) (sc := defScope s_are_numbers_in_range) (by decide +kernel)) (fun _ _ _ _ _ => (pg_tup rfl (pgs_cons (pg_name (i := 2) sc_are_numbers_in_range.nd rfl (Or.inl rfl)) (pgs_cons (pg_tup rfl (pgs_cons (pg_name (i := 3) sc_are_numbers_in_range.nd rfl (Or.inl rfl)) (pgs_cons (pg_name (i := 4) sc_are_numbers_in_range.nd rfl (Or.inl rfl)) pgs_nil))) pgs_nil)))) (fun _ _ _ _ _ => pts_nil) (fun _ _ _ _ _ => (pe_chain op_le op_le (pv 3) (pv 2) (pv 4)))) pa_nil)))), ?_⟩
    obtain ⟨kvs, wd, tab⟩ := T.ranges
    rcases tab2_at c tab with ⟨u, r, h1, h2, h3⟩ | ⟨_, h2⟩
    · rw [hr'] at h2
      cases h2
      have two := ranges_two _ (lkI_mem hr')
      have l6 : rows.length ≤ 10 := by
        have : ∀ x ∈ rangesL, x.2.length ≤ 10 := by decide
        exact this _ (lkI_mem hr')
      obtain ⟨t, rfl, _⟩ := tupT_rows (H := H) h3
      refine Evl.s_ret (ev_allN (bs := (ns.zip rows).map fun x => decide (x.2.getD 0 0 ≤ x.1) && decide (x.1 ≤ x.2.getD 1 0)) (fun H1 e1 Q1 q1 => ?_)) fun H1 e1 => ?_
      · have ei : ∀ H2, Ev (tOp (rIxW K) (tC (.ref (He.ga K "RANGES"))) (tVar 0)) [some (.int c), some (.ref rn), none, none, none] H2 (.ref t) := fun H2 => ev_ixW (v := .ref t) Evl.ev_c (Evl.ev_var rfl) wd h1 rfl
        refine ⟨_, rfl, ei H1 H1 (Ex.refl _) _ fun H3 e13 => ?_⟩
        have hn3 := (e1.trans e13) _ _ hn
        obtain ⟨t', e', as, sq, la, hrow⟩ := tupT_rows (H := H3) h3
        cases e'
        have z : Evl.given (ns.map V.int).length (fun _ => true) (fun i => .bl (((ns.zip rows)[i]?.map fun x => decide (x.2.getD 0 0 ≤ x.1) && decide (x.1 ≤ x.2.getD 1 0)).getD false)) = ((ns.zip rows).map fun x => decide (x.2.getD 0 0 ≤ x.1) && decide (x.1 ≤ x.2.getD 1 0)).map V.bl := by
          have g := given_map (ls := ns.zip rows) (fun _ => true) (fun x => V.bl (decide (x.2.getD 0 0 ≤ x.1) && decide (x.1 ≤ x.2.getD 1 0))) (F := fun _ => true) (G := fun i => .bl (((ns.zip rows)[i]?.map fun x => decide (x.2.getD 0 0 ≤ x.1) && decide (x.1 ≤ x.2.getD 1 0)).getD false)) fun i y hy => ⟨rfl, fun _ => by simp only [hy]; rfl⟩
          rw [filter_yes, List.length_zip, ← hl, Nat.min_self] at g
          rw [List.length_map, g, List.map_map]
          rfl
        refine ⟨rn, t, ns.map V.int, as.map V.ref, rfl, SqL.of hn3, sq, ?_⟩
        refine lc_go (walk_zipM (K := K) (a := rn) (b := t) (xs := ns.map V.int) (ys := as.map V.ref) (by rw [List.length_map, List.length_map, la, hl])) (H1 := H3) (fun H' e => ⟨SqL.of (e _ _ hn3), ?_⟩) (fun _ => true) (fun i => .bl (((ns.zip rows)[i]?.map fun x => decide (x.2.getD 0 0 ≤ x.1) && decide (x.1 ≤ x.2.getD 1 0)).getD false)) (by rw [List.length_map]; omega) (fun i x Ha Hb hi ea y => ?_) (fun D H4 hD e4 hq => ?_)
        · exact Evl.ex_t e sq
        · obtain ⟨P, x1, x2, rfl, nP, rfl, h5, h6⟩ := y
          refine ⟨ex_upd nP, fun Qk kk => ?_⟩
          have hi' : i < ns.length := by rw [List.length_map] at hi; exact hi
          have hir : i < rows.length := by omega
          have hx1 : x1 = .int ns[i] := by
            have z : (ns.map V.int)[i]? = some (.int ns[i]) := by rw [List.getElem?_map, List.getElem?_eq_getElem hi']; rfl
            exact Option.some.inj (h5.symm.trans z)
          obtain ⟨a, ha, sa⟩ := hrow i _ (List.getElem?_eq_getElem hir)
          have hx2 : x2 = .ref a := by
            have z : (as.map V.ref)[i]? = some (.ref a) := by rw [List.getElem?_map, ha]; rfl
            exact Option.some.inj (h6.symm.trans z)
          subst hx1 hx2
          have hz : (ns.zip rows)[i]? = some (ns[i], rows[i]) := by
            rw [List.getElem?_zip_eq_some]
            exact ⟨List.getElem?_eq_getElem hi', List.getElem?_eq_getElem hir⟩
          have r2 := two _ (List.getElem_mem hir)
          generalize rows[i] = row at sa hz r2
          generalize ns[i] = n at hz nP kk
          match row, r2 with
          | [lo, hi2], _ =>
            refine ⟨P, _, rfl, SqT.of upd_same, rfl, _, _, rfl, _, _, rfl, ⟨a, _, rfl, Evl.ex_t (ea.trans (ex_upd nP)) sa, rfl, _, _, rfl, _, _, rfl, rfl, rfl, ?_⟩⟩
            refine kk _ rfl et_yes fun _ => ?_
            rw [hz]
            exact ev_chainLe (Evl.ev_var rfl) (Evl.ev_var rfl) (Evl.ev_var rfl)
        · rw [z] at hq
          exact q1 D H4 (Evl.fresh_back e13 hD) (e13.trans e4) hq
      · rw [List.all_map]
        exact k H1 e1
    · rw [hr'] at h2
      cases h2
end
end Th
namespace Th
open PySem PySem.Spec PyProof.Rows L2
open TimHaul (Road Limit Truck Lot Trip Office before)
open Evl (Ex Ev EvL EvT EvA)
section
variable {PP : Program} {w : World} {K : PySem.W.Frag} {mg : Str → Option Value} {base : Heap}
def sp_is_in_range (K : PySem.W.Frag) : Sp := fun vs H Q _ => ∃ (rn rl : Addr) (c : Int) (ns zs : List Int) (rows : List (List Int)), vs = [.int c, .ref rn, .ref rl] ∧ H rn = some (.lst (ns.map V.int)) ∧ H rl = some (.lst (zs.map V.int)) ∧ zs.length ≤ 5000 ∧ lkI c rangesL = some rows ∧ ns.length = rows.length ∧ (∀ at', lkI c spansL = some at' → at'.toNat + 1 < ns.length) ∧
  ∀ H', Ex H H' → Q (.bl (inR rows ns && (rowR c zs && spanR c ns))) H'
theorem sc_is_in_range : FnScope (["call", "numbers", "row"] : List Str) ["call", "numbers", "row"] (defScope s_is_in_range) := ⟨rfl, rfl, rfl, by decide +kernel, rfl, by decide +kernel, by decide +kernel⟩
theorem c_is_in_range (T : Txt K mg) (C_is_span_in_range : Cal PP w K mg base 1 (He.ga K "is_span_in_range") ["call", "numbers"] (sp_is_span_in_range K)) (C_is_row_in_range : Cal PP w K mg base 1 (He.ga K "is_row_in_range") ["call", "row"] (sp_is_row_in_range K)) (C_are_numbers_in_range : Cal PP w K mg base 1 (He.ga K "are_numbers_in_range") ["call", "numbers"] (sp_are_numbers_in_range K)) : Cal PP w K mg base 2 (He.ga K "is_in_range") ["call", "numbers", "row"] (sp_is_in_range K) := by
  refine Cal.of T.f_is_in_range sc_is_in_range (fun vs H Q E h => ?_) (fun _ _ _ _ _ _ us hl => match us, hl with | [_, _, _], _ => rfl) (fun cdv A outer s H vs Q E hr h => ?_)
  · obtain ⟨rn, rl, c, ns, zs, rows, rfl, hn, hz, hl, hr', hlen, hs, k⟩ := h
    rfl
  · obtain ⟨rn, rl, c, ns, zs, rows, rfl, hn, hz, hl, hr', hlen, hs, k⟩ := h
    refine ⟨_, (pss_one (ps_ret (pe_and (pe_cal C_are_numbers_in_range (hr.mono (by decide)) (by rfl) T.g_are_numbers_in_range (pa_cons (pv 0) (pa_cons (pv 1) pa_nil))) (pe_and (pe_cal C_is_row_in_range (hr.mono (by decide)) (by rfl) T.g_is_row_in_range (pa_cons (pv 0) (pa_cons (pv 2) pa_nil))) (pe_one (pe_cal C_is_span_in_range (hr.mono (by decide)) (by rfl) T.g_is_span_in_range (pa_cons (pv 0) (pa_cons (pv 1) pa_nil)))))))), ?_⟩
    refine Evl.s_ret (Evl.ev_andV (ev_fn (vs := [.int c, .ref rn]) (v := .bl (inR rows ns)) (ea_two (Evl.ev_var rfl) (Evl.ev_var rfl)) fun H1 e1 Q1 q1 => ⟨rn, c, ns, rows, rfl, e1 _ _ hn, hr', hlen, q1⟩) fun _ => Evl.ev_andV (ev_fn (vs := [.int c, .ref rl]) (v := .bl (rowR c zs)) (ea_two (Evl.ev_var rfl) (Evl.ev_var rfl)) fun H1 e1 Q1 q1 => ⟨rl, c, zs, rfl, e1 _ _ hz, hl, q1⟩) fun _ => ev_fn (vs := [.int c, .ref rn]) (v := .bl (spanR c ns)) (ea_two (Evl.ev_var rfl) (Evl.ev_var rfl)) fun H1 e1 Q1 q1 => ⟨rn, c, ns, rfl, e1 _ _ hn, hs, q1⟩) k
end
end Th
namespace Th
open PySem PySem.Spec PyProof.Rows L2
open TimHaul (Road Limit Truck Lot Trip Office before)
open Evl (Ex Ev EvL EvT EvA)
section
variable {PP : Program} {w : World} {K : PySem.W.Frag} {mg : Str → Option Value} {base : Heap}
/-- a new office: its six rows -/
def sp_Office_init (K : PySem.W.Frag) : Sp := fun vs H Q _ => ∃ (p dx : Addr) (n : Nat), vs = [.ref p, .int (n : Int)] ∧ H p = some (.ins (He.ga K "Office") dx []) ∧
  ∀ lr ll lt lo lp H', [lr, ll, lt, lo, lp].Nodup → (∀ a ∈ [lr, ll, lt, lo, lp], H a = none ∧ H' a = some (.lst []) ∧ a ≠ p) → Ex (del H p) (del H' p) → H' p = some (.ins (He.ga K "Office") dx [("places", .int (n : Int)), ("roads", .ref lr), ("limits", .ref ll), ("trucks", .ref lt), ("lots", .ref lo), ("trips", .ref lp)]) → Q .non H'
structure InitSt (K : PySem.W.Frag) (H : Hp) (p dx : Addr) (fs : List (Str × V)) (as : List Addr) (H' : Hp) : Prop where
  obj : H' p = some (.ins (He.ga K "Office") dx fs)
  ex : Ex (del H p) (del H' p)
  new : ∀ a ∈ as, H a = none ∧ H' a = some (.lst []) ∧ a ≠ p
  nd : as.Nodup
  len : fs.length ≤ as.length + 1
theorem putF_len (f : Str) (v : V) : ∀ fs : List (Str × V), (putF f v fs).length ≤ fs.length + 1
  | [] => Nat.le_refl _
  | (g, x) :: r => by
    have ih := putF_len f v r
    unfold putF
    split <;> simp <;> omega
theorem init_step {K : PySem.W.Frag} {H H' : Hp} {p dx : Addr} {fs : List (Str × V)} {as : List Addr} {f : Str} {D : Ends} {σ : L2.St} (I : InitSt K H p dx fs as H') (hp : H p ≠ none) (hσ : σ[0]? = some (some (.ref p))) (hc : Cls K (He.ga K "Office")) (hn : NoAttr K (He.ga K "Office") f) (hl : as.length < 900)
    (k : ∀ a H'', InitSt K H p dx (putF f (.ref a) fs) (as ++ [a]) H'' → D.nx σ H'') : sFld K (tVar 0) (tLst tNil) f D σ H' := by
  refine ⟨Nat.zero_le _, fun q nq => ?_⟩
  have qp : q ≠ p := fun z => by rw [z, I.obj] at nq; cases nq
  refine ⟨_, hσ, p, _, dx, fs, rfl, by rw [upd_ne (Ne.symm qp)]; exact I.obj, hc, hn, (by have := I.len; omega), ?_⟩
  have nqH : H q = none := by
    cases z : H q with
    | none => rfl
    | some o =>
      have := I.ex q o (by rw [del_ne qp]; exact z)
      rw [del_ne qp, nq] at this
      cases this
  refine k q _ ⟨upd_same, fun b o hb => ?_, fun a m => ?_, ?_, ?_⟩
  · obtain ⟨_, bp⟩ := del_some hb
    have z := I.ex b o hb
    rw [del_ne bp] at z
    rw [del_ne bp, upd_ne bp, upd_ne (ne_of_none z nq)]
    exact z
  · rcases List.mem_append.mp m with m | m
    · obtain ⟨h1, h2, h3⟩ := I.new a m
      exact ⟨h1, by rw [upd_ne h3, upd_ne (ne_of_none h2 nq)]; exact h2, h3⟩
    · have e : a = q := by simpa using m
      subst e
      exact ⟨nqH, by rw [upd_ne qp, upd_same], qp⟩
  · refine List.nodup_append.mpr ⟨I.nd, by simp, fun a ha b hb e => ?_⟩
    have e' : b = q := by simpa using hb
    rw [e, e'] at ha
    rw [(I.new q ha).2.1] at nq
    cases nq
  · have h1 := putF_len f (.ref q) fs
    have h2 := I.len
    rw [List.length_append]
    show _ ≤ as.length + 1 + 1
    omega
theorem sc_Office_init : FnScope (["self", "places"] : List Str) ["self", "places"] (defScope s_Office_init) := ⟨rfl, rfl, rfl, by decide +kernel, rfl, by decide +kernel, by decide +kernel⟩
theorem c_Office_init (T : Txt K mg) : Cal PP w K mg base 1 (He.ma K (He.ga K "Office") "__init__") ["self", "places"] (sp_Office_init K) := by
  refine Cal.of T.f_Office_init sc_Office_init (fun vs H Q E h => ?_) (fun _ _ _ _ _ _ us hl => match us, hl with | [_, _], _ => rfl) (fun cdv A outer s H vs Q E hr h => ?_)
  · obtain ⟨p, dx, n, rfl, hp, k⟩ := h
    rfl
  · obtain ⟨p, dx, n, rfl, hp, k⟩ := h
    refine ⟨_, (pss_cons (ps_fld (pv 0) (pv 1) rfl)
      (pss_cons (ps_fld (pv 0) (pe_lst pa_nil) rfl)
      (pss_cons (ps_fld (pv 0) (pe_lst pa_nil) rfl)
      (pss_cons (ps_fld (pv 0) (pe_lst pa_nil) rfl)
      (pss_cons (ps_fld (pv 0) (pe_lst pa_nil) rfl)
      (pss_one (ps_fld (pv 0) (pe_lst pa_nil) rfl))))))), ?_⟩
    refine ⟨_, rfl, _, rfl, p, _, dx, _, rfl, hp, T.c_Office, T.a_Office_places, (by show 0 < 1000; decide), ?_⟩
    have hp0 : H p ≠ none := fun z => by rw [z] at hp; cases hp
    have I0 : InitSt K H p dx (putF "places" (.int (n : Int)) []) [] (upd H p (.ins (He.ga K "Office") dx (putF "places" (.int (n : Int)) []))) := ⟨upd_same, fun b o hb => by
      obtain ⟨h1, bp⟩ := del_some hb
      rw [del_ne bp, upd_ne bp]
      exact h1, fun a m => by simp at m, List.nodup_nil, putF_len _ _ _⟩
    dsimp only
    refine q_go (init_step I0 hp0 rfl T.c_Office T.a_Office_roads (by show 0 < 900; decide) fun lr H1 I1 => ?_)
    dsimp only
    refine q_go (init_step I1 hp0 rfl T.c_Office T.a_Office_limits (by show 1 < 900; decide) fun ll H2 I2 => ?_)
    dsimp only
    refine q_go (init_step I2 hp0 rfl T.c_Office T.a_Office_trucks (by show 2 < 900; decide) fun lt H3 I3 => ?_)
    dsimp only
    refine q_go (init_step I3 hp0 rfl T.c_Office T.a_Office_lots (by show 3 < 900; decide) fun lo H4 I4 => ?_)
    dsimp only
    refine init_step I4 hp0 rfl T.c_Office T.a_Office_trips (by show 4 < 900; decide) fun lp H5 I5 => ?_
    have ob := I5.obj
    rw [pOffice] at ob
    exact k lr ll lt lo lp H5 I5.nd I5.new I5.ex ob
end
end Th
namespace Th
open PySem PySem.Spec PyProof.Rows L2
open TimHaul (Road Limit Truck Lot Trip Office before)
open Evl (Ex Ev EvL EvT EvA)
section
variable {PP : Program} {w : World} {K : PySem.W.Frag} {mg : Str → Option Value} {base : Heap}
def sp_Office_has_place (K : PySem.W.Frag) : Sp := fun vs H Q _ => ∃ (A : OA) (s : Office) (i : Nat), vs = [.ref A.a, .int (i : Int)] ∧ OffR K H A s ∧ Q (.bl (decide (i < s.n))) H
theorem ev_has_place {K : PySem.W.Frag} {σ : L2.St} {H : Hp} {A : OA} {s : Office} {ta tb : TE} {i : Nat} (O : OffR K H A s) (h : Ev ta σ H (.ref A.a)) (hi : Ev tb σ H (.int (i : Int))) : Ev (tMeth (He.ga K "Office") "has_place" (sp_Office_has_place K) [] E0 ta (tCons tb tNil)) σ H (.bl (decide (i < s.n))) :=
  ev_meth h O.obj (lOffice_has_place _ _) (ea_one hi) fun H1 e Q q => ⟨A, s, i, rfl, O.ex e, q H1 (Ex.refl _)⟩
theorem sc_Office_has_place : FnScope (["self", "place"] : List Str) ["self", "place"] (defScope s_Office_has_place) := ⟨rfl, rfl, rfl, by decide +kernel, rfl, by decide +kernel, by decide +kernel⟩
theorem c_Office_has_place (T : Txt K mg) : Cal PP w K mg base 1 (He.ma K (He.ga K "Office") "has_place") ["self", "place"] (sp_Office_has_place K) := by
  refine Cal.of T.f_Office_has_place sc_Office_has_place (fun vs H Q E h => ?_) (fun _ _ _ _ _ _ us hl => match us, hl with | [_, _], _ => rfl) (fun cdv A outer s H vs Q E hr h => ?_)
  · obtain ⟨A, s, i, rfl, O, k⟩ := h
    rfl
  · obtain ⟨A, s, i, rfl, O, k⟩ := h
    refine ⟨_, (pss_one (ps_ret (pe_cmpR op_lt (pv 1) (pe_fld (pv 0) rfl) (nomark _)))), ?_⟩
    refine ⟨_, rfl, _, rfl, A.a, _, A.dx, _, _, rfl, O.obj, T.c_Office, T.a_Office_places, lOffice_places _ _, _, _, rfl, rfl, ?_⟩
    have e : decide ((i : Int) < ((s.n : Nat) : Int)) = decide (i < s.n) := decide_eq_decide.mpr (by omega)
    show Q (.bl _) H
    rw [e]
    exact k
end
end Th
namespace Th
open PySem PySem.Spec PyProof.Rows L2
open TimHaul (Road Limit Truck Lot Trip Office before)
open Evl (Ex Ev EvL EvT EvA)
section
variable {PP : Program} {w : World} {K : PySem.W.Frag} {mg : Str → Option Value} {base : Heap}
def sp_Road_init (K : PySem.W.Frag) : Sp := fun vs H Q _ => ∃ (p dx : Addr) (v0 v1 v2 v3 : V), vs = [.ref p, v0, v1, v2, v3] ∧ H p = some (.ins (He.ga K "Road") dx []) ∧ Q .non (upd H p (.ins (He.ga K "Road") dx [("a", v0), ("b", v1), ("metres", v2), ("kilograms", v3)]))
theorem sc_Road_init : FnScope (["self", "a", "b", "metres", "kilograms"] : List Str) ["self", "a", "b", "metres", "kilograms"] (defScope s_Road_init) := ⟨rfl, rfl, rfl, by decide +kernel, rfl, by decide +kernel, by decide +kernel⟩
theorem c_Road_init (T : Txt K mg) : Cal PP w K mg base 1 (He.ma K (He.ga K "Road") "__init__") ["self", "a", "b", "metres", "kilograms"] (sp_Road_init K) := by
  refine Cal.of T.f_Road_init sc_Road_init (fun vs H Q E h => ?_) (fun _ _ _ _ _ _ us hl => match us, hl with | [_, _, _, _, _], _ => rfl) (fun cdv A outer s H vs Q E hr h => ?_)
  · obtain ⟨p, dx, v0, v1, v2, v3, rfl, hp, k⟩ := h
    rfl
  · obtain ⟨p, dx, v0, v1, v2, v3, rfl, hp, k⟩ := h
    refine ⟨_, (pss_cons (ps_fld (pv 0) (pv 1) rfl)
      (pss_cons (ps_fld (pv 0) (pv 2) rfl)
      (pss_cons (ps_fld (pv 0) (pv 3) rfl)
      (pss_one (ps_fld (pv 0) (pv 4) rfl))))), ?_⟩
    refine ⟨_, rfl, _, rfl, p, _, dx, _, rfl, hp, T.c_Road, T.a_Road_a, (by show 0 < 1000; decide), ?_⟩
    refine ⟨_, rfl, _, rfl, p, _, dx, _, rfl, upd_same, T.c_Road, T.a_Road_b, (by show 1 < 1000; decide), ?_⟩
    refine ⟨_, rfl, _, rfl, p, _, dx, _, rfl, upd_same, T.c_Road, T.a_Road_metres, (by show 2 < 1000; decide), ?_⟩
    refine ⟨_, rfl, _, rfl, p, _, dx, _, rfl, upd_same, T.c_Road, T.a_Road_kilograms, (by show 3 < 1000; decide), ?_⟩
    show Q .non _
    rw [upd_upd, upd_upd, upd_upd, pRoad]
    exact k
end
end Th
namespace Th
open PySem PySem.Spec PyProof.Rows L2
open TimHaul (Road Limit Truck Lot Trip Office before)
open Evl (Ex Ev EvL EvT EvA)
section
variable {PP : Program} {w : World} {K : PySem.W.Frag} {mg : Str → Option Value} {base : Heap}
def sp_add_road (K : PySem.W.Frag) : Sp := fun vs H Q _ => ∃ (G : Hp) (A : OA) (s : Office) (rn : Addr) (a b m kg : Nat), vs = [.ref A.a, .ref rn] ∧ OffM K G H A s ∧ H rn = some (.lst (nv [a, b, m, kg])) ∧ WrtihaSpec.right (.road a b m kg) = true ∧ Done K (.road a b m kg) G H A s Q
theorem sc_add_road : FnScope (["office", "numbers", "a", "b", "metres", "kilograms"] : List Str) ["office", "numbers"] (defScope s_add_road) := ⟨rfl, rfl, rfl, by decide +kernel, rfl, by decide +kernel, by decide +kernel⟩
theorem c_add_road (T : Txt K mg) (C_Office_has_place : Cal PP w K mg base 1 (He.ma K (He.ga K "Office") "has_place") ["self", "place"] (sp_Office_has_place K)) (C_Road_init : Cal PP w K mg base 1 (He.ma K (He.ga K "Road") "__init__") ["self", "a", "b", "metres", "kilograms"] (sp_Road_init K)) : Cal PP w K mg base 3 (He.ga K "add_road") ["office", "numbers"] (sp_add_road K) := by
  refine Cal.of T.f_add_road sc_add_road (fun vs H Q E h => ?_) (fun _ _ _ _ _ _ us hl => match us, hl with | [_, _], _ => rfl) (fun cdv A outer s H vs Q E hr h => ?_)
  · obtain ⟨G, A, s, rn, a, b, m, kg, rfl, O, hn, hg, k⟩ := h
    rfl
  · obtain ⟨G, A, s, rn, a, b, m, kg, rfl, O, hn, hg, k⟩ := h
    refine ⟨_, (pss_cons (ps_asg (pv 1) (pg_unl rfl (pgs_cons (pg_name (i := 2) sc_add_road.nd rfl (Or.inl rfl)) (pgs_cons (pg_name (i := 3) sc_add_road.nd rfl (Or.inl rfl)) (pgs_cons (pg_name (i := 4) sc_add_road.nd rfl (Or.inl rfl)) (pgs_cons (pg_name (i := 5) sc_add_road.nd rfl (Or.inl rfl)) pgs_nil))))))
      (pss_cons (ps_if (PW.pt (pw_or (pt_not (pt_val (pe_cmeth (pv 0) T.c_Office T.m_Office_has_place C_Office_has_place (hr.mono (by decide)) (pa_cons (pv 2) pa_nil)))) (pw_or1 (pt_not (pt_val (pe_cmeth (pv 0) T.c_Office T.m_Office_has_place C_Office_has_place (hr.mono (by decide)) (pa_cons (pv 3) pa_nil))))))) (pss_one (ps_ret (pe_lst (pa_cons (pe_gint T.i_NOT_THERE (by rfl)) pa_nil)))) pss_nil)
      (pss_cons (ps_if (pt_cmpR op_eq (pv 2) (pv 3) (nomark _)) (pss_one (ps_ret (pe_lst (pa_cons (pe_gint T.i_CANNOT_BE (by rfl)) pa_nil)))) pss_nil)
      (pss_cons (ps_if (pt_cmpR op_eq (pe_callB cr_len (by rfl) T.n_len (by decide +kernel) (pa_cons (pe_fld (pv 0) rfl) pa_nil)) (pe_gint T.i_MOST_ROADS (by rfl)) (nomark _)) (pss_one (ps_ret (pe_lst (pa_cons (pe_gint T.i_FULL (by rfl)) pa_nil)))) pss_nil)
      (pss_cons (ps_expr (pe_bm PySem.F.plainAttrs_list PySem.F.slot_list_append PySem.F.type_list_append mt_append (pe_fld (pv 0) rfl) (pa_cons (pe_cmake T.k_Road C_Road_init (hr.mono (by decide)) (by rfl) T.g_Road (pa_cons (pv 2) (pa_cons (pv 3) (pa_cons (pv 4) (pa_cons (pv 5) pa_nil))))) pa_nil)))
      (pss_one (ps_ret (pe_lst (pa_cons pe_int (pa_cons (pe_op op_sub (pe_callB cr_len (by rfl) T.n_len (by decide +kernel) (pa_cons (pe_fld (pv 0) rfl) pa_nil)) pe_int) pa_nil)))))))))), ?_⟩
    refine ⟨_, rfl, rn, _, rfl, SqL.of hn, rfl, _, _, rfl, _, _, rfl, _, _, rfl, _, _, rfl, rfl, ?_⟩
    refine Evl.q_when (Evl.et_or (Evl.et_not (Evl.et_B (ev_has_place O.offR (Evl.ev_var rfl) (Evl.ev_var rfl)))) fun _ => Evl.et_not (Evl.et_B (ev_has_place O.offR (Evl.ev_var rfl) (Evl.ev_var rfl)))) (fun hc H1 e1 => ?_) (fun hc H1 e1 => ?_)
    · refine s_no rfl (exD_of e1) k O ?_
      show (if s.n ≤ a ∨ s.n ≤ b then _ else _) = _
      rw [if_pos (by simp at hc; omega)]
    have hp : ¬ (s.n ≤ a ∨ s.n ≤ b) := by simp at hc; omega
    refine Evl.q_when (Evl.et_test (ev_eqI (Evl.ev_var rfl) (Evl.ev_var rfl))) (fun hd H2 e2 => ?_) (fun hd H2 e2 => ?_)
    · refine s_no rfl (exD_of (e1.trans e2)) k O ?_
      show (if s.n ≤ a ∨ s.n ≤ b then _ else if a = b then _ else _) = _
      rw [if_neg hp, if_pos (by simp at hd; omega)]
    have hab : ¬ a = b := by simp at hd; omega
    have O2 := O.query (exD_of (e1.trans e2))
    refine Evl.q_when (Evl.et_test (ev_eqI (evO_nroads T O2.offR (Evl.ev_var rfl)) Evl.ev_c)) (fun hf H3 e3 => ?_) (fun hf H3 e3 => ?_)
    · refine s_no rfl (exD_of ((e1.trans e2).trans e3)) k O ?_
      show (if s.n ≤ a ∨ s.n ≤ b then _ else if a = b then _ else if TimHaul.ROADS ≤ s.roads.length then _ else _) = _
      rw [if_neg hp, if_neg hab, if_pos (by simp at hf; show 32 ≤ _; omega)]
    have hl : s.roads.length < 32 := by
      have := O.wf.r32
      simp at hf
      omega
    have O3 := O2.query (exD_of e3)
    have eH := (e1.trans e2).trans e3
    refine q_appK O3.off.lr (evO_roads T O3.offR (Evl.ev_var rfl)) fun H4 e4 => ?_
    refine k_make (fs := fRoad ⟨a, b, m, kg⟩) (fun p dx H Q E h1 h2 => ⟨p, dx, _, _, _, _, rfl, h1, h2⟩) (Evl.ea_cons (Evl.ev_var rfl) (Evl.ea_cons (Evl.ev_var rfl) (ea_two (Evl.ev_var rfl) (Evl.ev_var rfl)))) fun p H5 np e5 hp5 => ?_
    have wf : Wf { s with roads := s.roads ++ [⟨a, b, m, kg⟩] } := O.wf.road (by show a < s.n; omega) (by show b < s.n; omega) (show kg ≤ 100000 from of_decide_eq_true ((Bool.and_eq_true_iff.mp ((Bool.and_eq_true_iff.mp ((Bool.and_eq_true_iff.mp hg).2)).2)).2)) hl
    obtain ⟨G', st, O6⟩ := O.addRoad (eH.trans (e4.trans e5)) (Evl.fresh_back (eH.trans e4) np) hp5 wf
    refine app_go ((e4.trans e5) _ _ O3.off.lr) (by rw [List.length_map, O3.off.roads.1]; omega) ?_
    refine s_done (Q := Q) (l := [s.roads.length]) rfl k st O6 (dom_upd (eH.trans (e4.trans e5))) ?_ ?_
    · show (if s.n ≤ a ∨ s.n ≤ b then _ else if a = b then _ else if TimHaul.ROADS ≤ s.roads.length then _ else _) = _
      rw [if_neg hp, if_neg hab, if_neg (by show ¬ 32 ≤ _; omega)]
    · refine Evl.el_lst (ea_two Evl.ev_c (Evl.ev_is (Evl.ev_op (evO_nroads T O6.offR (Evl.ev_var rfl)) Evl.ev_c Evl.rv_I0) ?_)) (by show 2 ≤ 100000; decide)
      show V.int _ = V.int _
      congr 1
      show (((s.roads ++ [_]).length : Nat) : Int) - 1 = _
      rw [List.length_append]
      show ((s.roads.length + 1 : Nat) : Int) - 1 = _
      omega
end
end Th
namespace Th
open PySem PySem.Spec PyProof.Rows L2
open TimHaul (Road Limit Truck Lot Trip Office before)
open Evl (Ex Ev EvL EvT EvA)
section
variable {PP : Program} {w : World} {K : PySem.W.Frag} {mg : Str → Option Value} {base : Heap}
def sp_Office_has_road (K : PySem.W.Frag) : Sp := fun vs H Q _ => ∃ (A : OA) (s : Office) (i : Nat), vs = [.ref A.a, .int (i : Int)] ∧ OffR K H A s ∧ Q (.bl (decide (i < s.roads.length))) H
theorem ev_has_road {K : PySem.W.Frag} {σ : L2.St} {H : Hp} {A : OA} {s : Office} {ta tb : TE} {i : Nat} (O : OffR K H A s) (h : Ev ta σ H (.ref A.a)) (hi : Ev tb σ H (.int (i : Int))) : Ev (tMeth (He.ga K "Office") "has_road" (sp_Office_has_road K) [] E0 ta (tCons tb tNil)) σ H (.bl (decide (i < s.roads.length))) :=
  ev_meth h O.obj (lOffice_has_road _ _) (ea_one hi) fun H1 e Q q => ⟨A, s, i, rfl, O.ex e, q H1 (Ex.refl _)⟩
theorem sc_Office_has_road : FnScope (["self", "road"] : List Str) ["self", "road"] (defScope s_Office_has_road) := ⟨rfl, rfl, rfl, by decide +kernel, rfl, by decide +kernel, by decide +kernel⟩
theorem c_Office_has_road (T : Txt K mg) : Cal PP w K mg base 1 (He.ma K (He.ga K "Office") "has_road") ["self", "road"] (sp_Office_has_road K) := by
  refine Cal.of T.f_Office_has_road sc_Office_has_road (fun vs H Q E h => ?_) (fun _ _ _ _ _ _ us hl => match us, hl with | [_, _], _ => rfl) (fun cdv A outer s H vs Q E hr h => ?_)
  · obtain ⟨A, s, i, rfl, O, k⟩ := h
    rfl
  · obtain ⟨A, s, i, rfl, O, k⟩ := h
    refine ⟨_, (pss_one (ps_ret (pe_cmpR op_lt (pv 1) (pe_callB cr_len (by rfl) T.n_len (by decide +kernel) (pa_cons (pe_fld (pv 0) rfl) pa_nil)) (nomark _)))), ?_⟩
    refine ⟨_, rfl, _, rfl, A.a, _, A.dx, _, _, rfl, O.obj, T.c_Office, T.a_Office_roads, lOffice_roads _ _, A.lr, _, rfl, .inl (SqL.of O.lr), _, _, rfl, rfl, ?_⟩
    have e : decide ((i : Int) < (((A.rr.map V.ref).length : Nat) : Int)) = decide (i < s.roads.length) := by
      rw [List.length_map, O.roads.1]
      exact decide_eq_decide.mpr (by omega)
    show Q (.bl _) H
    rw [e]
    exact k
end
end Th
namespace Th
open PySem PySem.Spec PyProof.Rows L2
open TimHaul (Road Limit Truck Lot Trip Office before)
open Evl (Ex Ev EvL EvT EvA)
section
variable {PP : Program} {w : World} {K : PySem.W.Frag} {mg : Str → Option Value} {base : Heap}
def sp_Limit_init (K : PySem.W.Frag) : Sp := fun vs H Q _ => ∃ (p dx : Addr) (v0 v1 v2 v3 : V), vs = [.ref p, v0, v1, v2, v3] ∧ H p = some (.ins (He.ga K "Limit") dx []) ∧ Q .non (upd H p (.ins (He.ga K "Limit") dx [("road", v0), ("first", v1), ("last", v2), ("kilograms", v3)]))
theorem sc_Limit_init : FnScope (["self", "road", "first", "last", "kilograms"] : List Str) ["self", "road", "first", "last", "kilograms"] (defScope s_Limit_init) := ⟨rfl, rfl, rfl, by decide +kernel, rfl, by decide +kernel, by decide +kernel⟩
theorem c_Limit_init (T : Txt K mg) : Cal PP w K mg base 1 (He.ma K (He.ga K "Limit") "__init__") ["self", "road", "first", "last", "kilograms"] (sp_Limit_init K) := by
  refine Cal.of T.f_Limit_init sc_Limit_init (fun vs H Q E h => ?_) (fun _ _ _ _ _ _ us hl => match us, hl with | [_, _, _, _, _], _ => rfl) (fun cdv A outer s H vs Q E hr h => ?_)
  · obtain ⟨p, dx, v0, v1, v2, v3, rfl, hp, k⟩ := h
    rfl
  · obtain ⟨p, dx, v0, v1, v2, v3, rfl, hp, k⟩ := h
    refine ⟨_, (pss_cons (ps_fld (pv 0) (pv 1) rfl)
      (pss_cons (ps_fld (pv 0) (pv 2) rfl)
      (pss_cons (ps_fld (pv 0) (pv 3) rfl)
      (pss_one (ps_fld (pv 0) (pv 4) rfl))))), ?_⟩
    refine ⟨_, rfl, _, rfl, p, _, dx, _, rfl, hp, T.c_Limit, T.a_Limit_road, (by show 0 < 1000; decide), ?_⟩
    refine ⟨_, rfl, _, rfl, p, _, dx, _, rfl, upd_same, T.c_Limit, T.a_Limit_first, (by show 1 < 1000; decide), ?_⟩
    refine ⟨_, rfl, _, rfl, p, _, dx, _, rfl, upd_same, T.c_Limit, T.a_Limit_last, (by show 2 < 1000; decide), ?_⟩
    refine ⟨_, rfl, _, rfl, p, _, dx, _, rfl, upd_same, T.c_Limit, T.a_Limit_kilograms, (by show 3 < 1000; decide), ?_⟩
    show Q .non _
    rw [upd_upd, upd_upd, upd_upd, pLimit]
    exact k
end
end Th
namespace Th
open PySem PySem.Spec PyProof.Rows L2
open TimHaul (Road Limit Truck Lot Trip Office before)
open Evl (Ex Ev EvL EvT EvA)
section
variable {PP : Program} {w : World} {K : PySem.W.Frag} {mg : Str → Option Value} {base : Heap}
def sp_add_limit (K : PySem.W.Frag) : Sp := fun vs H Q _ => ∃ (G : Hp) (A : OA) (s : Office) (rn : Addr) (r a b kg : Nat), vs = [.ref A.a, .ref rn] ∧ OffM K G H A s ∧ H rn = some (.lst (nv [r, a, b, kg])) ∧ WrtihaSpec.right (.limit r a b kg) = true ∧ Done K (.limit r a b kg) G H A s Q
theorem sc_add_limit : FnScope (["office", "numbers", "road", "first", "last", "kilograms"] : List Str) ["office", "numbers"] (defScope s_add_limit) := ⟨rfl, rfl, rfl, by decide +kernel, rfl, by decide +kernel, by decide +kernel⟩
theorem c_add_limit (T : Txt K mg) (C_Office_has_road : Cal PP w K mg base 1 (He.ma K (He.ga K "Office") "has_road") ["self", "road"] (sp_Office_has_road K)) (C_Limit_init : Cal PP w K mg base 1 (He.ma K (He.ga K "Limit") "__init__") ["self", "road", "first", "last", "kilograms"] (sp_Limit_init K)) : Cal PP w K mg base 3 (He.ga K "add_limit") ["office", "numbers"] (sp_add_limit K) := by
  refine Cal.of T.f_add_limit sc_add_limit (fun vs H Q E h => ?_) (fun _ _ _ _ _ _ us hl => match us, hl with | [_, _], _ => rfl) (fun cdv A outer s H vs Q E hr h => ?_)
  · obtain ⟨G, A, s, rn, r, a, b, kg, rfl, O, hn, hg, k⟩ := h
    rfl
  · obtain ⟨G, A, s, rn, r, a, b, kg, rfl, O, hn, hg, k⟩ := h
    refine ⟨_, (pss_cons (ps_asg (pv 1) (pg_unl rfl (pgs_cons (pg_name (i := 2) sc_add_limit.nd rfl (Or.inl rfl)) (pgs_cons (pg_name (i := 3) sc_add_limit.nd rfl (Or.inl rfl)) (pgs_cons (pg_name (i := 4) sc_add_limit.nd rfl (Or.inl rfl)) (pgs_cons (pg_name (i := 5) sc_add_limit.nd rfl (Or.inl rfl)) pgs_nil))))))
      (pss_cons (ps_if (pt_not (pt_val (pe_cmeth (pv 0) T.c_Office T.m_Office_has_road C_Office_has_road (hr.mono (by decide)) (pa_cons (pv 2) pa_nil)))) (pss_one (ps_ret (pe_lst (pa_cons (pe_gint T.i_NOT_THERE (by rfl)) pa_nil)))) pss_nil)
      (pss_cons (ps_if (pt_cmpR op_lt (pv 4) (pv 3) (nomark _)) (pss_one (ps_ret (pe_lst (pa_cons (pe_gint T.i_CANNOT_BE (by rfl)) pa_nil)))) pss_nil)
      (pss_cons (ps_if (pt_cmpR op_eq (pe_callB cr_len (by rfl) T.n_len (by decide +kernel) (pa_cons (pe_fld (pv 0) rfl) pa_nil)) (pe_gint T.i_MOST_LIMITS (by rfl)) (nomark _)) (pss_one (ps_ret (pe_lst (pa_cons (pe_gint T.i_FULL (by rfl)) pa_nil)))) pss_nil)
      (pss_cons (ps_expr (pe_bm PySem.F.plainAttrs_list PySem.F.slot_list_append PySem.F.type_list_append mt_append (pe_fld (pv 0) rfl) (pa_cons (pe_cmake T.k_Limit C_Limit_init (hr.mono (by decide)) (by rfl) T.g_Limit (pa_cons (pv 2) (pa_cons (pv 3) (pa_cons (pv 4) (pa_cons (pv 5) pa_nil))))) pa_nil)))
      (pss_one (ps_ret (pe_lst (pa_cons pe_int (pa_cons (pe_op op_sub (pe_callB cr_len (by rfl) T.n_len (by decide +kernel) (pa_cons (pe_fld (pv 0) rfl) pa_nil)) pe_int) pa_nil)))))))))), ?_⟩
    refine ⟨_, rfl, rn, _, rfl, SqL.of hn, rfl, _, _, rfl, _, _, rfl, _, _, rfl, _, _, rfl, rfl, ?_⟩
    refine Evl.q_when (Evl.et_not (Evl.et_B (ev_has_road O.offR (Evl.ev_var rfl) (Evl.ev_var rfl)))) (fun hc H1 e1 => ?_) (fun hc H1 e1 => ?_)
    · refine s_no rfl (exD_of e1) k O ?_
      show (if s.roads.length ≤ r then _ else _) = _
      rw [if_pos (by simp at hc; omega)]
    have hp : ¬ (s.roads.length ≤ r) := by simp at hc; omega
    refine Evl.q_when (Evl.et_test (Evl.ev_op (Evl.ev_var rfl) (Evl.ev_var rfl) Evl.rv_I0)) (fun hd H2 e2 => ?_) (fun hd H2 e2 => ?_)
    · refine s_no rfl (exD_of (e1.trans e2)) k O ?_
      show (if s.roads.length ≤ r then _ else if b < a then _ else _) = _
      rw [if_neg hp, if_pos (by simp at hd; omega)]
    have hab : ¬ b < a := by simp at hd; omega
    have O2 := O.query (exD_of (e1.trans e2))
    refine Evl.q_when (Evl.et_test (ev_eqI (evO_nlimits T O2.offR (Evl.ev_var rfl)) Evl.ev_c)) (fun hf H3 e3 => ?_) (fun hf H3 e3 => ?_)
    · refine s_no rfl (exD_of ((e1.trans e2).trans e3)) k O ?_
      show (if s.roads.length ≤ r then _ else if b < a then _ else if TimHaul.LIMITS ≤ s.limits.length then _ else _) = _
      rw [if_neg hp, if_neg hab, if_pos (by simp at hf; show 16 ≤ _; omega)]
    have hl : s.limits.length < 16 := by
      have := O.wf.l16
      simp at hf
      omega
    have O3 := O2.query (exD_of e3)
    have eH := (e1.trans e2).trans e3
    refine q_appK O3.off.ll (evO_limits T O3.offR (Evl.ev_var rfl)) fun H4 e4 => ?_
    refine k_make (fs := fLimit ⟨r, a, b, kg⟩) (fun p dx H Q E h1 h2 => ⟨p, dx, _, _, _, _, rfl, h1, h2⟩) (Evl.ea_cons (Evl.ev_var rfl) (Evl.ea_cons (Evl.ev_var rfl) (ea_two (Evl.ev_var rfl) (Evl.ev_var rfl)))) fun p H5 np e5 hp5 => ?_
    have wf : Wf { s with limits := s.limits ++ [⟨r, a, b, kg⟩] } := O.wf.limit hl
    obtain ⟨G', st, O6⟩ := O.addLimit (eH.trans (e4.trans e5)) (Evl.fresh_back (eH.trans e4) np) hp5 wf
    refine app_go ((e4.trans e5) _ _ O3.off.ll) (by rw [List.length_map, O3.off.limits.1]; omega) ?_
    refine s_done (Q := Q) (l := [s.limits.length]) rfl k st O6 (dom_upd (eH.trans (e4.trans e5))) ?_ ?_
    · show (if s.roads.length ≤ r then _ else if b < a then _ else if TimHaul.LIMITS ≤ s.limits.length then _ else _) = _
      rw [if_neg hp, if_neg hab, if_neg (by show ¬ 16 ≤ _; omega)]
    · refine Evl.el_lst (ea_two Evl.ev_c (Evl.ev_is (Evl.ev_op (evO_nlimits T O6.offR (Evl.ev_var rfl)) Evl.ev_c Evl.rv_I0) ?_)) (by show 2 ≤ 100000; decide)
      show V.int _ = V.int _
      congr 1
      show (((s.limits ++ [_]).length : Nat) : Int) - 1 = _
      rw [List.length_append]
      show ((s.limits.length + 1 : Nat) : Int) - 1 = _
      omega
end
end Th
namespace Th
open PySem PySem.Spec PyProof.Rows L2
open TimHaul (Road Limit Truck Lot Trip Office before)
open Evl (Ex Ev EvL EvT EvA)
section
variable {PP : Program} {w : World} {K : PySem.W.Frag} {mg : Str → Option Value} {base : Heap}
def sp_Truck_init (K : PySem.W.Frag) : Sp := fun vs H Q _ => ∃ (p dx : Addr) (v0 v1 v2 : V), vs = [.ref p, v0, v1, v2] ∧ H p = some (.ins (He.ga K "Truck") dx []) ∧ Q .non (upd H p (.ins (He.ga K "Truck") dx [("place", v0), ("empty", v1), ("loadable", v2)]))
theorem sc_Truck_init : FnScope (["self", "place", "empty", "loadable"] : List Str) ["self", "place", "empty", "loadable"] (defScope s_Truck_init) := ⟨rfl, rfl, rfl, by decide +kernel, rfl, by decide +kernel, by decide +kernel⟩
theorem c_Truck_init (T : Txt K mg) : Cal PP w K mg base 1 (He.ma K (He.ga K "Truck") "__init__") ["self", "place", "empty", "loadable"] (sp_Truck_init K) := by
  refine Cal.of T.f_Truck_init sc_Truck_init (fun vs H Q E h => ?_) (fun _ _ _ _ _ _ us hl => match us, hl with | [_, _, _, _], _ => rfl) (fun cdv A outer s H vs Q E hr h => ?_)
  · obtain ⟨p, dx, v0, v1, v2, rfl, hp, k⟩ := h
    rfl
  · obtain ⟨p, dx, v0, v1, v2, rfl, hp, k⟩ := h
    refine ⟨_, (pss_cons (ps_fld (pv 0) (pv 1) rfl)
      (pss_cons (ps_fld (pv 0) (pv 2) rfl)
      (pss_one (ps_fld (pv 0) (pv 3) rfl)))), ?_⟩
    refine ⟨_, rfl, _, rfl, p, _, dx, _, rfl, hp, T.c_Truck, T.a_Truck_place, (by show 0 < 1000; decide), ?_⟩
    refine ⟨_, rfl, _, rfl, p, _, dx, _, rfl, upd_same, T.c_Truck, T.a_Truck_empty, (by show 1 < 1000; decide), ?_⟩
    refine ⟨_, rfl, _, rfl, p, _, dx, _, rfl, upd_same, T.c_Truck, T.a_Truck_loadable, (by show 2 < 1000; decide), ?_⟩
    show Q .non _
    rw [upd_upd, upd_upd, pTruck]
    exact k
end
end Th
namespace Th
open PySem PySem.Spec PyProof.Rows L2
open TimHaul (Road Limit Truck Lot Trip Office before)
open Evl (Ex Ev EvL EvT EvA)
section
variable {PP : Program} {w : World} {K : PySem.W.Frag} {mg : Str → Option Value} {base : Heap}
def sp_add_truck (K : PySem.W.Frag) : Sp := fun vs H Q _ => ∃ (G : Hp) (A : OA) (s : Office) (rn : Addr) (a m kg : Nat), vs = [.ref A.a, .ref rn] ∧ OffM K G H A s ∧ H rn = some (.lst (nv [a, m, kg])) ∧ WrtihaSpec.right (.truck a m kg) = true ∧ Done K (.truck a m kg) G H A s Q
theorem sc_add_truck : FnScope (["office", "numbers", "place", "empty", "loadable"] : List Str) ["office", "numbers"] (defScope s_add_truck) := ⟨rfl, rfl, rfl, by decide +kernel, rfl, by decide +kernel, by decide +kernel⟩
theorem c_add_truck (T : Txt K mg) (C_Office_has_place : Cal PP w K mg base 1 (He.ma K (He.ga K "Office") "has_place") ["self", "place"] (sp_Office_has_place K)) (C_Truck_init : Cal PP w K mg base 1 (He.ma K (He.ga K "Truck") "__init__") ["self", "place", "empty", "loadable"] (sp_Truck_init K)) : Cal PP w K mg base 3 (He.ga K "add_truck") ["office", "numbers"] (sp_add_truck K) := by
  refine Cal.of T.f_add_truck sc_add_truck (fun vs H Q E h => ?_) (fun _ _ _ _ _ _ us hl => match us, hl with | [_, _], _ => rfl) (fun cdv A outer s H vs Q E hr h => ?_)
  · obtain ⟨G, A, s, rn, a, m, kg, rfl, O, hn, hg, k⟩ := h
    rfl
  · obtain ⟨G, A, s, rn, a, m, kg, rfl, O, hn, hg, k⟩ := h
    refine ⟨_, (pss_cons (ps_asg (pv 1) (pg_unl rfl (pgs_cons (pg_name (i := 2) sc_add_truck.nd rfl (Or.inl rfl)) (pgs_cons (pg_name (i := 3) sc_add_truck.nd rfl (Or.inl rfl)) (pgs_cons (pg_name (i := 4) sc_add_truck.nd rfl (Or.inl rfl)) pgs_nil)))))
      (pss_cons (ps_if (pt_not (pt_val (pe_cmeth (pv 0) T.c_Office T.m_Office_has_place C_Office_has_place (hr.mono (by decide)) (pa_cons (pv 2) pa_nil)))) (pss_one (ps_ret (pe_lst (pa_cons (pe_gint T.i_NOT_THERE (by rfl)) pa_nil)))) pss_nil)
      (pss_cons (ps_if (pt_cmpR op_eq (pe_callB cr_len (by rfl) T.n_len (by decide +kernel) (pa_cons (pe_fld (pv 0) rfl) pa_nil)) (pe_gint T.i_MOST_TRUCKS (by rfl)) (nomark _)) (pss_one (ps_ret (pe_lst (pa_cons (pe_gint T.i_FULL (by rfl)) pa_nil)))) pss_nil)
      (pss_cons (ps_expr (pe_bm PySem.F.plainAttrs_list PySem.F.slot_list_append PySem.F.type_list_append mt_append (pe_fld (pv 0) rfl) (pa_cons (pe_cmake T.k_Truck C_Truck_init (hr.mono (by decide)) (by rfl) T.g_Truck (pa_cons (pv 2) (pa_cons (pv 3) (pa_cons (pv 4) pa_nil)))) pa_nil)))
      (pss_one (ps_ret (pe_lst (pa_cons pe_int (pa_cons (pe_op op_sub (pe_callB cr_len (by rfl) T.n_len (by decide +kernel) (pa_cons (pe_fld (pv 0) rfl) pa_nil)) pe_int) pa_nil))))))))), ?_⟩
    refine ⟨_, rfl, rn, _, rfl, SqL.of hn, rfl, _, _, rfl, _, _, rfl, _, _, rfl, rfl, ?_⟩
    refine Evl.q_when (Evl.et_not (Evl.et_B (ev_has_place O.offR (Evl.ev_var rfl) (Evl.ev_var rfl)))) (fun hc H1 e1 => ?_) (fun hc H1 e1 => ?_)
    · refine s_no rfl (exD_of e1) k O ?_
      show (if s.n ≤ a then _ else _) = _
      rw [if_pos (by simp at hc; omega)]
    have hp : ¬ (s.n ≤ a) := by simp at hc; omega
    have O2 := O.query (exD_of e1)
    refine Evl.q_when (Evl.et_test (ev_eqI (evO_ntrucks T O2.offR (Evl.ev_var rfl)) Evl.ev_c)) (fun hf H3 e3 => ?_) (fun hf H3 e3 => ?_)
    · refine s_no rfl (exD_of ((e1).trans e3)) k O ?_
      show (if s.n ≤ a then _ else if TimHaul.TRUCKS ≤ s.trucks.length then _ else _) = _
      rw [if_neg hp, if_pos (by simp at hf; show 3 ≤ _; omega)]
    have hl : s.trucks.length < 3 := by
      have := O.wf.t3
      simp at hf
      omega
    have O3 := O2.query (exD_of e3)
    have eH := (e1).trans e3
    refine q_appK O3.off.lt (evO_trucks T O3.offR (Evl.ev_var rfl)) fun H4 e4 => ?_
    refine k_make (fs := fTruck ⟨a, m, kg⟩) (fun p dx H Q E h1 h2 => ⟨p, dx, _, _, _, rfl, h1, h2⟩) (Evl.ea_cons (Evl.ev_var rfl) (ea_two (Evl.ev_var rfl) (Evl.ev_var rfl))) fun p H5 np e5 hp5 => ?_
    have wf : Wf { s with trucks := s.trucks ++ [⟨a, m, kg⟩] } := O.wf.truck (by show a < s.n; omega) hl
    obtain ⟨G', st, O6⟩ := O.addTruck (eH.trans (e4.trans e5)) (Evl.fresh_back (eH.trans e4) np) hp5 wf
    refine app_go ((e4.trans e5) _ _ O3.off.lt) (by rw [List.length_map, O3.off.trucks.1]; omega) ?_
    refine s_done (Q := Q) (l := [s.trucks.length]) rfl k st O6 (dom_upd (eH.trans (e4.trans e5))) ?_ ?_
    · show (if s.n ≤ a then _ else if TimHaul.TRUCKS ≤ s.trucks.length then _ else _) = _
      rw [if_neg hp, if_neg (by show ¬ 3 ≤ _; omega)]
    · refine Evl.el_lst (ea_two Evl.ev_c (Evl.ev_is (Evl.ev_op (evO_ntrucks T O6.offR (Evl.ev_var rfl)) Evl.ev_c Evl.rv_I0) ?_)) (by show 2 ≤ 100000; decide)
      show V.int _ = V.int _
      congr 1
      show (((s.trucks ++ [_]).length : Nat) : Int) - 1 = _
      rw [List.length_append]
      show ((s.trucks.length + 1 : Nat) : Int) - 1 = _
      omega
end
end Th
namespace Th
open PySem PySem.Spec PyProof.Rows L2
open TimHaul (Road Limit Truck Lot Trip Office before)
open Evl (Ex Ev EvL EvT EvA)
section
variable {PP : Program} {w : World} {K : PySem.W.Frag} {mg : Str → Option Value} {base : Heap}
def sp_Lot_init (K : PySem.W.Frag) : Sp := fun vs H Q _ => ∃ (p dx : Addr) (v0 v1 v2 v3 v4 : V), vs = [.ref p, v0, v1, v2, v3, v4] ∧ H p = some (.ins (He.ga K "Lot") dx []) ∧ Q .non (upd H p (.ins (He.ga K "Lot") dx [("place", v0), ("mill", v1), ("kilograms", v2), ("first", v3), ("last", v4)]))
theorem sc_Lot_init : FnScope (["self", "place", "mill", "kilograms", "first", "last"] : List Str) ["self", "place", "mill", "kilograms", "first", "last"] (defScope s_Lot_init) := ⟨rfl, rfl, rfl, by decide +kernel, rfl, by decide +kernel, by decide +kernel⟩
theorem c_Lot_init (T : Txt K mg) : Cal PP w K mg base 1 (He.ma K (He.ga K "Lot") "__init__") ["self", "place", "mill", "kilograms", "first", "last"] (sp_Lot_init K) := by
  refine Cal.of T.f_Lot_init sc_Lot_init (fun vs H Q E h => ?_) (fun _ _ _ _ _ _ us hl => match us, hl with | [_, _, _, _, _, _], _ => rfl) (fun cdv A outer s H vs Q E hr h => ?_)
  · obtain ⟨p, dx, v0, v1, v2, v3, v4, rfl, hp, k⟩ := h
    rfl
  · obtain ⟨p, dx, v0, v1, v2, v3, v4, rfl, hp, k⟩ := h
    refine ⟨_, (pss_cons (ps_fld (pv 0) (pv 1) rfl)
      (pss_cons (ps_fld (pv 0) (pv 2) rfl)
      (pss_cons (ps_fld (pv 0) (pv 3) rfl)
      (pss_cons (ps_fld (pv 0) (pv 4) rfl)
      (pss_one (ps_fld (pv 0) (pv 5) rfl)))))), ?_⟩
    refine ⟨_, rfl, _, rfl, p, _, dx, _, rfl, hp, T.c_Lot, T.a_Lot_place, (by show 0 < 1000; decide), ?_⟩
    refine ⟨_, rfl, _, rfl, p, _, dx, _, rfl, upd_same, T.c_Lot, T.a_Lot_mill, (by show 1 < 1000; decide), ?_⟩
    refine ⟨_, rfl, _, rfl, p, _, dx, _, rfl, upd_same, T.c_Lot, T.a_Lot_kilograms, (by show 2 < 1000; decide), ?_⟩
    refine ⟨_, rfl, _, rfl, p, _, dx, _, rfl, upd_same, T.c_Lot, T.a_Lot_first, (by show 3 < 1000; decide), ?_⟩
    refine ⟨_, rfl, _, rfl, p, _, dx, _, rfl, upd_same, T.c_Lot, T.a_Lot_last, (by show 4 < 1000; decide), ?_⟩
    show Q .non _
    rw [upd_upd, upd_upd, upd_upd, upd_upd, pLot]
    exact k
end
end Th
namespace Th
open PySem PySem.Spec PyProof.Rows L2
open TimHaul (Road Limit Truck Lot Trip Office before)
open Evl (Ex Ev EvL EvT EvA)
section
variable {PP : Program} {w : World} {K : PySem.W.Frag} {mg : Str → Option Value} {base : Heap}
def sp_add_lot (K : PySem.W.Frag) : Sp := fun vs H Q _ => ∃ (G : Hp) (A : OA) (s : Office) (rn : Addr) (a b kg m n : Nat), vs = [.ref A.a, .ref rn] ∧ OffM K G H A s ∧ H rn = some (.lst (nv [a, b, kg, m, n])) ∧ WrtihaSpec.right (.lot a b kg m n) = true ∧ Done K (.lot a b kg m n) G H A s Q
theorem sc_add_lot : FnScope (["office", "numbers", "place", "mill", "kilograms", "first", "last"] : List Str) ["office", "numbers"] (defScope s_add_lot) := ⟨rfl, rfl, rfl, by decide +kernel, rfl, by decide +kernel, by decide +kernel⟩
theorem c_add_lot (T : Txt K mg) (C_Office_has_place : Cal PP w K mg base 1 (He.ma K (He.ga K "Office") "has_place") ["self", "place"] (sp_Office_has_place K)) (C_Lot_init : Cal PP w K mg base 1 (He.ma K (He.ga K "Lot") "__init__") ["self", "place", "mill", "kilograms", "first", "last"] (sp_Lot_init K)) : Cal PP w K mg base 3 (He.ga K "add_lot") ["office", "numbers"] (sp_add_lot K) := by
  refine Cal.of T.f_add_lot sc_add_lot (fun vs H Q E h => ?_) (fun _ _ _ _ _ _ us hl => match us, hl with | [_, _], _ => rfl) (fun cdv A outer s H vs Q E hr h => ?_)
  · obtain ⟨G, A, s, rn, a, b, kg, m, n, rfl, O, hn, hg, k⟩ := h
    rfl
  · obtain ⟨G, A, s, rn, a, b, kg, m, n, rfl, O, hn, hg, k⟩ := h
    refine ⟨_, (pss_cons (ps_asg (pv 1) (pg_unl rfl (pgs_cons (pg_name (i := 2) sc_add_lot.nd rfl (Or.inl rfl)) (pgs_cons (pg_name (i := 3) sc_add_lot.nd rfl (Or.inl rfl)) (pgs_cons (pg_name (i := 4) sc_add_lot.nd rfl (Or.inl rfl)) (pgs_cons (pg_name (i := 5) sc_add_lot.nd rfl (Or.inl rfl)) (pgs_cons (pg_name (i := 6) sc_add_lot.nd rfl (Or.inl rfl)) pgs_nil)))))))
      (pss_cons (ps_if (PW.pt (pw_or (pt_not (pt_val (pe_cmeth (pv 0) T.c_Office T.m_Office_has_place C_Office_has_place (hr.mono (by decide)) (pa_cons (pv 2) pa_nil)))) (pw_or1 (pt_not (pt_val (pe_cmeth (pv 0) T.c_Office T.m_Office_has_place C_Office_has_place (hr.mono (by decide)) (pa_cons (pv 3) pa_nil))))))) (pss_one (ps_ret (pe_lst (pa_cons (pe_gint T.i_NOT_THERE (by rfl)) pa_nil)))) pss_nil)
      (pss_cons (ps_if (pt_cmpR op_lt (pv 6) (pv 5) (nomark _)) (pss_one (ps_ret (pe_lst (pa_cons (pe_gint T.i_CANNOT_BE (by rfl)) pa_nil)))) pss_nil)
      (pss_cons (ps_if (pt_cmpR op_eq (pe_callB cr_len (by rfl) T.n_len (by decide +kernel) (pa_cons (pe_fld (pv 0) rfl) pa_nil)) (pe_gint T.i_MOST_LOTS (by rfl)) (nomark _)) (pss_one (ps_ret (pe_lst (pa_cons (pe_gint T.i_FULL (by rfl)) pa_nil)))) pss_nil)
      (pss_cons (ps_expr (pe_bm PySem.F.plainAttrs_list PySem.F.slot_list_append PySem.F.type_list_append mt_append (pe_fld (pv 0) rfl) (pa_cons (pe_cmake T.k_Lot C_Lot_init (hr.mono (by decide)) (by rfl) T.g_Lot (pa_cons (pv 2) (pa_cons (pv 3) (pa_cons (pv 4) (pa_cons (pv 5) (pa_cons (pv 6) pa_nil)))))) pa_nil)))
      (pss_one (ps_ret (pe_lst (pa_cons pe_int (pa_cons (pe_op op_sub (pe_callB cr_len (by rfl) T.n_len (by decide +kernel) (pa_cons (pe_fld (pv 0) rfl) pa_nil)) pe_int) pa_nil)))))))))), ?_⟩
    refine ⟨_, rfl, rn, _, rfl, SqL.of hn, rfl, _, _, rfl, _, _, rfl, _, _, rfl, _, _, rfl, _, _, rfl, rfl, ?_⟩
    refine Evl.q_when (Evl.et_or (Evl.et_not (Evl.et_B (ev_has_place O.offR (Evl.ev_var rfl) (Evl.ev_var rfl)))) fun _ => Evl.et_not (Evl.et_B (ev_has_place O.offR (Evl.ev_var rfl) (Evl.ev_var rfl)))) (fun hc H1 e1 => ?_) (fun hc H1 e1 => ?_)
    · refine s_no rfl (exD_of e1) k O ?_
      show (if s.n ≤ a ∨ s.n ≤ b then _ else _) = _
      rw [if_pos (by simp at hc; omega)]
    have hp : ¬ (s.n ≤ a ∨ s.n ≤ b) := by simp at hc; omega
    refine Evl.q_when (Evl.et_test (Evl.ev_op (Evl.ev_var rfl) (Evl.ev_var rfl) Evl.rv_I0)) (fun hd H2 e2 => ?_) (fun hd H2 e2 => ?_)
    · refine s_no rfl (exD_of (e1.trans e2)) k O ?_
      show (if s.n ≤ a ∨ s.n ≤ b then _ else if n < m then _ else _) = _
      rw [if_neg hp, if_pos (by simp at hd; omega)]
    have hab : ¬ n < m := by simp at hd; omega
    have O2 := O.query (exD_of (e1.trans e2))
    refine Evl.q_when (Evl.et_test (ev_eqI (evO_nlots T O2.offR (Evl.ev_var rfl)) Evl.ev_c)) (fun hf H3 e3 => ?_) (fun hf H3 e3 => ?_)
    · refine s_no rfl (exD_of ((e1.trans e2).trans e3)) k O ?_
      show (if s.n ≤ a ∨ s.n ≤ b then _ else if n < m then _ else if TimHaul.LOTS ≤ s.lots.length then _ else _) = _
      rw [if_neg hp, if_neg hab, if_pos (by simp at hf; show 24 ≤ _; omega)]
    have hl : s.lots.length < 24 := by
      have := O.wf.lo24
      simp at hf
      omega
    have O3 := O2.query (exD_of e3)
    have eH := (e1.trans e2).trans e3
    refine q_appK O3.off.lo (evO_lots T O3.offR (Evl.ev_var rfl)) fun H4 e4 => ?_
    refine k_make (fs := fLot ⟨a, b, kg, m, n⟩) (fun p dx H Q E h1 h2 => ⟨p, dx, _, _, _, _, _, rfl, h1, h2⟩) (Evl.ea_cons (Evl.ev_var rfl) (Evl.ea_cons (Evl.ev_var rfl) (Evl.ea_cons (Evl.ev_var rfl) (ea_two (Evl.ev_var rfl) (Evl.ev_var rfl))))) fun p H5 np e5 hp5 => ?_
    have wf : Wf { s with lots := s.lots ++ [⟨a, b, kg, m, n⟩] } := O.wf.lot (by show a < s.n; omega) (by show b < s.n; omega) hl
    obtain ⟨G', st, O6⟩ := O.addLot (eH.trans (e4.trans e5)) (Evl.fresh_back (eH.trans e4) np) hp5 wf
    refine app_go ((e4.trans e5) _ _ O3.off.lo) (by rw [List.length_map, O3.off.lots.1]; omega) ?_
    refine s_done (Q := Q) (l := [s.lots.length]) rfl k st O6 (dom_upd (eH.trans (e4.trans e5))) ?_ ?_
    · show (if s.n ≤ a ∨ s.n ≤ b then _ else if n < m then _ else if TimHaul.LOTS ≤ s.lots.length then _ else _) = _
      rw [if_neg hp, if_neg hab, if_neg (by show ¬ 24 ≤ _; omega)]
    · refine Evl.el_lst (ea_two Evl.ev_c (Evl.ev_is (Evl.ev_op (evO_nlots T O6.offR (Evl.ev_var rfl)) Evl.ev_c Evl.rv_I0) ?_)) (by show 2 ≤ 100000; decide)
      show V.int _ = V.int _
      congr 1
      show (((s.lots ++ [_]).length : Nat) : Int) - 1 = _
      rw [List.length_append]
      show ((s.lots.length + 1 : Nat) : Int) - 1 = _
      omega
end
end Th
namespace Th
open PySem PySem.Spec PyProof.Rows L2
open TimHaul (Road Limit Truck Lot Trip Office before)
open Evl (Ex Ev EvL EvT EvA)
section
variable {PP : Program} {w : World} {K : PySem.W.Frag} {mg : Str → Option Value} {base : Heap}
def tripD (s : Office) (k : Nat) : Trip := ((s.trips[k]?).bind id).getD ⟨0, 0, [], [], [], [], 0, none⟩
theorem booked_go : ∀ (l : List (Option Trip)) (f : Nat → Option Trip) (n : Nat), (∀ i, f (n + i) = (l[i]?).bind id) → l.filterMap id = ((l.zipIdx n).filter fun x => x.1.isSome).map fun x => (f x.2).getD ⟨0, 0, [], [], [], [], 0, none⟩
  | [], _, _, _ => rfl
  | o :: l, f, n, h => by
    have h0 := h 0
    have ih := booked_go l f (n + 1) fun i => by
      have := h (i + 1)
      rw [show n + 1 + i = n + (i + 1) by omega, this]
      rfl
    rw [List.zipIdx_cons, List.filterMap_cons, List.filter_cons]
    cases o with
    | none => exact ih
    | some t =>
      have e : f n = some t := h0
      show t :: _ = _
      rw [ih]
      simp [e]
theorem booked_eq (s : Office) : s.booked = (standing s).map (tripD s) := by
  have z := booked_go s.trips (fun k => (s.trips[k]?).bind id) 0 fun i => by rw [Nat.zero_add]
  unfold standing
  rw [List.map_map]
  exact z
theorem tripD_of {s : Office} {k : Nat} {t : Trip} (h : s.trips[k]? = some (some t)) : tripD s k = t := by
  unfold tripD
  rw [h]
  rfl
theorem sum_eq : ∀ l : List Nat, TimHaul.sum l = l.sum
  | [] => rfl
  | x :: l => by
    show x + TimHaul.sum l = _
    rw [sum_eq l, List.sum_cons]
theorem sumL_cast : ∀ l : List Nat, (l.map fun n : Nat => (n : Int)).sum = ((l.sum : Nat) : Int)
  | [] => rfl
  | x :: l => by
    rw [List.map_cons, List.sum_cons, List.sum_cons, sumL_cast l]
    omega
def sp_tell_state (K : PySem.W.Frag) : Sp := fun vs H Q _ => ∃ (G : Hp) (A : OA) (s : Office) (rn : Addr), vs = [.ref A.a, .ref rn] ∧ OffM K G H A s ∧ Done K .state G H A s Q
theorem sc_tell_state : FnScope (["office", "numbers", "standing", "metres", "at", "told"] : List Str) ["office", "numbers"] (defScope s_tell_state) := ⟨rfl, rfl, rfl, by decide +kernel, rfl, by decide +kernel, by decide +kernel⟩
theorem c_tell_state (T : Txt K mg) (C_Office_standing_trips : Cal PP w K mg base 1 (He.ma K (He.ga K "Office") "standing_trips") ["self"] (sp_Office_standing_trips K)) : Cal PP w K mg base 2 (He.ga K "tell_state") ["office", "numbers"] (sp_tell_state K) := by
  refine Cal.of T.f_tell_state sc_tell_state (fun vs H Q E h => ?_) (fun _ _ _ _ _ _ us hl => match us, hl with | [_, _], _ => rfl) (fun cdv A outer s H vs Q E hr h => ?_)
  · obtain ⟨G, A, s, rn, rfl, O, k⟩ := h
    rfl
  · obtain ⟨G, A, s, rn, rfl, O, k⟩ := h
    refine ⟨_, (pss_cons (ps_set (i := 2) sc_tell_state.nd rfl (Or.inl rfl) (pe_cmeth0 (pv 0) T.c_Office T.m_Office_standing_trips C_Office_standing_trips (hr.mono (by decide))))
      (pss_cons (ps_set (i := 3) sc_tell_state.nd rfl (Or.inl rfl) (pe_callB (cr_sum rfl) (by rfl) T.n_sum (by decide +kernel) (pa_cons (pe_lc (own := [("at", 4)]) (g := (gName 4)) (tt := tYes) (te := (tFld K (tOp (rIxL K) (tFld K (tVar 0) "trips") (tVar 4)) "metres")) rfl sc_tell_state.nd (pi_list (pv 2)) (blkOk_by (own := [("at", 4)]) (N := (["office", "numbers", "standing", "metres", "at", "told"] : List Str)) (sc := defScope s_tell_state) (by decide +kernel)) (fun _ _ _ _ _ => (pg_name (i := 4) sc_tell_state.nd rfl (Or.inl rfl))) (fun _ _ _ _ _ => pts_nil) (fun _ _ _ _ _ => (pe_fld (pe_ix ix_list (pe_fld (pv 0) rfl) (pv 4) (fun _ _ => rfl)) rfl))) pa_nil)))
      (pss_cons (ps_set (i := 5) sc_tell_state.nd rfl (Or.inl rfl) (pe_lst (pa_cons (pe_fld (pv 0) rfl) (pa_cons (pe_callB cr_len (by rfl) T.n_len (by decide +kernel) (pa_cons (pe_fld (pv 0) rfl) pa_nil)) (pa_cons (pe_callB cr_len (by rfl) T.n_len (by decide +kernel) (pa_cons (pe_fld (pv 0) rfl) pa_nil)) (pa_cons (pe_callB cr_len (by rfl) T.n_len (by decide +kernel) (pa_cons (pe_fld (pv 0) rfl) pa_nil)) (pa_cons (pe_callB cr_len (by rfl) T.n_len (by decide +kernel) (pa_cons (pe_fld (pv 0) rfl) pa_nil)) pa_nil)))))))
      (pss_one (ps_ret (pe_op op_cat (pe_op op_cat (pe_lst (pa_cons pe_int pa_nil)) (pv 5)) (pe_lst (pa_cons (pe_callB cr_len (by rfl) T.n_len (by decide +kernel) (pa_cons (pe_fld (pv 0) rfl) pa_nil)) (pa_cons (pe_callB cr_len (by rfl) T.n_len (by decide +kernel) (pa_cons (pv 2) pa_nil)) (pa_cons (pv 3) pa_nil)))))))))), ?_⟩
    have hl := standing_len s
    have h24 := O.wf.p24
    refine Evl.q_asgL (el_standing O.offR O.wf.p24 (Evl.ev_var rfl)) fun p H1 np e1 h1 => ?_
    have O1 := O.query (exD_of e1)
    refine Evl.q_asg (ev_sumN (ns := (standing s).map fun k => ((tripD s k).metres : Int)) (el_is (el_list (K := K) (a := p) (ls := standing s) (r := fun n : Nat => V.int (n : Int)) (fun _ => true) (fun k => .int ((tripD s k).metres : Nat)) (Evl.ev_var rfl) (SqL.of h1) (by omega) (by intro _; rfl) (fun _ _ _ _ => et_yes) (fun y hy H2 e2 _ => ?_)) ?_)) fun H2 e2 => ?_
    · obtain ⟨t, p', dx, la, ra, ht, hp, hI, _⟩ := trip_at O1.offR hy
      have F := e2 _ _ hI
      rw [tripD_of ht]
      exact ev_fld (ev_atL (evO_trips T (O1.offR.ex e2) (Evl.ev_var rfl)) (Evl.ev_var rfl) (e2 _ _ O1.off.lp) hp) F T.c_Trip T.a_Trip_metres (lTrip_metres _ _ _ _)
    · rw [filter_yes, List.map_map]
      rfl
    have O2 := O1.query (exD_of e2)
    have told : EvL (tLst (tCons (tFld K (tVar 0) "places") (tCons (tCB (rLen K) (tCons (tFld K (tVar 0) "roads") tNil)) (tCons (tCB (rLen K) (tCons (tFld K (tVar 0) "limits") tNil)) (tCons (tCB (rLen K) (tCons (tFld K (tVar 0) "trucks") tNil)) (tCons (tCB (rLen K) (tCons (tFld K (tVar 0) "lots") tNil)) tNil)))))) [some (.ref A.a), some (.ref rn), some (.ref p), some (.int ((standing s).map fun k => ((tripD s k).metres : Int)).sum), none, none] H2 (nv [s.n, s.roads.length, s.limits.length, s.trucks.length, s.lots.length]) :=
      Evl.el_lst (Evl.ea_cons (evO_places T O2.offR (Evl.ev_var rfl)) (Evl.ea_cons (evO_nroads T O2.offR (Evl.ev_var rfl)) (Evl.ea_cons (evO_nlimits T O2.offR (Evl.ev_var rfl)) (ea_two (evO_ntrucks T O2.offR (Evl.ev_var rfl)) (evO_nlots T O2.offR (Evl.ev_var rfl)))))) (by show 5 ≤ 100000; decide)
    refine Evl.q_asgL told fun pt H3 npt e3 h3 => ?_
    have O3 := O2.query (exD_of e3)
    refine s_tells (Q := Q) (l := [s.n, s.roads.length, s.limits.length, s.trucks.length, s.lots.length, s.trips.length, s.booked.length, s.driven]) rfl (exD_of ((e1.trans e2).trans e3)) k O rfl ?_
    refine el_is (el_cat (xs := nv [0, s.n, s.roads.length, s.limits.length, s.trucks.length, s.lots.length]) (ys := nv [s.trips.length, s.booked.length, s.driven]) (el_is (el_catR (xs := [.int 0]) (Evl.el_lst (ea_one Evl.ev_c) (by show 1 ≤ 100000; decide)) (Evl.ev_var rfl) h3 (by show 1 + 5 ≤ 100000; decide)) rfl) (Evl.el_lst (Evl.ea_cons (evO_ntrips T O3.offR (Evl.ev_var rfl)) (ea_two (Evl.ev_is (ev_lenL (K := K) (Evl.ev_var rfl) (SqL.of ((e2.trans e3) _ _ h1))) ?_) (Evl.ev_is (Evl.ev_var rfl) ?_))) (by show 3 ≤ 100000; decide)) (by show 6 + 3 ≤ 100000; decide)) rfl
    · rw [nv_len, booked_eq, List.length_map]
    · congr 1
      unfold TimHaul.Office.driven
      rw [sum_eq, booked_eq, ← sumL_cast, List.map_map, List.map_map]
      rfl
end
end Th
namespace Th
open PySem PySem.Spec PyProof.Rows L2
open TimHaul (Road Limit Truck Lot Trip Office before)
open Evl (Ex Ev EvL EvT EvA)
section
variable {PP : Program} {w : World} {K : PySem.W.Frag} {mg : Str → Option Value} {base : Heap}
/-- what a road bears by its limits up to one -/
def leastTo (s : Office) (k day : Nat) (b : Nat) (i : Nat) : Nat := ((s.limits.take i).filter fun (x : Limit) => x.road == k && (decide (x.first ≤ day) && decide (day ≤ x.last))).foldl (fun (m : Nat) (x : Limit) => min m x.kg) b
theorem leastTo_succ {s : Office} {k day b i : Nat} {x : Limit} (h : s.limits[i]? = some x) : leastTo s k day b (i + 1) = if (x.road == k && (decide (x.first ≤ day) && decide (day ≤ x.last))) = true then min (leastTo s k day b i) x.kg else leastTo s k day b i := by
  unfold leastTo
  rw [take_snoc h, List.filter_append, List.foldl_append, List.filter_cons]
  split <;> rfl
theorem leastTo_all {s : Office} {k day : Nat} {r : Road} (h : s.roads[k]? = some r) : leastTo s k day r.bears s.limits.length = s.bears k day := by
  unfold leastTo TimHaul.Office.bears
  rw [List.take_length, h]
  rfl
def sp_Office_bearing (K : PySem.W.Frag) : Sp := fun vs H Q _ => ∃ (A : OA) (s : Office) (k day : Nat), vs = [.ref A.a, .int (k : Int), .int (day : Int)] ∧ OffR K H A s ∧ k < s.roads.length ∧ ∀ H', Ex H H' → Q (.int (s.bears k day : Nat)) H'
theorem sc_Office_bearing : FnScope (["self", "road", "day", "least", "limit"] : List Str) ["self", "road", "day"] (defScope s_Office_bearing) := ⟨rfl, rfl, rfl, by decide +kernel, rfl, by decide +kernel, by decide +kernel⟩
theorem c_Office_bearing (T : Txt K mg) : Cal PP w K mg base 1 (He.ma K (He.ga K "Office") "bearing") ["self", "road", "day"] (sp_Office_bearing K) := by
  refine Cal.of T.f_Office_bearing sc_Office_bearing (fun vs H Q E h => ?_) (fun _ _ _ _ _ _ us hl => match us, hl with | [_, _, _], _ => rfl) (fun cdv A outer s H vs Q E hr h => ?_)
  · obtain ⟨A, s, i, day, rfl, O, hi, k⟩ := h
    rfl
  · obtain ⟨A, s, i, day, rfl, O, hi, k⟩ := h
    refine ⟨_, (pss_cons (ps_set (i := 3) sc_Office_bearing.nd rfl (Or.inl rfl) (pe_fld (pe_ix ix_list (pe_fld (pv 0) rfl) (pv 1) (fun _ _ => rfl)) rfl))
      (pss_cons (ps_for PassesOwn.never rfl (pi_list (pe_fld (pv 0) rfl)) (pg_name (i := 4) sc_Office_bearing.nd rfl (Or.inl rfl))
      (pss_one (ps_if (PW.pt (pw_and (pt_cmpR op_eq (pe_fld (pv 4) rfl) (pv 1) (nomark _)) (pw_and1 (pt_chain op_le op_le (pe_fld (pv 4) rfl) (pv 2) (pe_fld (pv 4) rfl))))) (pss_one (ps_set (i := 3) sc_Office_bearing.nd rfl (Or.inl rfl) (pe_callB (cr_min2 rfl) (by rfl) T.n_min (by decide +kernel) (pa_cons (pv 3) (pa_cons (pe_fld (pv 4) rfl) pa_nil))))) pss_nil)))
      (pss_one (ps_ret (pv 3))))), ?_⟩
    have hr' : s.roads[i]? = some (s.roads[i]'hi) := List.getElem?_eq_getElem hi
    generalize s.roads[i]'hi = r at hr'
    obtain ⟨p, dp, hp, hd⟩ := O.roadp hr'
    refine Evl.q_asg (v := .int (r.bears : Int)) (ev_fld (a := p) (ev_atL (evO_roads T O (Evl.ev_var rfl)) (Evl.ev_var rfl) O.lr hp) hd T.c_Road T.a_Road_kilograms (lRoad_kilograms _)) fun H1 e1 => ?_
    refine Evl.q_forLn (K := K) (a := A.ll) (xs := A.rl.map V.ref) (evO_limits T (O.ex e1) (Evl.ev_var rfl)) (SqL.of (e1 _ _ O.ll)) (fun j σ' H' => ∃ v, σ' = [some (.ref A.a), some (.int (i : Int)), some (.int (day : Int)), some (.int (leastTo s i day r.bears j : Nat)), v] ∧ Ex H H') (fun H2 e2 => ⟨none, rfl, e1.trans e2⟩) (fun j σ' H' _ ⟨_, _, e⟩ => SqL.of (e _ _ O.ll)) ?_ ?_
    · rintro j x σ' H' hx ⟨v, rfl, e⟩
      obtain ⟨a, ha, rfl⟩ := refs_get hx
      have hj : j < s.limits.length := by rw [← O.limits.1]; exact (List.getElem?_eq_some_iff.mp ha).1
      have hl : s.limits[j]? = some (s.limits[j]'hj) := List.getElem?_eq_getElem hj
      generalize s.limits[j]'hj = x at hl
      obtain ⟨p2, hp2, d2, hx2⟩ := O.limits.2 j x hl
      rw [ha] at hp2
      cases hp2
      have F : ∀ H2, Ex H' H2 → H2 a = some (.ins (He.ga K "Limit") d2 (fLimit x)) := fun H2 e2 => e2 _ _ (e _ _ hx2)
      have c : (decide ((x.road : Int) = (i : Int)) && (decide ((x.first : Int) ≤ (day : Int)) && decide ((day : Int) ≤ (x.last : Int)))) = (x.road == i && (decide (x.first ≤ day) && decide (day ≤ x.last))) := by
        congr 1
        · rw [Bool.beq_eq_decide_eq]; exact decide_eq_decide.mpr (by omega)
        · congr 1 <;> exact decide_eq_decide.mpr (by omega)
      refine Evl.s_when (b := (x.road == i && (decide (x.first ≤ day) && decide (day ≤ x.last)))) ?_ (fun hb H2 e2 => ?_) (fun hb H2 e2 => ?_)
      · refine Evl.et_is (Evl.et_and (Evl.et_test (ev_eqI (ev_fld (Evl.ev_var rfl) (F _ (Ex.refl _)) T.c_Limit T.a_Limit_road (lLimit_road _)) (Evl.ev_var rfl))) (fun _ => Evl.et_test (ev_chainLe (ev_fld (Evl.ev_var rfl) (F _ (Ex.refl _)) T.c_Limit T.a_Limit_first (lLimit_first _)) (Evl.ev_var rfl) (ev_fld (Evl.ev_var rfl) (F _ (Ex.refl _)) T.c_Limit T.a_Limit_last (lLimit_last _))))) c
      · refine Evl.s_asg (ev_min2 (Evl.ev_var rfl) (ev_fld (Evl.ev_var rfl) (F _ e2) T.c_Limit T.a_Limit_kilograms (lLimit_kilograms _))) fun H3 e3 => ⟨some (.ref a), ?_, (e.trans e2).trans e3⟩
        rw [leastTo_succ hl, if_pos hb, cast_min]
        rfl
      · refine ⟨some (.ref a), ?_, e.trans e2⟩
        rw [leastTo_succ hl, if_neg (by rw [hb]; decide)]
        rfl
    · rintro σ' H' ⟨v, rfl, e⟩
      rw [List.length_map, O.limits.1, leastTo_all hr']
      exact Evl.s_ret (Evl.ev_var rfl) fun H2 e2 => k H2 (e.trans e2)
end
end Th
namespace Th
open PySem PySem.Spec PyProof.Rows L2
open TimHaul (Road Limit Truck Lot Trip Office before)
open Evl (Ex Ev EvL EvT EvA)
section
variable {PP : Program} {w : World} {K : PySem.W.Frag} {mg : Str → Option Value} {base : Heap}
def sp_Ways_bearings (K : PySem.W.Frag) : Sp := fun vs H Q _ => ∃ (W : WA) (A : OA) (s : Office) (c d : Nat), vs = [.ref W.w, .int (d : Int)] ∧ WaysAt K H W A s c ∧ c < 1000000 ∧
  ∀ p H', ExD H H' → WaysAt K H' W A s (c + 1) → H' p = some (.lst (nv (bl s d))) → Q (.ref p) H'
theorem sc_Ways_bearings : FnScope (["self", "day", "office", "road"] : List Str) ["self", "day"] (defScope s_Ways_bearings) := ⟨rfl, rfl, rfl, by decide +kernel, rfl, by decide +kernel, by decide +kernel⟩
theorem c_Ways_bearings (T : Txt K mg) (C_Office_bearing : Cal PP w K mg base 1 (He.ma K (He.ga K "Office") "bearing") ["self", "road", "day"] (sp_Office_bearing K)) : Cal PP w K mg base 2 (He.ma K (He.ga K "Ways") "bearings") ["self", "day"] (sp_Ways_bearings K) := by
  refine Cal.of T.f_Ways_bearings sc_Ways_bearings (fun vs H Q E h => ?_) (fun _ _ _ _ _ _ us hl => match us, hl with | [_, _], _ => rfl) (fun cdv A outer s H vs Q E hr h => ?_)
  · obtain ⟨W, A, s, c, d, rfl, wa, hc, k⟩ := h
    rfl
  · obtain ⟨W, A, s, c, d, rfl, wa, hc, k⟩ := h
    refine ⟨_, (pss_cons (ps_if (pt_cmp (pc_dnotin (hu_of hr) (pv 1) (pe_fld (pv 0) rfl))) (pss_cons (ps_set (i := 2) sc_Ways_bearings.nd rfl (Or.inr rfl) (pe_fld (pv 0) rfl))
      (pss_one (ps_dput (hu_of hr) (pe_fld (pv 0) rfl) (pv 1) (pe_lc (own := [("road", 3)]) (g := (gName 3)) (tt := tYes) (te := (tMeth (He.ga K "Office") "bearing" (sp_Office_bearing K) [] E0 (tVar 2) (tCons (tVar 3) (tCons (tVar 1) tNil)))) rfl sc_Ways_bearings.nd (pi_range1 (by rfl) T.n_range (pa_cons (pe_callB cr_len (by rfl) T.n_len (by decide +kernel) (pa_cons (pe_fld (pv 2) rfl) pa_nil)) pa_nil)) (blkOk_by (own := [("road", 3)]) (N := (["self", "day", "office", "road"] : List Str)) (sc := defScope s_Ways_bearings) (by decide +kernel)) (fun _ _ _ _ _ => (pg_name (i := 3) sc_Ways_bearings.nd rfl (Or.inl rfl))) (fun _ _ _ _ _ => pts_nil) (fun _ _ _ _ _ => (pe_cmeth (pv 2) T.c_Office T.m_Office_bearing C_Office_bearing (hr.mono (by decide)) (pa_cons (pv 3) (pa_cons (pv 1) pa_nil))))) rfl))) pss_nil)
      (pss_one (ps_ret (pe_callTy cr_list (by rfl) T.n_list (by decide +kernel) (pa_cons (pe_dget (hu_of hr) (pe_fld (pv 0) rfl) (pv 1) (fun _ _ => rfl)) pa_nil))))), ?_⟩
    have fin : ∀ (v2 v3 : Option V) (H1 : Hp) (kvs : List (Key × V)) (D : Ends) (p : Addr), D.rt = Q → ExD H H1 → WaysAt K H1 W A s (c + 1) → H1 W.kb = some (.dK kvs) → valV kvs (.inl (d : Int)) = some (.ref p) → H1 p = some (.lst (nv (bl s d))) →
        tRet (tCB (rListOf K) (tCons (tDGet (tFld K (tVar 0) "borne") (tVar 1)) tNil)) D [some (.ref W.w), some (.int (d : Int)), v2, v3] H1 := by
      rintro v2 v3 H1 kvs D p rfl e wa1 hb hv hp
      exact Evl.s_retL (el_listOf (ev_dget (k := .inl (d : Int)) (evW_borne T wa1 (Evl.ev_var rfl)) (Evl.ev_var rfl) hb hv) (SqL.of hp)) fun q H2 hq e2 h2 => k q H2 (e.ex e2) (wa1.ex e2) h2
    obtain ⟨kvs, hb, hl, hv⟩ := wa.b
    refine Evl.q_when (et_dnotin (k := .inl (d : Int)) (evW_borne T wa (Evl.ev_var rfl)) (Evl.ev_var rfl) hb) (fun hn H1 e1 => ?_) (fun hn H1 e1 => ?_)
    · have none : valV kvs (.inl (d : Int)) = none := by
        cases q : valV kvs (.inl (d : Int)) with
        | none => rfl
        | some v => rw [q] at hn; cases hn
      refine Evl.q_asg (evW_office T (wa.ex e1) (Evl.ev_var rfl)) fun H2 e2 => ?_
      have O2 := wa.off.ex (e1.trans e2)
      refine s_dputL (xs := nv (bl s d)) (el_is (el_range (n := s.roads.length) (fun _ => true) (fun i => .int (s.bears i d : Nat)) (ea_one (evO_nroads T O2 (Evl.ev_var rfl))) (by have := wa.wf.r32; omega) (by intro _; rfl) (fun _ _ _ _ => et_yes) (fun i hi H3 e3 _ => ?_)) ?_) (fun p H3 np e3 h3 => ?_)
      · exact ev_meth (Evl.ev_var rfl) (e3 _ _ O2.obj) (lOffice_bearing _ _) (ea_two (Evl.ev_var rfl) (Evl.ev_var rfl)) fun H4 e4 Q' q' => ⟨A, s, i, d, rfl, O2.ex (e3.trans e4), hi, fun H5 e5 => q' H5 e5⟩
      · rw [filter_yes]
        unfold nv bl
        rw [List.map_map]
        rfl
      · have wa3 := wa.ex ((e1.trans e2).trans e3)
        refine evW_borne T wa3 (Evl.ev_var rfl) H3 (Ex.refl _) _ fun H4 e4 => ⟨_, rfl, W.kb, _, rfl, DPut.k (k := .inl (d : Int)) (e4 _ _ (((e1.trans e2).trans e3) _ _ hb)) (by rw [sizeLine_eq]; omega), ?_⟩
        have eH4 : Ex H H4 := ((e1.trans e2).trans e3).trans e4
        have hb4 := eH4 _ _ hb
        have x5 := exD_dict (o' := .dK (putK kvs (.inl (d : Int)) (.ref p))) hb4 rfl
        have nkk : W.kk ≠ W.kb := by
          obtain ⟨xs, h1, _⟩ := wa.k
          exact ne_of h1 hb (by intro z; cases z)
        have wa4 := wa.ex eH4
        refine fin _ _ _ (putK kvs (.inl (d : Int)) (.ref p)) _ p rfl ((exD_of eH4).trans x5) ⟨x5 _ _ wa4.obj rfl, wa4.off.exD x5, wa.wf, ⟨_, upd_same, ?_, fun d' v' hv' => ?_⟩, ?_⟩ upd_same ?_ (x5 _ _ (e4 _ _ h3) rfl)
        · have := length_putK kvs (.inl (d : Int)) (V.ref p)
          omega
        · rw [valV_put] at hv'
          by_cases z : (Sum.inl (d' : Int) : Key) = .inl (d : Int)
          · rw [if_pos z] at hv'
            cases hv'
            have z2 : d' = d := by
              have := Sum.inl.inj z
              omega
            subst z2
            exact ⟨p, rfl, x5 _ _ (e4 _ _ h3) rfl⟩
          · rw [if_neg z] at hv'
            obtain ⟨p', g1, g2⟩ := hv d' v' hv'
            exact ⟨p', g1, x5 _ _ (eH4 _ _ g2) rfl⟩
        · obtain ⟨xs, h1, h2, h3'⟩ := wa4.k
          refine ⟨xs, by rw [upd_ne nkk]; exact h1, Nat.le_succ_of_le h2, fun x m => ?_⟩
          obtain ⟨g1, ys, g2, g3⟩ := h3' x m
          exact ⟨g1.mono x5, ys, x5 _ _ g2 rfl, g3.mono fun v o r => r.mono x5⟩
        · rw [valV_put, if_pos rfl]
    · cases q : valV kvs (.inl (d : Int)) with
      | none => rw [q] at hn; cases hn
      | some v =>
        obtain ⟨p, rfl, hp⟩ := hv d v q
        exact fin _ _ _ kvs _ p rfl (exD_of e1) ((wa.ex e1).le (Nat.le_succ c)) (e1 _ _ hb) q (e1 _ _ hp)
end
end Th
namespace Th
open PySem PySem.Spec PyProof.Rows L2
open TimHaul (Road Limit Truck Lot Trip Office before)
open Evl (Ex Ev EvL EvT EvA)
section
variable {PP : Program} {w : World} {K : PySem.W.Frag} {mg : Str → Option Value} {base : Heap}
def sp_Ways_roads_for (K : PySem.W.Frag) : Sp := fun vs H Q _ => ∃ (W : WA) (A : OA) (s : Office) (c d kg : Nat), vs = [.ref W.w, .int (d : Int), .int (kg : Int)] ∧ WaysAt K H W A s c ∧ c < 1000000 ∧
  ∀ p H', ExD H H' → WaysAt K H' W A s (c + 1) → H' p = some (.lst (nv (roadsFor s d kg))) → Q (.ref p) H'
theorem sc_Ways_roads_for : FnScope (["self", "day", "kilograms", "road", "bearing"] : List Str) ["self", "day", "kilograms"] (defScope s_Ways_roads_for) := ⟨rfl, rfl, rfl, by decide +kernel, rfl, by decide +kernel, by decide +kernel⟩
theorem c_Ways_roads_for (T : Txt K mg) (C_Ways_bearings : Cal PP w K mg base 2 (He.ma K (He.ga K "Ways") "bearings") ["self", "day"] (sp_Ways_bearings K)) : Cal PP w K mg base 3 (He.ma K (He.ga K "Ways") "roads_for") ["self", "day", "kilograms"] (sp_Ways_roads_for K) := by
  refine Cal.of T.f_Ways_roads_for sc_Ways_roads_for (fun vs H Q E h => ?_) (fun _ _ _ _ _ _ us hl => match us, hl with | [_, _, _], _ => rfl) (fun cdv A outer s H vs Q E hr h => ?_)
  · obtain ⟨W, A, s, c, d, kg, rfl, wa, hc, k⟩ := h
    rfl
  · obtain ⟨W, A, s, c, d, kg, rfl, wa, hc, k⟩ := h
    refine ⟨_, (pss_one (ps_ret (pe_lc (own := [("road", 3), ("bearing", 4)]) (g := (gTup K 2 (gCons (gName 3) (gCons (gName 4) gNil)))) (tt := (tTest (tOp rGtE (tVar 4) (tVar 2)))) (te := (tVar 3)) rfl sc_Ways_roads_for.nd (pi_enum (by rfl) T.n_enumerate (pa_cons (pe_cmeth (pv 0) T.c_Ways T.m_Ways_bearings C_Ways_bearings (hr.mono (by decide)) (pa_cons (pv 1) pa_nil)) pa_nil)) (blkOk_by (own := [("road", 3), ("bearing", 4)]) (N := (["self", "day", "kilograms", "road", "bearing"] : List Str)) (sc := defScope s_Ways_roads_for) (by decide +kernel)) (fun _ _ _ _ _ => (pg_tup rfl (pgs_cons (pg_name (i := 3) sc_Ways_roads_for.nd rfl (Or.inl rfl)) (pgs_cons (pg_name (i := 4) sc_Ways_roads_for.nd rfl (Or.inl rfl)) pgs_nil)))) (fun _ _ _ _ _ => pts_one (pt_cmpR op_ge (pv 4) (pv 2) (nomark _))) (fun _ _ _ _ _ => (pv 3))))), ?_⟩
    refine ⟨_, rfl, W.w, W.dx, _, rfl, wa.obj, lWays_bearings _ _ _, _, rfl, W, A, s, c, d, rfl, wa, hc, fun p H1 e1 wa1 h1 => ?_⟩
    refine ⟨p, _, rfl, SqL.of h1, ?_⟩
    refine lc_enum (K := K) (ls := bl s d) (r := fun n : Nat => V.int (n : Int)) (fun x => decide (kg ≤ x.1)) (fun x => .int (x.2 : Int)) (SqL.of h1) (by rw [bl_len]; have := wa.wf.r32; omega) (by intro _ _; rfl) (fun i y hy => ?_) (fun i y _ _ => Evl.ev_var rfl) (fun q H2 hq e2 h2 => ?_)
    · refine Evl.et_is (Evl.et_test (Evl.ev_op (Evl.ev_var rfl) (Evl.ev_var rfl) Evl.rv_I0)) (decide_eq_decide.mpr (by omega))
    · refine k q H2 (e1.ex e2) (wa1.ex e2) ?_
      rw [h2]
      unfold roadsFor nv
      rw [List.map_map]
      rfl
end
end Th
namespace Th
open PySem PySem.Spec PyProof.Rows L2
open TimHaul (Road Limit Truck Lot Trip Office before)
open Evl (Ex Ev EvL EvT EvA)
section
variable {PP : Program} {w : World} {K : PySem.W.Frag} {mg : Str → Option Value} {base : Heap}
def sp_offer (K : PySem.W.Frag) : Sp := fun vs H Q _ => ∃ (a : Addr) (xs : List V) (t : Tab) (here there k m : Nat), vs = [.ref a, .int (here : Int), .int (there : Int), .int (k : Int), .int (m : Int)] ∧ H a = some (.lst xs) ∧ AllV (DrvAt (del H a)) xs t ∧ here < t.length ∧ there < t.length ∧ Bnd t 100000 ∧
  ∀ H' ys, Ex (del H a) (del H' a) → H' a = some (.lst ys) → AllV (DrvAt (del H' a)) ys (offer t here there k m) → Q .non H'
theorem tab_at {t : Tab} {i : Nat} (h : i < t.length) : t[i]? = some (at' t i) := by
  rw [List.getElem?_eq_getElem h]
  show some _ = some (t.getD i none)
  rw [List.getD_eq_getElem?_getD, List.getElem?_eq_getElem h]
  rfl
theorem sc_offer : FnScope (["drives", "here", "there", "road", "metres", "far", "many", "roads", "drive"] : List Str) ["drives", "here", "there", "road", "metres"] (defScope s_offer) := ⟨rfl, rfl, rfl, by decide +kernel, rfl, by decide +kernel, by decide +kernel⟩
theorem c_offer (T : Txt K mg) : Cal PP w K mg base 1 (He.ga K "offer") ["drives", "here", "there", "road", "metres"] (sp_offer K) := by
  refine Cal.of T.f_offer sc_offer (fun vs H Q E h => ?_) (fun _ _ _ _ _ _ us hl => match us, hl with | [_, _, _, _, _], _ => rfl) (fun cdv A outer s H vs Q E hr h => ?_)
  · obtain ⟨a, xs, t, here, there, kk, m, rfl, ha, hR, h1, h2, hb, k⟩ := h
    rfl
  · obtain ⟨a, xs, t, here, there, kk, m, rfl, ha, hR, h1, h2, hb, k⟩ := h
    refine ⟨_, (pss_cons (ps_if (pt_cmpR op_isN (pe_ix ix_list (pv 0) (pv 1) (fun _ _ => rfl)) pe_non (nomark _)) (pss_one ps_retN) pss_nil)
      (pss_cons (ps_asg (pe_ix ix_list (pv 0) (pv 1) (fun _ _ => rfl)) (pg_tup rfl (pgs_cons (pg_name (i := 5) sc_offer.nd rfl (Or.inl rfl)) (pgs_cons (pg_name (i := 6) sc_offer.nd rfl (Or.inl rfl)) (pgs_cons (pg_name (i := 7) sc_offer.nd rfl (Or.inl rfl)) pgs_nil)))))
      (pss_cons (ps_set (i := 8) sc_offer.nd rfl (Or.inl rfl) (pe_tup (pa_cons (pe_op op_add (pv 5) (pv 4)) (pa_cons (pe_op op_add (pv 6) pe_int) (pa_cons (pe_op op_cat (pv 7) (pe_lst (pa_cons (pv 3) pa_nil))) pa_nil)))))
      (pss_one (ps_if (PW.pt (pw_or (pt_cmpR op_isN (pe_ix ix_list (pv 0) (pv 2) (fun _ _ => rfl)) pe_non (nomark _)) (pw_or1 (pt_cmpR (op_ltD hr.units) (pv 8) (pe_ix ix_list (pv 0) (pv 2) (fun _ _ => rfl)) (nomark _))))) (pss_one (ps_asg (pv 8) (pg_sub (pv 0) (pv 2) set_list))) pss_nil))))), ?_⟩
    obtain ⟨v1, g1, r1⟩ := hR.2 here _ (tab_at h1)
    obtain ⟨v2, g2, r2⟩ := hR.2 there _ (tab_at h2)
    have E1 : ∀ {σ : L2.St} {H1 : Hp} {i j : Nat}, H1 a = some (.lst xs) → σ[i]? = some (some (.ref a)) → σ[j]? = some (some (.int (here : Int))) → Ev (tOp (rIxL K) (tVar i) (tVar j)) σ H1 v1 := fun q s1 s2 => Evl.ev_op (Evl.ev_var s1) (Evl.ev_var s2) (Evl.rv_ixL (SqL.of q) (atI_nat g1))
    have E2 : ∀ {σ : L2.St} {H1 : Hp} {i j : Nat}, H1 a = some (.lst xs) → σ[i]? = some (some (.ref a)) → σ[j]? = some (some (.int (there : Int))) → Ev (tOp (rIxL K) (tVar i) (tVar j)) σ H1 v2 := fun q s1 s2 => Evl.ev_op (Evl.ev_var s1) (Evl.ev_var s2) (Evl.rv_ixL (SqL.of q) (atI_nat g2))
    refine Evl.q_when (b := decide (v1 = .non)) (Evl.et_test (Evl.ev_op (E1 ha rfl rfl) Evl.ev_c (Evl.rv_val fun H1 _ Q q => ⟨rfl, q⟩))) (fun hn H1 e1 => ?_) (fun hn H1 e1 => ?_)
    · have hv : v1 = .non := of_decide_eq_true hn
      have ho : at' t here = none := by
        cases q : at' t here with
        | none => rfl
        | some d =>
          rw [q] at r1
          obtain ⟨p, l, a1, b1, r, _, h3, _⟩ := r1
          rw [hv] at h3
          cases h3
      refine k H1 xs (del_mono e1) (e1 _ _ ha) ?_
      have e : offer t here there kk m = t := by
        unfold offer
        rw [ho]
      rw [e]
      exact hR.mono fun v o r => r.ex (del_mono e1)
    · cases q : at' t here with
      | none =>
        rw [q] at r1
        have e : v1 = .non := r1
        rw [e] at hn
        cases hn
      | some d =>
        have r1' := r1
        rw [q] at r1'
        obtain ⟨p, l, x, y, r, rfl, rfl, hp, hl⟩ := r1'
        have hp1 := e1 _ _ (del_some hp).1
        refine E1 (e1 _ _ ha) rfl rfl H1 (Ex.refl _) _ fun H2 e2 => ?_
        refine ⟨p, _, rfl, SqT.of (e2 _ _ hp1), rfl, _, _, rfl, _, _, rfl, _, _, rfl, rfl, ?_⟩
        have eH2 : Ex H H2 := e1.trans e2
        have hl2 : H2 l = some (.lst (nv r)) := eH2 _ _ (del_some hl).1
        have lr : r.length ≤ 100000 := by
          have := hb.at q
          simp at this
          omega
        -- drive = (far + metres, many + 1, roads + [road])
        refine ⟨_, rfl, _, rfl, _, _, rfl, rfl, _, rfl, _, _, rfl, rfl, _, rfl, _, rfl, by show 1 ≤ sizeLine; decide, fun p1 n1 => ?_⟩
        refine ⟨l, p1, _, _, rfl, rfl, (ex_upd n1) _ _ hl2, upd_same, by rw [nv_len, sizeLine_eq]; show r.length + 1 ≤ _; omega, fun p2 n2 => ?_⟩
        refine ⟨by show 3 ≤ sizeLine; decide, fun p3 n3 => ?_⟩
        generalize hG : upd (upd (upd H2 p1 (.lst [V.int (kk : Int)])) p2 (.lst (nv r ++ [V.int (kk : Int)]))) p3 (.tup [.int ((x : Nat) + (m : Int)), .int ((y : Nat) + 1), .ref p2]) = H3
        have eH3 : Ex H H3 := by
          rw [← hG]
          exact ((eH2.trans (ex_upd n1)).trans (ex_upd n2)).trans (ex_upd n3)
        have n1H : H p1 = none := Evl.fresh_back eH2 n1
        have n2H : H p2 = none := Evl.fresh_back (eH2.trans (ex_upd n1)) n2
        have n3H : H p3 = none := Evl.fresh_back ((eH2.trans (ex_upd n1)).trans (ex_upd n2)) n3
        have d3 : H3 p3 = some (.tup [.int ((x + m : Nat) : Int), .int ((y + 1 : Nat) : Int), .ref p2]) := by
          rw [← hG, upd_same, Int.natCast_add, Int.natCast_add]
          rfl
        have d2 : H3 p2 = some (.lst (nv (r ++ [kk]))) := by
          rw [← hG, upd_ne (ne_of_none upd_same n3), upd_same]
          simp [nv]
        have ha3 : H3 a = some (.lst xs) := eH3 _ _ ha
        have na2 : p2 ≠ a := fun z => by rw [z, ha] at n2H; cases n2H
        have na3 : p3 ≠ a := fun z => by rw [z, ha] at n3H; cases n3H
        have rD : DrvAt (del H3 a) (.ref p3) (some (ext (x :: y :: r) kk m)) := ⟨p3, p2, x + m, y + 1, r ++ [kk], rfl, rfl, by rw [del_ne na3]; exact d3, by rw [del_ne na2]; exact d2⟩
        have rD3 : DrvAt H3 (.ref p3) (some (ext (x :: y :: r) kk m)) := rD.ex (del_ex _ _)
        have stay : ∀ H4, Ex H3 H4 → Ex (del H a) (del H4 a) ∧ H4 a = some (.lst xs) ∧ AllV (DrvAt (del H4 a)) xs t := fun H4 e4 =>
          ⟨del_mono (eH3.trans e4), e4 _ _ ha3, hR.mono fun v o r => r.ex (del_mono (eH3.trans e4))⟩
        have b2 : ∀ H4, Ex H3 H4 → DrvAt H4 v2 (at' t there) := fun H4 e4 => r2.ex ((del_ex H a).trans (eH3.trans e4))
        dsimp only
        refine Evl.s_when (b := decide (v2 = .non) || (match at' t there with
          | none => true
          | some e => before (ext (x :: y :: r) kk m) e)) ?_ (fun hc H4 e4 => ?_) (fun hc H4 e4 => ?_)
        · refine Evl.et_or (Evl.et_test (Evl.ev_op (E2 ha3 rfl rfl) Evl.ev_c (Evl.rv_val fun H1 _ Q q => ⟨rfl, q⟩))) (fun hv => ?_)
          cases q2 : at' t there with
          | none =>
            have z := b2 H3 (Ex.refl _)
            rw [q2] at z
            have z' : v2 = .non := z
            rw [z'] at hv
            cases hv
          | some e =>
            dsimp only
            refine Evl.et_test (Evl.ev_op (Evl.ev_var rfl) (E2 ha3 rfl rfl) (Evl.rv_val fun H5 e5 Q q => ?_))
            have z := b2 H5 e5
            rw [q2] at z
            obtain ⟨_, _, a', b', r', rfl, _⟩ := id z
            refine ⟨_, _, (rD3.ex e5).dp, z.dp, alike_tup _ _ _ _ _ _, (by intro z; cases z), Nat.le_trans (depth_tup _ _ _) (by decide), ?_⟩
            show Q (.bl (PySem.W.dataLt (dTup (x + m) (y + 1) (r ++ [kk])) (dTup a' b' r'))) H5
            rw [lt_tup]
            exact q
        · -- drives[there] = drive
          obtain ⟨s1, s2, s3⟩ := stay H4 e4
          refine ⟨_, rfl, _, rfl, _, rfl, a, xs, (there : Int), there, rfl, rfl, s2, Evl.ixN_nat (by rw [hR.1]; exact h2), ?_⟩
          refine k _ (xs.set there (.ref p3)) (by rw [del_upd]; exact s1) upd_same ?_
          rw [del_upd]
          have eo : offer t here there kk m = t.set there (some (ext (x :: y :: r) kk m)) := by
            unfold offer
            rw [q]
            cases q2 : at' t there with
            | none => rfl
            | some e =>
              dsimp only
              rw [q2] at hc
              have z := b2 H4 e4
              rw [q2] at z
              obtain ⟨_, _, _, _, _, _, zv, _⟩ := z
              rw [zv] at hc
              rw [if_pos (by simpa using hc)]
          rw [eo]
          exact s3.set (rD.ex (del_mono e4))
        · obtain ⟨s1, s2, s3⟩ := stay H4 e4
          refine k _ xs s1 s2 ?_
          have eo : offer t here there kk m = t := by
            unfold offer
            rw [q]
            cases q2 : at' t there with
            | none => rw [q2] at hc; simp at hc
            | some e =>
              dsimp only
              rw [q2] at hc
              rw [if_neg (by simp at hc; rw [hc.2]; decide)]
          rw [eo]
          exact s3
end
end Th
namespace Th
open PySem PySem.Spec PyProof.Rows L2
open TimHaul (Road Limit Truck Lot Trip Office before)
open Evl (Ex Ev EvL EvT EvA)
section
variable {PP : Program} {w : World} {K : PySem.W.Frag} {mg : Str → Option Value} {base : Heap}
def sp_spread (K : PySem.W.Frag) : Sp := fun vs H Q _ => ∃ (A : OA) (s : Office) (da ra : Addr) (xs : List V) (t : Tab) (ks : List Nat), vs = [.ref A.a, .ref da, .ref ra] ∧ OffR K H A s ∧ RoadsOk s ∧ H da = some (.lst xs) ∧ AllV (DrvAt H) xs t ∧ t.length = s.n ∧ SqL K H ra (nv ks) ∧ (∀ k ∈ ks, k < s.roads.length) ∧ ks.length ≤ 100 ∧ Bnd t 50000 ∧
  ∀ p H' ys, H p = none → Ex H H' → H' p = some (.lst ys) → AllV (DrvAt H') ys (spread (uOf s ks) t) → Q (.ref p) H'
theorem sc_spread : FnScope (["office", "drives", "roads", "bettered", "number", "road"] : List Str) ["office", "drives", "roads"] (defScope s_spread) := ⟨rfl, rfl, rfl, by decide +kernel, rfl, by decide +kernel, by decide +kernel⟩
theorem c_spread (T : Txt K mg) (C_offer : Cal PP w K mg base 1 (He.ga K "offer") ["drives", "here", "there", "road", "metres"] (sp_offer K)) : Cal PP w K mg base 2 (He.ga K "spread") ["office", "drives", "roads"] (sp_spread K) := by
  refine Cal.of T.f_spread sc_spread (fun vs H Q E h => ?_) (fun _ _ _ _ _ _ us hl => match us, hl with | [_, _, _], _ => rfl) (fun cdv A outer s H vs Q E hr h => ?_)
  · obtain ⟨A, s, da, ra, xs, t, ks, rfl, O, ro, hda, hR, hn, hra, hk, hkl, hb, k⟩ := h
    rfl
  · obtain ⟨A, s, da, ra, xs, t, ks, rfl, O, ro, hda, hR, hn, hra, hk, hkl, hb, k⟩ := h
    refine ⟨_, (pss_cons (ps_set (i := 3) sc_spread.nd rfl (Or.inl rfl) (pe_callTy cr_list (by rfl) T.n_list (by decide +kernel) (pa_cons (pv 1) pa_nil)))
      (pss_cons (ps_for PassesOwn.never rfl (pi_list (pv 2)) (pg_name (i := 4) sc_spread.nd rfl (Or.inl rfl))
      (pss_cons (ps_set (i := 5) sc_spread.nd rfl (Or.inl rfl) (pe_ix ix_list (pe_fld (pv 0) rfl) (pv 4) (fun _ _ => rfl)))
      (pss_cons (ps_expr (pe_cal C_offer (hr.mono (by decide)) (by rfl) T.g_offer (pa_cons (pv 3) (pa_cons (pe_fld (pv 5) rfl) (pa_cons (pe_fld (pv 5) rfl) (pa_cons (pv 4) (pa_cons (pe_fld (pv 5) rfl) pa_nil)))))))
      (pss_one (ps_expr (pe_cal C_offer (hr.mono (by decide)) (by rfl) T.g_offer (pa_cons (pv 3) (pa_cons (pe_fld (pv 5) rfl) (pa_cons (pe_fld (pv 5) rfl) (pa_cons (pv 4) (pa_cons (pe_fld (pv 5) rfl) pa_nil)))))))))))
      (pss_one (ps_ret (pv 3))))), ?_⟩
    have tw := hR.two
    refine ⟨_, rfl, da, xs, rfl, .inl (SqL.of hda), fun b nb => ?_⟩
    refine ⟨_, rfl, ra, rfl, ⟨_, Evl.ex_l (ex_upd nb) hra⟩, for_list (K := K) (a := ra) (xs := nv ks) (fun i σ' H' => ∃ v4 v5 ys, σ' = [some (.ref A.a), some (.ref da), some (.ref ra), some (.ref b), v4, v5] ∧ Ex H (del H' b) ∧ H' b = some (.lst ys) ∧ AllV (DrvAt (del H' b)) ys (spread (uOf s (ks.take i)) t))
      ⟨none, none, xs, rfl, by rw [del_upd]; exact ex_del nb (Ex.refl H), upd_same, by rw [del_upd]; exact hR.mono fun v o r => r.ex (ex_del nb (Ex.refl H))⟩ (fun i σ' H' _ ⟨_, _, _, _, e, _⟩ => Evl.ex_l (e.trans (del_ex _ _)) hra) ?_ ?_⟩
    · rintro i x σ' H' hx ⟨v4, v5, ys, rfl, e, hb', hR'⟩
      obtain ⟨kk, hkk, rfl⟩ := nv_get hx
      have hlt := hk kk (List.mem_of_getElem? hkk)
      have hr' : s.roads[kk]? = some (s.roads[kk]'hlt) := List.getElem?_eq_getElem hlt
      generalize s.roads[kk]'hlt = r at hr'
      obtain ⟨ra1, rb1⟩ := ro kk r hr'
      obtain ⟨p, dp, hp, hd⟩ := O.roadp hr'
      obtain ⟨bd, ln, tw'⟩ := spread_bnd (n := s.n) (uOf s (ks.take i)) t 50000 (uOf_ok ro fun k m => hk k (List.mem_of_mem_take m)) hn tw hb
      have ll : (uOf s (ks.take i)).length ≤ 100 := by
        unfold uOf
        rw [List.length_map, List.length_take]
        omega
      have bd1 : Bnd (spread (uOf s (ks.take i)) t) 60000 := bd.mono (by omega)
      have up : Ex H H' := e.trans (del_ex _ _)
      refine Evl.q_asg (ev_atL (evO_roads T (O.ex up) (Evl.ev_var (i := 0) rfl)) (Evl.ev_var (i := 4) rfl) (up _ _ O.lr) hp) fun H1 e1 => ?_
      have hd1 := e1 _ _ (up _ _ hd)
      refine ⟨_, rfl, _, rfl, p, _, dp, _, _, rfl, hd1, T.c_Road, T.a_Road_a, lRoad_a _, _, rfl, p, _, dp, _, _, rfl, hd1, T.c_Road, T.a_Road_b, lRoad_b _, _, rfl, _, rfl, p, _, dp, _, _, rfl, hd1, T.c_Road, T.a_Road_metres, lRoad_metres _, ?_⟩
      refine ⟨b, ys, _, r.a, r.b, kk, r.metres, rfl, e1 _ _ hb', hR'.mono fun v o q => q.ex (del_mono e1), by rw [ln]; exact ra1, by rw [ln]; exact rb1, bd1.mono (by omega), fun H2 zs e2 hb2 hR2 => ?_⟩
      have e02 : Ex H (del H2 b) := (e.trans (del_mono e1)).trans e2
      have up2 : Ex H H2 := e02.trans (del_ex _ _)
      have hd2 := up2 _ _ hd
      have bd2 : Bnd (offer (spread (uOf s (ks.take i)) t) r.a r.b kk r.metres) 60001 := offer_bnd tw' bd1 (by rw [ln]; exact rb1)
      have ln2 : (offer (spread (uOf s (ks.take i)) t) r.a r.b kk r.metres).length = s.n := by rw [offer_len, ln]
      refine ⟨_, rfl, _, rfl, p, _, dp, _, _, rfl, hd2, T.c_Road, T.a_Road_b, lRoad_b _, _, rfl, p, _, dp, _, _, rfl, hd2, T.c_Road, T.a_Road_a, lRoad_a _, _, rfl, _, rfl, p, _, dp, _, _, rfl, hd2, T.c_Road, T.a_Road_metres, lRoad_metres _, ?_⟩
      refine ⟨b, zs, _, r.b, r.a, kk, r.metres, rfl, hb2, hR2, by rw [ln2]; exact rb1, by rw [ln2]; exact ra1, bd2.mono (by omega), fun H3 ws e3 hb3 hR3 => ?_⟩
      refine ⟨_, _, ws, rfl, e02.trans e3, hb3, ?_⟩
      rw [uOf_snoc hkk hr', spread_snoc]
      exact hR3
    · rintro σ' H' ⟨v4, v5, ys, rfl, e, hb', hR'⟩
      rw [nv_len, List.take_length] at hR'
      have e' : Ex H H' := e.trans (del_ex _ _)
      exact ⟨_, rfl, k b H' ys nb e' hb' (hR'.mono fun v o q => q.ex (del_ex _ _))⟩
end
end Th
namespace Th
open PySem PySem.Spec PyProof.Rows L2
open TimHaul (Road Limit Truck Lot Trip Office before)
open Evl (Ex Ev EvL EvT EvA)
section
variable {PP : Program} {w : World} {K : PySem.W.Frag} {mg : Str → Option Value} {base : Heap}
def sp_shortest_from (K : PySem.W.Frag) : Sp := fun vs H Q _ => ∃ (A : OA) (s : Office) (a : Nat) (ra : Addr) (ks : List Nat), vs = [.ref A.a, .int (a : Int), .ref ra] ∧ OffR K H A s ∧ RoadsOk s ∧ s.n ≤ 16 ∧ a < s.n ∧ SqL K H ra (nv ks) ∧ (∀ k ∈ ks, k < s.roads.length) ∧ ks.length ≤ 100 ∧
  ∀ p H' ys, H p = none → Ex H H' → H' p = some (.lst ys) → AllV (DrvAt H') ys (settle (uOf s ks) s.n (init0 s.n a)) → Q (.ref p) H'
theorem settle_fix {u : U} {t : Tab} (h : spread u t = t) : ∀ n, settle u n t = t
  | 0 => rfl
  | n + 1 => by
    show (if spread u t = t then t else settle u n (spread u t)) = t
    rw [if_pos h]
theorem settle_go {u : U} {t : Tab} (h : ¬ spread u t = t) (n : Nat) : settle u (n + 1) t = settle u n (spread u t) := by
  show (if spread u t = t then t else settle u n (spread u t)) = _
  rw [if_neg h]
theorem rep_none (n : Nat) : (List.replicate n [V.non]).flatten = List.replicate n V.non := by
  induction n with
  | zero => rfl
  | succ n ih => rw [List.replicate_succ, List.replicate_succ, List.flatten_cons, ih]; rfl
theorem sc_shortest_from : FnScope (["office", "start", "roads", "drives", "turn", "bettered"] : List Str) ["office", "start", "roads"] (defScope s_shortest_from) := ⟨rfl, rfl, rfl, by decide +kernel, rfl, by decide +kernel, by decide +kernel⟩
theorem c_shortest_from (T : Txt K mg) (C_spread : Cal PP w K mg base 2 (He.ga K "spread") ["office", "drives", "roads"] (sp_spread K)) : Cal PP w K mg base 3 (He.ga K "shortest_from") ["office", "start", "roads"] (sp_shortest_from K) := by
  refine Cal.of T.f_shortest_from sc_shortest_from (fun vs H Q E h => ?_) (fun _ _ _ _ _ _ us hl => match us, hl with | [_, _, _], _ => rfl) (fun cdv A outer s H vs Q E hr h => ?_)
  · obtain ⟨A, s, a, ra, ks, rfl, O, ro, hn, ha, hra, hk, hkl, k⟩ := h
    rfl
  · obtain ⟨A, s, a, ra, ks, rfl, O, ro, hn, ha, hra, hk, hkl, k⟩ := h
    refine ⟨_, (pss_cons (ps_set (i := 3) sc_shortest_from.nd rfl (Or.inl rfl) (pe_op op_rep (pe_lst (pa_cons pe_non pa_nil)) (pe_fld (pv 0) rfl)))
      (pss_cons (ps_asg (pe_tup (pa_cons pe_int (pa_cons pe_int (pa_cons (pe_lst pa_nil) pa_nil)))) (pg_sub (pv 3) (pv 1) set_list))
      (pss_cons (ps_for PassesOwn.never rfl (pi_range1 (by rfl) T.n_range (pa_cons (pe_fld (pv 0) rfl) pa_nil)) (pg_name (i := 4) sc_shortest_from.nd rfl (Or.inl rfl))
      (pss_cons (ps_set (i := 5) sc_shortest_from.nd rfl (Or.inl rfl) (pe_cal C_spread (hr.mono (by decide)) (by rfl) T.g_spread (pa_cons (pv 0) (pa_cons (pv 3) (pa_cons (pv 2) pa_nil)))))
      (pss_cons (ps_if (pt_cmpR (op_eqD hr.units) (pv 5) (pv 3) (nomark _)) (pss_one ps_break) pss_nil)
      (pss_one (ps_set (i := 3) sc_shortest_from.nd rfl (Or.inl rfl) (pv 5))))))
      (pss_one (ps_ret (pv 3)))))), ?_⟩
    have hu := uOf_ok ro hk
    have lu : (uOf s ks).length ≤ 100 := by
      unfold uOf
      rw [List.length_map]
      exact hkl
    -- drives = [None] * office.places
    refine ⟨by show 1 ≤ sizeLine; decide, fun p0 n0 => ?_⟩
    refine evO_places T (O.ex (ex_upd n0)) (Evl.ev_var rfl) _ (Ex.refl _) _ fun H1 e1 => ?_
    refine ⟨p0, (s.n : Int), _, rfl, rfl, e1 _ _ upd_same, by omega, by omega, by show 1 * _ ≤ sizeLine; rw [sizeLine_eq]; omega, fun p np => ?_⟩
    have eH : Ex H H1 := (ex_upd n0).trans e1
    have npH : H p = none := Evl.fresh_back eH np
    rw [show ((s.n : Int)).toNat = s.n from rfl, rep_none]
    -- drives[start] = (0, 0, [])
    refine ⟨Nat.zero_le _, fun q nq => ⟨by show 3 ≤ sizeLine; decide, fun r nr => ?_⟩⟩
    generalize hG : upd (upd (upd H1 p (.lst (List.replicate s.n V.non))) q (.lst [])) r (.tup [.int 0, .int 0, .ref q]) = H2
    have npq : p ≠ q := fun z => by rw [z, upd_same] at nq; cases nq
    have npr : p ≠ r := fun z => by
      rw [← z, upd_ne npq, upd_same] at nr
      cases nr
    have nqr : q ≠ r := fun z => by
      rw [← z, upd_same] at nr
      cases nr
    have hp2 : H2 p = some (.lst (List.replicate s.n V.non)) := by rw [← hG, upd_ne npr, upd_ne npq, upd_same]
    have hq2 : H2 q = some (.lst (nv [])) := by rw [← hG, upd_ne nqr, upd_same]; rfl
    have hr2 : H2 r = some (.tup [.int ((0 : Nat) : Int), .int ((0 : Nat) : Int), .ref q]) := by rw [← hG, upd_same]; rfl
    have e2 : Ex H H2 := by
      rw [← hG]
      exact ((eH.trans (ex_upd np)).trans (ex_upd nq)).trans (ex_upd nr)
    have e2d : Ex H (del H2 p) := ex_del npH e2
    refine ⟨_, rfl, _, rfl, p, _, (a : Int), a, rfl, rfl, hp2, Evl.ixN_nat (by rw [List.length_replicate]; exact ha), ?_⟩
    have R0 : AllV (DrvAt (upd H2 p (.lst ((List.replicate s.n V.non).set a (.ref r))))) ((List.replicate s.n V.non).set a (.ref r)) (init0 s.n a) := by
      rw [← init0_set ha]
      refine AllV.set ⟨by simp, fun i o hi => ?_⟩ ⟨r, q, 0, 0, [], rfl, rfl, by rw [upd_ne (Ne.symm npr)]; exact hr2, by rw [upd_ne (Ne.symm npq)]; exact hq2⟩
      rw [List.getElem?_replicate] at hi ⊢
      split at hi
      · cases hi
        exact ⟨.non, by rw [if_pos (by assumption)], rfl⟩
      · cases hi
    have eX : Ex H (upd H2 p (.lst ((List.replicate s.n V.non).set a (.ref r)))) := e2.mut npH
    refine evO_places T (O.ex eX) (Evl.ev_var rfl) _ (Ex.refl _) _ fun H3 e3 => ?_
    refine ⟨(s.n : Int), rfl, by omega, by omega, ?_⟩
    rw [show ((s.n : Int)).toNat = s.n from rfl]
    refine for_range (lo := 0) (n := s.n) (fun i σ' H' => ∃ pp ys t v4 v5, σ' = [some (.ref A.a), some (.int (a : Int)), some (.ref ra), some (.ref pp), v4, v5] ∧ H pp = none ∧ Ex H H' ∧ H' pp = some (.lst ys) ∧ AllV (DrvAt H') ys t ∧ t.length = s.n ∧ Bnd t (2 + 200 * i) ∧ settle (uOf s ks) (s.n - i) t = settle (uOf s ks) s.n (init0 s.n a))
      ⟨p, _, _, none, none, rfl, npH, eX.trans e3, e3 _ _ upd_same, R0.mono fun v o q => q.ex e3, init0_len, ?_, by rw [Nat.sub_zero]⟩ ?_ ?_
    · intro o m d q
      subst q
      unfold init0 at m
      obtain ⟨i, _, hi⟩ := List.mem_map.mp m
      split at hi
      · cases hi; exact Nat.le_refl _
      · cases hi
    · rintro i σ' H' hi ⟨pp, ys, t, v4, v5, rfl, npp, e, hpp, hR, hl, hb, hs⟩
      obtain ⟨bd, ln, tw'⟩ := spread_bnd (n := s.n) (uOf s ks) t (2 + 200 * i) hu hl hR.two hb
      refine ⟨_, rfl, _, rfl, _, rfl, ?_⟩
      refine ⟨A, s, pp, ra, ys, t, ks, rfl, O.ex e, ro, hpp, hR, hl, Evl.ex_l e hra, hk, hkl, hb.mono (by omega), fun q H4 zs nq e4 hq4 hR4 => ?_⟩
      have nqH : H q = none := Evl.fresh_back e nq
      dsimp only
      refine ⟨_, rfl, _, rfl, _, _, .lst (SqL.of hq4) (dp_all hR4), .lst (SqL.of (e4 _ _ hpp)) (dp_all (hR.mono fun v o r => r.ex e4)), shaped_tab _, shaped_tab _, ?_⟩
      have eq : PyData.eqv (.list ((spread (uOf s ks) t).map dOpt)) (.list (t.map dOpt)) = decide (spread (uOf s ks) t = t) := by
        rw [← eqv_tab hR4.two hR.two]
        simp only [PyData.eqv]
      rw [eq]
      refine ⟨_, rfl, ?_⟩
      by_cases hf : spread (uOf s ks) t = t
      · rw [settle_fix hf] at hs
        refine ite_t (decide_eq_true hf) ?_
        refine ⟨_, rfl, k pp H4 ys npp (e.trans e4) (e4 _ _ hpp) ?_⟩
        rw [← hs]
        exact hR.mono fun v o r => r.ex e4
      · refine ite_f (decide_eq_false hf) ?_
        refine ⟨_, rfl, q, zs, spread (uOf s ks) t, _, _, rfl, nqH, e.trans e4, hq4, hR4, ln, bd.mono (by omega), ?_⟩
        rw [← hs, show s.n - i = (s.n - (i + 1)) + 1 by omega, settle_go hf]
    · rintro σ' H' ⟨pp, ys, t, v4, v5, rfl, npp, e, hpp, hR, hl, hb, hs⟩
      rw [Nat.sub_self] at hs
      refine ⟨_, rfl, k pp H' ys npp e hpp ?_⟩
      rw [← hs]
      exact hR
end
end Th
namespace Th
open PySem PySem.Spec PyProof.Rows L2
open TimHaul (Road Limit Truck Lot Trip Office before)
open Evl (Ex Ev EvL EvT EvA)
section
variable {PP : Program} {w : World} {K : PySem.W.Frag} {mg : Str → Option Value} {base : Heap}
def sp_Ways_drive (K : PySem.W.Frag) : Sp := fun vs H Q _ => ∃ (W : WA) (A : OA) (s : Office) (c a b d kg : Nat), vs = [.ref W.w, .int (a : Int), .int (b : Int), .int (d : Int), .int (kg : Int)] ∧ WaysAt K H W A s c ∧ c < 900000 ∧ a < s.n ∧ b < s.n ∧
  ∀ v H', ExD H H' → WaysAt K H' W A s (c + 2) → DrvAt H' v (s.drive a b d kg) → Q v H'
theorem nFind_snoc (xs : List (NK × Addr × Addr)) (k : NK) (p b : Addr) (h : nFind xs k = none) : nFind (xs ++ [(k, p, b)]) k = some b := by
  unfold nFind at h ⊢
  rw [List.find?_append]
  cases q : xs.find? fun x => decide (x.1 = k) with
  | some x => rw [q] at h; cases h
  | none => simp
theorem nFind_mem {xs : List (NK × Addr × Addr)} {k : NK} {b : Addr} (h : nFind xs k = some b) : ∃ x ∈ xs, x.1 = k ∧ x.2.2 = b := by
  unfold nFind at h
  cases q : xs.find? fun x => decide (x.1 = k) with
  | none => rw [q] at h; cases h
  | some x =>
    rw [q] at h
    cases h
    exact ⟨x, List.mem_of_find?_eq_some q, by simpa using List.find?_some q, rfl⟩
theorem sc_Ways_drive : FnScope (["self", "a", "b", "day", "kilograms", "roads", "key"] : List Str) ["self", "a", "b", "day", "kilograms"] (defScope s_Ways_drive) := ⟨rfl, rfl, rfl, by decide +kernel, rfl, by decide +kernel, by decide +kernel⟩
theorem c_Ways_drive (T : Txt K mg) (C_Ways_roads_for : Cal PP w K mg base 3 (He.ma K (He.ga K "Ways") "roads_for") ["self", "day", "kilograms"] (sp_Ways_roads_for K)) (C_shortest_from : Cal PP w K mg base 3 (He.ga K "shortest_from") ["office", "start", "roads"] (sp_shortest_from K)) : Cal PP w K mg base 4 (He.ma K (He.ga K "Ways") "drive") ["self", "a", "b", "day", "kilograms"] (sp_Ways_drive K) := by
  refine Cal.of T.f_Ways_drive sc_Ways_drive (fun vs H Q E h => ?_) (fun _ _ _ _ _ _ us hl => match us, hl with | [_, _, _, _, _], _ => rfl) (fun cdv A outer s H vs Q E hr h => ?_)
  · obtain ⟨W, A, s, c, a, b, d, kg, rfl, wa, hc, ha, hb, k⟩ := h
    rfl
  · obtain ⟨W, A, s, c, a, b, d, kg, rfl, wa, hc, ha, hb, k⟩ := h
    refine ⟨_, (pss_cons (ps_set (i := 5) sc_Ways_drive.nd rfl (Or.inl rfl) (pe_cmeth (pv 0) T.c_Ways T.m_Ways_roads_for C_Ways_roads_for (hr.mono (by decide)) (pa_cons (pv 3) (pa_cons (pv 4) pa_nil))))
      (pss_cons (ps_set (i := 6) sc_Ways_drive.nd rfl (Or.inl rfl) (pe_tup (pa_cons (pv 1) (pa_cons (pe_callTy cr_tuple (by rfl) T.n_tuple (by decide +kernel) (pa_cons (pv 5) pa_nil)) pa_nil))))
      (pss_cons (ps_if (pt_cmpR (op_notInN hr.units) (pv 6) (pe_fld (pv 0) rfl) (by rfl)) (pss_one (ps_asg (pe_cal C_shortest_from (hr.mono (by decide)) (by rfl) T.g_shortest_from (pa_cons (pe_fld (pv 0) rfl) (pa_cons (pv 1) (pa_cons (pv 5) pa_nil)))) (pg_sub (pe_fld (pv 0) rfl) (pv 6) (set_ndict hr.units)))) pss_nil)
      (pss_one (ps_ret (pe_ix ix_list (pe_ix (ix_ndict hr.units) (pe_fld (pv 0) rfl) (pv 6) (fun _ _ => rfl)) (pv 2) (fun _ _ => rfl))))))), ?_⟩
    refine ⟨_, rfl, W.w, W.dx, _, rfl, wa.obj, lWays_roads_for _ _ _, _, rfl, _, rfl, W, A, s, c, d, kg, rfl, wa, by omega, fun p H1 e1 wa1 h1 => ?_⟩
    dsimp only
    refine ⟨_, rfl, _, rfl, p, _, rfl, .inl ⟨SqL.of h1, fun q1 n1 => ⟨by show 2 ≤ sizeLine; decide, fun q2 n2 => ?_⟩⟩⟩
    have x2 : Ex H1 (upd (upd H1 q1 (.tup (nv (roadsFor s d kg)))) q2 (.tup [.int (a : Int), .ref q1])) := (ex_upd n1).trans (ex_upd n2)
    have key : KeyAt (upd (upd H1 q1 (.tup (nv (roadsFor s d kg)))) q2 (.tup [.int (a : Int), .ref q1])) q2 (a, roadsFor s d kg) := ⟨q1, upd_same, by rw [upd_ne (ne_of_none upd_same n2)]; exact upd_same⟩
    dsimp only
    generalize upd (upd H1 q1 (.tup (nv (roadsFor s d kg)))) q2 (.tup [.int (a : Int), .ref q1]) = H2 at x2 key
    have fin : ∀ (H3 : Hp) (D : Ends) (xs : List (NK × Addr × Addr)) (bb : Addr), D.rt = Q → ExD H H3 → WaysAt K H3 W A s (c + 2) → KeyAt H3 q2 (a, roadsFor s d kg) → H3 W.kk = some (NDct W.kk xs) → (∀ x ∈ xs, KeyAt H3 x.2.1 x.1) → nFind xs (a, roadsFor s d kg) = some bb → (∃ ys, H3 bb = some (.lst ys) ∧ AllV (DrvAt H3) ys (settle (uOf s (roadsFor s d kg)) s.n (init0 s.n a))) →
        tRet (tOp (rIxL K) (tOp rIxN (tFld K (tVar 0) "known") (tVar 6)) (tVar 2)) D [some (.ref W.w), some (.int (a : Int)), some (.int (b : Int)), some (.int (d : Int)), some (.int (kg : Int)), some (.ref p), some (.ref q2)] H3 := by
      rintro H3 D xs bb rfl e3 wa3 key3 hk3 hks hf ⟨ys, hy, hA⟩
      have lt : b < (settle (uOf s (roadsFor s d kg)) s.n (init0 s.n a)).length := by
        rw [(settle_full (uOf_ok wa3.wf.roads fun k m => roadsFor_lt m) ha).1]
        exact hb
      obtain ⟨v, hv, hd⟩ := hA.2 b _ (tab_at lt)
      rw [drive_eq wa3.wf.roads ha] at hd
      refine Evl.s_ret (Evl.ev_op (Evl.ev_op (evW_known T wa3 (Evl.ev_var rfl)) (Evl.ev_var rfl) (Evl.rv_val fun H4 e4 Q' q' => ?_)) (Evl.ev_var rfl) (Evl.rv_ixL (SqL.of hy) (atI_nat hv))) fun H4 e4 => k v H4 (e3.ex e4) (wa3.ex e4) (hd.ex e4)
      exact ⟨q2, W.kk, _, xs, bb, rfl, rfl, key3.mono (exD_of e4), e4 _ _ hk3, fun x m => (hks x m).mono (exD_of e4), hf, q'⟩
    have wa2 := wa1.ex x2
    obtain ⟨xs, hk2, hl2, hx2⟩ := wa1.k
    have hk2' := x2 _ _ hk2
    refine Evl.q_when (b := !(nFind xs (a, roadsFor s d kg)).isSome) (Evl.et_test (Evl.ev_op (Evl.ev_var rfl) (evW_known T wa2 (Evl.ev_var rfl)) (Evl.rv_val fun H4 e4 Q' q' => ?_))) (fun hn H3 e3 => ?_) (fun hn H3 e3 => ?_)
    · exact ⟨q2, W.kk, _, xs, rfl, rfl, key.mono (exD_of e4), e4 _ _ hk2', fun x m => (hx2 x m).1.mono (exD_of (x2.trans e4)), q'⟩
    · have nf : nFind xs (a, roadsFor s d kg) = none := by
        cases q : nFind xs (a, roadsFor s d kg) with
        | none => rfl
        | some v => rw [q] at hn; cases hn
      have wa3 := wa2.ex e3
      have ea : EvA (tCons (tFld K (tVar 0) "office") (tCons (tVar 1) (tCons (tVar 5) tNil))) [some (.ref W.w), some (.int (a : Int)), some (.int (b : Int)), some (.int (d : Int)), some (.int (kg : Int)), some (.ref p), some (.ref q2)] H3 [.ref A.a, .int (a : Int), .ref p] := Evl.ea_cons (evW_office T wa3 (Evl.ev_var rfl)) (ea_two (Evl.ev_var rfl) (Evl.ev_var rfl))
      refine s_asgG (k_call ea fun H4 e4 => ?_)
      refine ⟨A, s, a, p, roadsFor s d kg, rfl, wa3.off.ex e4, wa3.wf.roads, wa3.wf.n16, ha, SqL.of (e4 _ _ (e3 _ _ (x2 _ _ h1))), fun k m => roadsFor_lt m, by have := roadsFor_len s d kg; have := wa3.wf.r32; omega, fun p5 H5 ys n5 e5 h5 hA => ?_⟩
      have wa5 := wa3.ex (e4.trans e5)
      have ek : Ev (tFld K (tVar 0) "known") [some (.ref W.w), some (.int (a : Int)), some (.int (b : Int)), some (.int (d : Int)), some (.int (kg : Int)), some (.ref p), some (.ref q2)] H5 (.ref W.kk) := evW_known T wa5 (Evl.ev_var rfl)
      refine k_ev ek fun H6 e6 => ?_
      have eb : Ex H2 H6 := ((e3.trans e4).trans e5).trans e6
      have key6 : KeyAt H6 q2 (a, roadsFor s d kg) := key.mono (exD_of eb)
      have hk6 := eb _ _ hk2'
      have ks6 : ∀ x ∈ xs, KeyAt H6 x.2.1 x.1 := fun x m => (hx2 x m).1.mono (exD_of (x2.trans eb))
      refine ⟨_, rfl, q2, W.kk, p5, (a, roadsFor s d kg), xs, rfl, rfl, rfl, key6, hk6, ks6, nf, by omega, ?_⟩
      have x7 : ExD H6 (upd H6 W.kk (NDct W.kk (xs ++ [((a, roadsFor s d kg), q2, p5)]))) := exD_dict hk6 rfl
      have wa6 := wa2.ex eb
      obtain ⟨kvs, hb1, hb2, hb3⟩ := wa6.b
      have nkb : W.kb ≠ W.kk := ne_of hb1 hk6 (by intro z; cases z)
      have snoc : ∀ x, x ∈ xs ++ [((a, roadsFor s d kg), q2, p5)] → x ∈ xs ∨ x = ((a, roadsFor s d kg), q2, p5) := fun x m => by
        rcases List.mem_append.mp m with m | m
        · exact .inl m
        · exact .inr (by simpa using m)
      have hA7 : AllV (DrvAt (upd H6 W.kk (NDct W.kk (xs ++ [((a, roadsFor s d kg), q2, p5)])))) ys (settle (uOf s (roadsFor s d kg)) s.n (init0 s.n a)) := hA.mono fun v o r => (r.ex e6).mono x7
      have h7 := x7 _ _ (e6 _ _ h5) rfl
      have all7 : ∀ x ∈ xs ++ [((a, roadsFor s d kg), q2, p5)], KeyAt (upd H6 W.kk (NDct W.kk (xs ++ [((a, roadsFor s d kg), q2, p5)]))) x.2.1 x.1 ∧ ∃ ys, (upd H6 W.kk (NDct W.kk (xs ++ [((a, roadsFor s d kg), q2, p5)]))) x.2.2 = some (.lst ys) ∧ AllV (DrvAt (upd H6 W.kk (NDct W.kk (xs ++ [((a, roadsFor s d kg), q2, p5)])))) ys (settle (uOf s x.1.2) s.n (init0 s.n x.1.1)) := fun x m => by
        rcases snoc x m with m | rfl
        · obtain ⟨g1, ys', g2, g3⟩ := hx2 x m
          exact ⟨(g1.mono (exD_of (x2.trans eb))).mono x7, ys', x7 _ _ (eb _ _ (x2 _ _ g2)) rfl, g3.mono fun v o r => (r.ex (x2.trans eb)).mono x7⟩
        · exact ⟨key6.mono x7, ys, h7, hA7⟩
      refine fin _ _ (xs ++ [((a, roadsFor s d kg), q2, p5)]) p5 rfl ((e1.ex (x2.trans eb)).trans x7) ⟨x7 _ _ wa6.obj rfl, wa6.off.exD x7, wa6.wf, ⟨kvs, by rw [upd_ne nkb]; exact hb1, by omega, fun d' v' hv' => ?_⟩, ⟨_, upd_same, by rw [List.length_append]; show xs.length + 1 ≤ _; omega, all7⟩⟩ (key6.mono x7) upd_same (fun x m => (all7 x m).1) (nFind_snoc _ _ _ _ nf) ⟨ys, h7, hA7⟩
      obtain ⟨p', g1, g2⟩ := hb3 d' v' hv'
      exact ⟨p', g1, x7 _ _ g2 rfl⟩
    · cases q : nFind xs (a, roadsFor s d kg) with
      | none => rw [q] at hn; cases hn
      | some bb =>
        obtain ⟨x, mx, ex1, ex2⟩ := nFind_mem q
        obtain ⟨g1, ys, g2, g3⟩ := hx2 x mx
        refine fin _ _ xs bb rfl (e1.ex (x2.trans e3)) ((wa2.ex e3).le (Nat.le_succ _)) (key.mono (exD_of e3)) (e3 _ _ hk2') (fun x m => (hx2 x m).1.mono (exD_of (x2.trans e3))) q ⟨ys, ?_, ?_⟩
        · rw [← ex2]; exact e3 _ _ (x2 _ _ g2)
        · rw [ex1] at g3
          exact g3.mono fun v o r => r.ex (x2.trans e3)
end
end Th
namespace Th
open PySem PySem.Spec PyProof.Rows L2
open TimHaul (Road Limit Truck Lot Trip Office before)
open Evl (Ex Ev EvL EvT EvA)
section
variable {PP : Program} {w : World} {K : PySem.W.Frag} {mg : Str → Option Value} {base : Heap}
def sp_Ways_init (K : PySem.W.Frag) : Sp := fun vs H Q _ => ∃ (p dx a : Addr), vs = [.ref p, .ref a] ∧ H p = some (.ins (He.ga K "Ways") dx []) ∧
  ∀ kb kk H', H kb = none → H kk = none → Ex (del H p) (del H' p) → H' p = some (.ins (He.ga K "Ways") dx (fWays a kb kk)) → H' kb = some (.dK []) → H' kk = some (NDct kk []) → Q .non H'
/-- Ways(office) -/
theorem ways_made {K : PySem.W.Frag} {σ : L2.St} {H : Hp} {ta : TE} {A : OA} {s : Office} (O : OffR K H A s) (wf : Wf s) (h : Ev ta σ H (.ref A.a)) {Q : VK} (q : ∀ W H2, Ex H H2 → WaysAt K H2 W A s 0 → Q (.ref W.w) H2) : tMake (He.ga K "Ways") (sp_Ways_init K) [] E0 (tCons ta tNil) σ H Q := by
  refine h H (Ex.refl H) _ fun H1 e1 => ?_
  intro x dx nx nd ne
  have nxp : upd H1 dx (.own x) x = none := by rw [upd_ne (Ne.symm ne)]; exact nx
  refine ⟨x, dx, A.a, rfl, upd_same, fun kb kk H' nb nk e hx hb hk => ⟨rfl, ?_⟩⟩
  have e2 : Ex H1 H' := by
    intro b o hbo
    have b1 : b ≠ x := fun z => by rw [z, nx] at hbo; cases hbo
    have b2 : b ≠ dx := fun z => by rw [z, nd] at hbo; cases hbo
    have z : del (upd (upd H1 dx (.own x)) x (.ins (He.ga K "Ways") dx [])) x b = some o := by rw [del_ne b1, upd_ne b1, upd_ne b2]; exact hbo
    exact (del_some (e b o z)).1
  refine q ⟨x, dx, kb, kk⟩ H' (e1.trans e2) ⟨hx, O.ex (e1.trans e2), wf, ⟨[], hb, Nat.le_refl _, fun d v z => by cases z⟩, ⟨[], hk, Nat.le_refl _, fun x m => by cases m⟩⟩
theorem sc_Ways_init : FnScope (["self", "office"] : List Str) ["self", "office"] (defScope s_Ways_init) := ⟨rfl, rfl, rfl, by decide +kernel, rfl, by decide +kernel, by decide +kernel⟩
theorem c_Ways_init (T : Txt K mg) : Cal PP w K mg base 1 (He.ma K (He.ga K "Ways") "__init__") ["self", "office"] (sp_Ways_init K) := by
  refine Cal.of T.f_Ways_init sc_Ways_init (fun vs H Q E h => ?_) (fun _ _ _ _ _ _ us hl => match us, hl with | [_, _], _ => rfl) (fun cdv A outer s H vs Q E hr h => ?_)
  · obtain ⟨p, dx, a, rfl, hp, k⟩ := h
    rfl
  · obtain ⟨p, dx, a, rfl, hp, k⟩ := h
    refine ⟨_, (pss_cons (ps_fld (pv 0) (pv 1) rfl)
      (pss_cons (ps_fld (pv 0) pe_dnewK rfl)
      (pss_one (ps_fld (pv 0) pe_dnewN rfl)))), ?_⟩
    refine ⟨_, rfl, _, rfl, p, _, dx, _, rfl, hp, T.c_Ways, T.a_Ways_office, (by show 0 < 1000; decide), ?_⟩
    intro kb nb
    have nbp : kb ≠ p := fun z => by rw [z, upd_same] at nb; cases nb
    refine ⟨_, rfl, p, _, dx, _, rfl, by rw [upd_ne (Ne.symm nbp)]; exact upd_same, T.c_Ways, T.a_Ways_borne, (by show 1 < 1000; decide), ?_⟩
    intro kk nk
    have nkp : kk ≠ p := fun z => by rw [z, upd_same] at nk; cases nk
    have nkb : kb ≠ kk := fun z => by
      rw [← z, upd_ne nbp, upd_same] at nk
      cases nk
    refine ⟨_, rfl, p, _, dx, _, rfl, by rw [upd_ne (Ne.symm nkp)]; exact upd_same, T.c_Ways, T.a_Ways_known, (by show 2 < 1000; decide), ?_⟩
    rw [upd_ne nbp] at nb
    rw [upd_ne nkp, upd_ne (Ne.symm nkb), upd_ne nkp] at nk
    refine k kb kk _ nb nk ?_ (by rw [upd_same, pWays]; rfl) (by rw [upd_ne nbp, upd_ne nkb, upd_ne nbp, upd_same]) (by rw [upd_ne nkp, upd_same])
    intro b o hb
    obtain ⟨h1, h2⟩ := del_some hb
    have b1 : b ≠ kb := fun z => by rw [z, nb] at h1; cases h1
    have b2 : b ≠ kk := fun z => by rw [z, nk] at h1; cases h1
    rw [del_ne h2, upd_ne h2, upd_ne b2, upd_ne h2, upd_ne b1, upd_ne h2]
    exact h1
end
end Th
namespace Th
open PySem PySem.Spec PyProof.Rows L2
open TimHaul (Road Limit Truck Lot Trip Office before)
open Evl (Ex Ev EvL EvT EvA)
section
variable {PP : Program} {w : World} {K : PySem.W.Frag} {mg : Str → Option Value} {base : Heap}
def sp_tell_drive (K : PySem.W.Frag) : Sp := fun vs H Q _ => ∃ (G : Hp) (A : OA) (s : Office) (rn : Addr) (a b d kg : Nat), vs = [.ref A.a, .ref rn] ∧ OffM K G H A s ∧ H rn = some (.lst (nv [a, b, d, kg])) ∧ WrtihaSpec.right (.drive a b d kg) = true ∧ Done K (.drive a b d kg) G H A s Q
theorem sc_tell_drive : FnScope (["office", "numbers", "a", "b", "day", "kilograms", "drive", "metres", "many", "roads"] : List Str) ["office", "numbers"] (defScope s_tell_drive) := ⟨rfl, rfl, rfl, by decide +kernel, rfl, by decide +kernel, by decide +kernel⟩
theorem c_tell_drive (T : Txt K mg) (C_Office_has_place : Cal PP w K mg base 1 (He.ma K (He.ga K "Office") "has_place") ["self", "place"] (sp_Office_has_place K)) (C_Ways_drive : Cal PP w K mg base 4 (He.ma K (He.ga K "Ways") "drive") ["self", "a", "b", "day", "kilograms"] (sp_Ways_drive K)) (C_Ways_init : Cal PP w K mg base 1 (He.ma K (He.ga K "Ways") "__init__") ["self", "office"] (sp_Ways_init K)) : Cal PP w K mg base 5 (He.ga K "tell_drive") ["office", "numbers"] (sp_tell_drive K) := by
  refine Cal.of T.f_tell_drive sc_tell_drive (fun vs H Q E h => ?_) (fun _ _ _ _ _ _ us hl => match us, hl with | [_, _], _ => rfl) (fun cdv A outer s H vs Q E hr h => ?_)
  · obtain ⟨G, A, s, rn, a, b, d, kg, rfl, O, hn, hg, k⟩ := h
    rfl
  · obtain ⟨G, A, s, rn, a, b, d, kg, rfl, O, hn, hg, k⟩ := h
    refine ⟨_, (pss_cons (ps_asg (pv 1) (pg_unl rfl (pgs_cons (pg_name (i := 2) sc_tell_drive.nd rfl (Or.inl rfl)) (pgs_cons (pg_name (i := 3) sc_tell_drive.nd rfl (Or.inl rfl)) (pgs_cons (pg_name (i := 4) sc_tell_drive.nd rfl (Or.inl rfl)) (pgs_cons (pg_name (i := 5) sc_tell_drive.nd rfl (Or.inl rfl)) pgs_nil))))))
      (pss_cons (ps_if (PW.pt (pw_or (pt_not (pt_val (pe_cmeth (pv 0) T.c_Office T.m_Office_has_place C_Office_has_place (hr.mono (by decide)) (pa_cons (pv 2) pa_nil)))) (pw_or1 (pt_not (pt_val (pe_cmeth (pv 0) T.c_Office T.m_Office_has_place C_Office_has_place (hr.mono (by decide)) (pa_cons (pv 3) pa_nil))))))) (pss_one (ps_ret (pe_lst (pa_cons (pe_gint T.i_NOT_THERE (by rfl)) pa_nil)))) pss_nil)
      (pss_cons (ps_set (i := 6) sc_tell_drive.nd rfl (Or.inl rfl) (pe_cmeth (pe_cmake T.k_Ways C_Ways_init (hr.mono (by decide)) (by rfl) T.g_Ways (pa_cons (pv 0) pa_nil)) T.c_Ways T.m_Ways_drive C_Ways_drive (hr.mono (by decide)) (pa_cons (pv 2) (pa_cons (pv 3) (pa_cons (pv 4) (pa_cons (pv 5) pa_nil))))))
      (pss_cons (ps_if (pt_cmpR op_isN (pv 6) pe_non (nomark _)) (pss_one (ps_ret (pe_lst (pa_cons (pe_gint T.i_CANNOT_BE (by rfl)) pa_nil)))) pss_nil)
      (pss_cons (ps_asg (pv 6) (pg_tup rfl (pgs_cons (pg_name (i := 7) sc_tell_drive.nd rfl (Or.inl rfl)) (pgs_cons (pg_name (i := 8) sc_tell_drive.nd rfl (Or.inl rfl)) (pgs_cons (pg_name (i := 9) sc_tell_drive.nd rfl (Or.inl rfl)) pgs_nil)))))
      (pss_one (ps_ret (pe_op op_cat (pe_lst (pa_cons pe_int (pa_cons (pv 7) pa_nil))) (pv 9))))))))), ?_⟩
    refine ⟨_, rfl, rn, _, rfl, SqL.of hn, rfl, _, _, rfl, _, _, rfl, _, _, rfl, _, _, rfl, rfl, ?_⟩
    refine Evl.q_when (Evl.et_or (Evl.et_not (Evl.et_B (ev_has_place O.offR (Evl.ev_var rfl) (Evl.ev_var rfl)))) fun _ => Evl.et_not (Evl.et_B (ev_has_place O.offR (Evl.ev_var rfl) (Evl.ev_var rfl)))) (fun hc H1 e1 => ?_) (fun hc H1 e1 => ?_)
    · refine s_no rfl (exD_of e1) k O ?_
      show (s, if s.n ≤ a ∨ s.n ≤ b then _ else _) = _
      rw [if_pos (by simp at hc; omega)]
    have hp : ¬ (s.n ≤ a ∨ s.n ≤ b) := by simp at hc; omega
    have hs : ∀ x, WrtihaSpec.telling (s.drive a b d kg) = x → WrtihaSpec.does s (.drive a b d kg) = (s, x) := fun x hx => by
      show (s, if s.n ≤ a ∨ s.n ≤ b then _ else _) = _
      rw [if_neg hp, hx]
    have O1 := O.query (exD_of e1)
    refine q_asgK (ways_made O1.offR O.wf (Evl.ev_var rfl) fun W H2 e2 wa => ?_)
    refine ⟨W.w, W.dx, _, rfl, wa.obj, lWays_drive _ _ _, _, rfl, _, rfl, _, rfl, _, rfl, ?_⟩
    refine ⟨W, A, s, 0, a, b, d, kg, rfl, wa, by decide, by omega, by omega, fun v H3 e3 wa3 dv => ?_⟩
    have x3 : ExD H H3 := (exD_of (e1.trans e2)).trans e3
    refine Evl.q_when (b := decide (v = .non)) (Evl.et_test (Evl.ev_op (Evl.ev_var rfl) Evl.ev_c (Evl.rv_val fun H1 _ Q q => ⟨rfl, q⟩))) (fun hv H4 e4 => ?_) (fun hv H4 e4 => ?_)
    · refine s_no rfl (x3.ex e4) k O (hs _ ?_)
      cases q : s.drive a b d kg with
      | none => rfl
      | some r =>
        rw [q] at dv
        obtain ⟨p, l, x, y, r', _, h3, _⟩ := dv
        rw [h3] at hv
        cases hv
    · cases q : s.drive a b d kg with
      | none =>
        rw [q] at dv
        have z : v = .non := dv
        rw [z] at hv
        cases hv
      | some r =>
        have F := drive_facts O.wf (by omega) q
        rw [q] at dv
        obtain ⟨p, l, x, y, r', rfl, rfl, h3, h4⟩ := dv
        obtain ⟨_, _, _, fl, _⟩ := F
        have fl' : r'.length ≤ 2000 := fl
        refine ⟨_, rfl, p, _, rfl, SqT.of (e4 _ _ h3), rfl, _, _, rfl, _, _, rfl, _, _, rfl, rfl, ?_⟩
        dsimp only
        refine s_tells (Q := Q) (l := x :: r') rfl (x3.ex e4) k O (hs _ ?_) ?_
        · rw [q]; rfl
        · exact el_catR (xs := [.int 0, .int (x : Int)]) (Evl.el_lst (ea_two Evl.ev_c (Evl.ev_var rfl)) (by show 2 ≤ 100000; decide)) (Evl.ev_var rfl) (e4 _ _ h4) (by rw [List.length_map]; show 2 + _ ≤ _; omega)
end
end Th
namespace Th
open TimHaul (Road Limit Truck Lot Trip Office before)
/-! ### the shortest drive among walks -/
abbrev uAt (s : Office) (d kg : Nat) : U := uOf s (roadsFor s d kg)
section
variable {s : Office} {a b d kg : Nat} {r e : List Nat}
theorem uAt_ok (w : RoadsOk s) : ∀ y ∈ uAt s d kg, y.2.a < s.n ∧ y.2.b < s.n := uOf_ok w fun k m => roadsFor_lt m
theorem drive_walk (w : RoadsOk s) (ha : a < s.n) (h : s.drive a b d kg = some r) : Wk (uAt s d kg) a b r := by
  rw [← drive_eq w ha] at h
  exact (settle_full (uAt_ok w) ha).2.1 b r h
theorem drive_min (w : RoadsOk s) (ha : a < s.n) (hb : b < s.n) (h : Wk (uAt s d kg) a b e) : ∃ r, s.drive a b d kg = some r ∧ Le r e := by
  obtain ⟨r, h1, h2⟩ := (settle_full (uAt_ok w) ha).2.2 b e hb h
  rw [drive_eq w ha] at h1
  exact ⟨r, h1, h2⟩
theorem drive_isSome (w : RoadsOk s) (ha : a < s.n) (hb : b < s.n) : (s.drive a b d kg).isSome = true ↔ ∃ e, Wk (uAt s d kg) a b e := by
  constructor
  · intro h
    obtain ⟨r, hr⟩ := Option.isSome_iff_exists.mp h
    exact ⟨r, drive_walk w ha hr⟩
  · rintro ⟨e, h⟩
    obtain ⟨r, hr, _⟩ := drive_min w ha hb h
    rw [hr]; rfl
end
theorem uOf_at {s : Office} {ks : List Nat} {k : Nat} {x : Road} (h : (k, x) ∈ uOf s ks) : k ∈ ks ∧ x = s.roads.getD k ⟨0, 0, 0, 0⟩ := by
  unfold uOf at h
  obtain ⟨j, hj, e⟩ := List.mem_map.mp h
  cases e
  exact ⟨hj, rfl⟩
theorem uOf_in {s : Office} {ks : List Nat} {k : Nat} (h : k ∈ ks) : (k, s.roads.getD k ⟨0, 0, 0, 0⟩) ∈ uOf s ks := List.mem_map.mpr ⟨k, h, rfl⟩
theorem Wk.mono {u v : U} {a p : Nat} {d : List Nat} (h : ∀ x ∈ u, x ∈ v) (w : Wk u a p d) : Wk v a p d := by
  induction w with
  | nil => exact .nil
  | snoc _ hx hA ih => exact .snoc ih (h _ hx) hA
/-- a walk by the roads that are in it -/
theorem Wk.own {u : U} {a p : Nat} {d : List Nat} (w : Wk u a p d) : Wk (u.filter fun x => (d.drop 2).contains x.1) a p d := by
  induction w with
  | nil => exact .nil
  | snoc w hx hA ih =>
    rename_i q p k x d
    have e : (ext d k x.metres).drop 2 = d.drop 2 ++ [k] := rfl
    rw [e]
    refine .snoc (ih.mono fun y hy => ?_) ?_ hA
    · obtain ⟨h1, h2⟩ := List.mem_filter.mp hy
      refine List.mem_filter.mpr ⟨h1, ?_⟩
      simp at h2 ⊢
      exact .inl h2
    · exact List.mem_filter.mpr ⟨hx, by simp⟩
/-! ### a shortest drive takes no road twice -/
theorem cut_path {u : U} {a : Nat} {s : List Step} {i j : Nat} (ok : okP u a s) (hij : i < j) (hj : j ≤ s.length) (e : lastP a (s.take i) = lastP a (s.take j)) : ∃ s', okP u a s' ∧ lastP a s' = lastP a s ∧ ¬ Le (pval s) (pval s') := by
  have oi : okP u a (s.take i ++ s.drop i) := by rw [List.take_append_drop]; exact ok
  have oj : okP u a (s.take j ++ s.drop j) := by rw [List.take_append_drop]; exact ok
  have o1 := ((okP_append _ _ _).mp oi).1
  have o2 := ((okP_append _ _ _).mp oj).2
  rw [← e] at o2
  have ok' : okP u a (s.take i ++ s.drop j) := (okP_append _ _ _).mpr ⟨o1, o2⟩
  have last' : lastP a (s.take i ++ s.drop j) = lastP a s := by
    rw [lastP_append, e, ← lastP_append, List.take_append_drop]
  have len' : (s.take i ++ s.drop j).length < s.length := by
    rw [List.length_append, List.length_take, List.length_drop]; omega
  have sum' : vsum (s.take i ++ s.drop j) ≤ vsum s := by
    have e1 : vsum s = vsum (s.take j) + vsum (s.drop j) := by rw [← vsum_append, List.take_append_drop]
    have e2 : vsum (s.take j) = vsum ((s.take j).take i) + vsum ((s.take j).drop i) := by rw [← vsum_append, List.take_append_drop]
    rw [List.take_take, Nat.min_eq_left (by omega)] at e2
    rw [vsum_append, e1, e2]; omega
  refine ⟨_, ok', last', fun h => ?_⟩
  rcases le_cons.mp h with h | ⟨h, h2⟩
  · omega
  · rcases le_cons.mp h2 with h2 | ⟨h2, _⟩
    · omega
    · omega
theorem path_at {u : U} : ∀ (s : List Step) (q i : Nat) (x : Step), okP u q s → s[i]? = some x → (x.1, x.2.1) ∈ u ∧ Adj x.2.1 (lastP q (s.take i)) x.2.2 ∧ lastP q (s.take (i + 1)) = x.2.2
  | [], _, _, _, _, h => by simp at h
  | y :: s, q, 0, x, ok, h => by
    cases h
    exact ⟨ok.1, ok.2.1, rfl⟩
  | y :: s, q, i + 1, x, ok, h => path_at s y.2.2 i x ok.2.2 h
theorem path_nodup {u : U} {a : Nat} {s : List Step} (hu : ∀ k x y, (k, x) ∈ u → (k, y) ∈ u → x = y) (ok : okP u a s) (hm : ∀ s', okP u a s' → lastP a s' = lastP a s → Le (pval s) (pval s')) : (s.map (·.1)).Nodup := by
  have nc : ∀ i j, i < j → j ≤ s.length → lastP a (s.take i) ≠ lastP a (s.take j) := fun i j h1 h2 e => by
    obtain ⟨s', g1, g2, g3⟩ := cut_path ok h1 h2 e
    exact g3 (hm s' g1 g2)
  refine List.pairwise_iff_getElem.mpr fun i j hi hj hij e => ?_
  rw [List.length_map] at hi hj
  rw [List.getElem_map, List.getElem_map] at e
  obtain ⟨u1, A1, l1⟩ := path_at s a i _ ok (List.getElem?_eq_getElem hi)
  obtain ⟨u2, A2, l2⟩ := path_at s a j _ ok (List.getElem?_eq_getElem hj)
  rw [e] at u1
  have ex := hu _ _ _ u1 u2
  rw [ex] at A1
  have c1 := nc i j hij (by omega)
  have c2 := nc i (j + 1) (by omega) (by omega)
  have c3 := nc (i + 1) (j + 1) (by omega) (by omega)
  rw [l2] at c2
  rcases A1 with ⟨p1, p2⟩ | ⟨p1, p2⟩ <;> rcases A2 with ⟨q1, q2⟩ | ⟨q1, q2⟩
  · exact c1 (p1.symm.trans q1)
  · exact c2 (p1.symm.trans q2)
  · exact c2 (p1.symm.trans q2)
  · exact c1 (p1.symm.trans q1)
theorem drive_nodup {s : Office} (w : RoadsOk s) {a b d kg : Nat} {r : List Nat} (ha : a < s.n) (hb : b < s.n) (h : s.drive a b d kg = some r) : (r.drop 2).Nodup := by
  obtain ⟨p, o1, o2, rfl⟩ := walk_path (drive_walk w ha h)
  refine path_nodup (u := uAt s d kg) (a := a) (fun k x y hx hy => (uOf_at hx).2.trans (uOf_at hy).2.symm) o1 fun s' g1 g2 => ?_
  have w' := path_walk s' [] (show Wk (uAt s d kg) a a (pval []) from .nil) g1
  rw [List.nil_append, g2, o2] at w'
  obtain ⟨r', h1, h2⟩ := drive_min w ha hb w'
  rw [h] at h1
  cases h1
  exact h2
/-! ### the most that can be driven -/
theorem fold_min_le (l : List Limit) : ∀ m : Nat, l.foldl (fun (m : Nat) (x : Limit) => min m x.kg) m ≤ m := by
  induction l with
  | nil => intro m; exact Nat.le_refl _
  | cons x l ih => intro m; exact Nat.le_trans (ih _) (Nat.min_le_left _ _)
theorem bears_le {s : Office} {k d : Nat} (hb : ∀ r ∈ s.roads, r.bears ≤ 100000) : s.bears k d ≤ 100000 := by
  unfold TimHaul.Office.bears
  refine Nat.le_trans (fold_min_le _ _) ?_
  cases h : s.roads[k]? with
  | none => exact Nat.zero_le _
  | some r => exact hb r (List.mem_of_getElem? h)
theorem roadsFor_mem {s : Office} {d kg k : Nat} : k ∈ roadsFor s d kg ↔ k < s.roads.length ∧ kg ≤ s.bears k d := by
  rw [roadsFor_eq, List.mem_filter, List.mem_range, decide_eq_true_eq]
theorem most_go (P : Nat → Bool) : ∀ (l : List Nat) (m : Option Nat), (∀ x, m = some x → P x = true) →
    match l.foldl (fun (m : Option Nat) (w : Nat) => if P w = true ∧ m.all (fun (x : Nat) => decide (x < w)) = true then some w else m) m with
    | none => m = none ∧ ∀ w ∈ l, P w = false
    | some y => P y = true ∧ (y ∈ l ∨ m = some y) ∧ (∀ w ∈ l, P w = true → w ≤ y) ∧ ∀ x, m = some x → x ≤ y
  | [], none, _ => ⟨rfl, fun _ h => by simp at h⟩
  | [], some x, h => ⟨h x rfl, .inr rfl, fun _ h => (by simp at h), fun y e => by cases e; exact Nat.le_refl _⟩
  | w :: l, m, h => by
    rw [List.foldl_cons]
    by_cases c : P w = true ∧ m.all (fun (x : Nat) => decide (x < w)) = true
    · rw [if_pos c]
      have ih := most_go P l (some w) (fun x e => by cases e; exact c.1)
      revert ih
      cases l.foldl (fun (m : Option Nat) (w : Nat) => if P w = true ∧ m.all (fun (x : Nat) => decide (x < w)) = true then some w else m) (some w) with
      | none => rintro ⟨z, _⟩; cases z
      | some y =>
        rintro ⟨h1, h2, h3, h4⟩
        have hw := h4 w rfl
        refine ⟨h1, .inl ?_, fun v hv pv => ?_, fun x e => ?_⟩
        · rcases h2 with h2 | h2
          · exact List.mem_cons_of_mem _ h2
          · cases h2; exact List.mem_cons_self
        · rcases List.mem_cons.mp hv with rfl | hv
          · exact hw
          · exact h3 v hv pv
        · subst e
          have : x < w := by simpa using c.2
          omega
    · rw [if_neg c]
      have ih := most_go P l m h
      revert ih
      cases l.foldl (fun (m : Option Nat) (w : Nat) => if P w = true ∧ m.all (fun (x : Nat) => decide (x < w)) = true then some w else m) m with
      | none =>
        rintro ⟨rfl, h2⟩
        refine ⟨rfl, fun v hv => ?_⟩
        rcases List.mem_cons.mp hv with rfl | hv
        · cases q : P v with
          | false => rfl
          | true => exact absurd ⟨q, rfl⟩ c
        · exact h2 v hv
      | some y =>
        rintro ⟨h1, h2, h3, h4⟩
        refine ⟨h1, ?_, fun v hv pv => ?_, h4⟩
        · rcases h2 with h2 | h2
          · exact .inl (List.mem_cons_of_mem _ h2)
          · exact .inr h2
        · rcases List.mem_cons.mp hv with rfl | hv
          · cases m with
            | none => exact absurd ⟨pv, rfl⟩ c
            | some x =>
              have := h4 x rfl
              have c' : ¬ x < v := fun z => c ⟨pv, by simpa using z⟩
              omega
          · exact h3 v hv pv
/-- the most, by its promise -/
theorem most_is {s : Office} {a b d : Nat} : match s.most a b d with
    | none => ∀ w ∈ s.weights d, (s.drive a b d w).isSome = false
    | some y => (s.drive a b d y).isSome = true ∧ y ∈ s.weights d ∧ ∀ w ∈ s.weights d, (s.drive a b d w).isSome = true → w ≤ y := by
  have z := most_go (fun w => (s.drive a b d w).isSome) (s.weights d) none (fun x e => by cases e)
  unfold TimHaul.Office.most
  revert z
  cases (s.weights d).foldl (fun (m : Option Nat) (w : Nat) => if (s.drive a b d w).isSome = true ∧ m.all (fun (x : Nat) => decide (x < w)) = true then some w else m) none with
  | none => rintro ⟨_, h⟩; exact h
  | some y =>
    rintro ⟨h1, h2, h3, _⟩
    exact ⟨h1, h2.resolve_right (fun z => by cases z), h3⟩
theorem weights_mem {s : Office} {d w : Nat} : w ∈ s.weights d ↔ w = 100000 ∨ (∃ k, k < s.roads.length ∧ s.bears k d = w) ∧ 0 < w := by
  unfold TimHaul.Office.weights
  rw [List.mem_cons, List.mem_filter, List.mem_map, decide_eq_true_eq]
  constructor
  · rintro (h | ⟨⟨k, hk, rfl⟩, h2⟩)
    · exact .inl h
    · exact .inr ⟨⟨k, List.mem_range.mp hk, rfl⟩, h2⟩
  · rintro (h | ⟨⟨k, hk, rfl⟩, h2⟩)
    · exact .inl h
    · exact .inr ⟨⟨k, List.mem_range.mpr hk, rfl⟩, h2⟩
theorem most_same {s : Office} (w : Wf s) {a d : Nat} (ha : a < s.n) : s.most a a d = some 100000 := by
  have z := most_is (s := s) (a := a) (b := a) (d := d)
  have h0 : (s.drive a a d 100000).isSome = true := (drive_isSome w.roads ha ha).mpr ⟨_, .nil⟩
  have hm : (100000 : Nat) ∈ s.weights d := weights_mem.mpr (.inl rfl)
  cases q : s.most a a d with
  | none =>
    rw [q] at z
    rw [z _ hm] at h0
    cases h0
  | some y =>
    rw [q] at z
    obtain ⟨_, h2, h3⟩ := z
    have l1 := h3 _ hm h0
    have l2 : y ≤ 100000 := by
      rcases weights_mem.mp h2 with e | ⟨⟨k, _, e⟩, _⟩
      · omega
      · rw [← e]; exact bears_le w.bears
    congr 1
    omega
/-- a drive to another place goes over a road -/
theorem drive_road {s : Office} (w : RoadsOk s) {a b d kg : Nat} (ha : a < s.n) (hab : a ≠ b) (h : (s.drive a b d kg).isSome = true) : ∃ k, k < s.roads.length ∧ kg ≤ s.bears k d := by
  obtain ⟨r, hr⟩ := Option.isSome_iff_exists.mp h
  cases drive_walk w ha hr with
  | nil => exact absurd rfl hab
  | snoc _ hx _ =>
    obtain ⟨hk, _⟩ := uOf_at hx
    exact ⟨_, roadsFor_mem.mp hk⟩
/-- the program's way: the weights falling, the first one with which there's a drive -/
theorem most_find {s : Office} (w : Wf s) {a b d : Nat} (ha : a < s.n) (hab : a ≠ b) {ws : List Nat} (hp : ws.Perm (bl s d)) (hs : ws.Pairwise (· ≥ ·)) : (s.most a b d).getD 0 = (ws.find? fun x => decide (0 < x) && (s.drive a b d x).isSome).getD 0 := by
  have z := most_is (s := s) (a := a) (b := b) (d := d)
  have hmem : ∀ x, x ∈ ws ↔ ∃ k, k < s.roads.length ∧ s.bears k d = x := fun x => by
    rw [hp.mem_iff]
    unfold bl
    rw [List.mem_map]
    exact ⟨fun ⟨k, h1, h2⟩ => ⟨k, List.mem_range.mp h1, h2⟩, fun ⟨k, h1, h2⟩ => ⟨k, List.mem_range.mpr h1, h2⟩⟩
  have win : ∀ x, x ∈ s.weights d → (s.drive a b d x).isSome = true → x ∈ ws ∧ 0 < x := fun x h1 h2 => by
    rcases weights_mem.mp h1 with e | ⟨⟨k, hk, e⟩, h0⟩
    · subst e
      obtain ⟨k, hk, hle⟩ := drive_road w.roads ha hab h2
      have := bears_le (k := k) (d := d) w.bears
      exact ⟨(hmem _).mpr ⟨k, hk, by omega⟩, by decide⟩
    · exact ⟨(hmem _).mpr ⟨k, hk, e⟩, h0⟩
  have wout : ∀ x, x ∈ ws → 0 < x → x ∈ s.weights d := fun x h1 h2 => weights_mem.mpr (.inr ⟨(hmem x).mp h1, h2⟩)
  cases q : ws.find? fun x => decide (0 < x) && (s.drive a b d x).isSome with
  | none =>
    have nf := List.find?_eq_none.mp q
    cases q2 : s.most a b d with
    | none => rfl
    | some y =>
      rw [q2] at z
      obtain ⟨h1, h2, _⟩ := z
      obtain ⟨g1, g2⟩ := win y h2 h1
      exact absurd (by simp [g2, h1]) (nf y g1)
  | some x =>
    obtain ⟨px, as, bs, e, hn⟩ := List.find?_eq_some_iff_append.mp q
    rw [Bool.and_eq_true, decide_eq_true_eq] at px
    have xin : x ∈ ws := by rw [e]; simp
    cases q2 : s.most a b d with
    | none =>
      rw [q2] at z
      rw [z x (wout x xin px.1)] at px
      cases px.2
    | some y =>
      rw [q2] at z
      obtain ⟨h1, h2, h3⟩ := z
      have l1 := h3 x (wout x xin px.1) px.2
      obtain ⟨g1, g2⟩ := win y h2 h1
      rw [e] at g1 hs
      have l2 : y ≤ x := by
        rcases List.mem_append.mp g1 with g | g
        · have := hn y g
          simp [g2, h1] at this
        · rcases List.mem_cons.mp g with g | g
          · omega
          · have := (List.pairwise_cons.mp (List.pairwise_append.mp hs).2.1).1 y g
            exact this
      show y = x
      omega
theorem most_pos {s : Office} {a b d y : Nat} (h : s.most a b d = some y) : 0 < y := by
  have z := most_is (s := s) (a := a) (b := b) (d := d)
  rw [h] at z
  rcases weights_mem.mp z.2.1 with e | ⟨_, h0⟩
  · omega
  · exact h0
/-! ### the roads that every drive takes -/
theorem without_get (s : Office) (k j : Nat) : (s.without k).roads[j]? = (s.roads[j]?).map fun r => if j = k then { r with bears := 0 } else r := by
  unfold TimHaul.Office.without
  show (s.roads.zipIdx.map _)[j]? = _
  rw [List.getElem?_map, List.getElem?_zipIdx]
  cases s.roads[j]? with
  | none => rfl
  | some r => simp
theorem without_len (s : Office) (k : Nat) : (s.without k).roads.length = s.roads.length := by
  unfold TimHaul.Office.without
  show (s.roads.zipIdx.map _).length = _
  rw [List.length_map, List.length_zipIdx]
theorem without_ok {s : Office} (w : RoadsOk s) (k : Nat) : RoadsOk (s.without k) := fun j r h => by
  rw [without_get] at h
  cases q : s.roads[j]? with
  | none => rw [q] at h; cases h
  | some x =>
    rw [q] at h
    cases h
    have := w j x q
    show (if j = k then _ else _ : Road).a < s.n ∧ (if j = k then _ else _ : Road).b < s.n
    split <;> exact this
theorem without_bears (s : Office) (k j d : Nat) : (s.without k).bears j d = if j = k then 0 else s.bears j d := by
  unfold TimHaul.Office.bears
  rw [without_get]
  by_cases h : j = k
  · rw [if_pos h]
    have e : ((Option.map (fun r : Road => r.bears) (Option.map (fun r : Road => if j = k then { r with bears := 0 } else r) s.roads[j]?)).getD 0) = 0 := by
      cases s.roads[j]? with
      | none => rfl
      | some r => simp [h]
    rw [e]
    exact Nat.le_zero.mp (fold_min_le _ _)
  · rw [if_neg h]
    have e : ((Option.map (fun r : Road => r.bears) (Option.map (fun r : Road => if j = k then { r with bears := 0 } else r) s.roads[j]?)).getD 0) = ((s.roads[j]?).map fun r : Road => r.bears).getD 0 := by
      cases s.roads[j]? with
      | none => rfl
      | some r => simp [h]
    rw [e]
    rfl
theorem without_roads (s : Office) (k d : Nat) {kg : Nat} (h : 0 < kg) : roadsFor (s.without k) d kg = (roadsFor s d kg).filter fun j => !decide (j = k) := by
  rw [roadsFor_eq, roadsFor_eq, without_len, List.filter_filter]
  refine List.filter_congr fun j _ => ?_
  rw [without_bears]
  by_cases e : j = k
  · simp [e]; omega
  · simp [e]
/-- whether all drives need a road: the roads' ends and metres are what counts -/
theorem Wk.map {u v : U} {a p : Nat} {d : List Nat} (f : ∀ k x, (k, x) ∈ u → ∃ y, (k, y) ∈ v ∧ y.a = x.a ∧ y.b = x.b ∧ y.metres = x.metres) (w : Wk u a p d) : Wk v a p d := by
  induction w with
  | nil => exact .nil
  | snoc _ hx hA ih =>
    rename_i q p k x d _
    obtain ⟨y, h1, h2, h3, h4⟩ := f k x hx
    rw [← h4]
    refine .snoc ih h1 ?_
    unfold Adj
    rw [h2, h3]
    exact hA
theorem without_get' (s : Office) (k j : Nat) (h : j ≠ k) : (s.without k).roads.getD j ⟨0, 0, 0, 0⟩ = s.roads.getD j ⟨0, 0, 0, 0⟩ := by
  rw [List.getD_eq_getElem?_getD, List.getD_eq_getElem?_getD, without_get]
  cases s.roads[j]? with
  | none => rfl
  | some r => simp [h]
theorem without_u (s : Office) (k d : Nat) {kg : Nat} (h : 0 < kg) : uAt (s.without k) d kg = uOf s ((roadsFor s d kg).filter fun j => !decide (j = k)) := by
  unfold uAt
  rw [without_roads s k d h]
  unfold uOf
  refine List.map_congr_left fun j m => ?_
  have hj := (List.mem_filter.mp m).2
  rw [without_get' s k j (by simpa using hj)]
/-- the program's test: no drive without the road -/
theorem needed_eq {s : Office} (w : RoadsOk s) {a b d kg : Nat} (k : Nat) (ha : a < s.n) (h : 0 < kg) : at' (settle (uOf s ((roadsFor s d kg).filter fun j => !decide (j = k))) s.n (init0 s.n a)) b = (s.without k).drive a b d kg := by
  rw [← without_u s k d h]
  exact drive_eq (s := s.without k) (without_ok w k) ha
theorem must_sub {s : Office} (w : RoadsOk s) {a b d kg : Nat} {r : List Nat} (ha : a < s.n) (hb : b < s.n) (h : 0 < kg) (hr : s.drive a b d kg = some r) {k : Nat} (hk : ((s.without k).drive a b d kg).isNone = true) : k ∈ r.drop 2 := by
  have W := (drive_walk w ha hr).own
  by_cases m : k ∈ r.drop 2
  · exact m
  · exfalso
    have z : ((s.without k).drive a b d kg).isSome = true := (drive_isSome (without_ok w k) ha hb).mpr ⟨r, by
      rw [without_u s k d h]
      refine W.mono fun x hx => ?_
      obtain ⟨j, y⟩ := x
      obtain ⟨h1, h2⟩ := List.mem_filter.mp hx
      obtain ⟨h3, h4⟩ := uOf_at h1
      rw [h4]
      refine uOf_in (List.mem_filter.mpr ⟨h3, ?_⟩)
      simp at h2 ⊢
      intro e
      rw [e] at h2
      exact m h2⟩
    cases q : (s.without k).drive a b d kg with
    | none => rw [q] at z; cases z
    | some x => rw [q] at hk; cases hk
theorem must_perm {s : Office} (w : Wf s) {a b d kg : Nat} {r ns : List Nat} (ha : a < s.n) (hb : b < s.n) (h : 0 < kg) (hr : s.drive a b d kg = some r) (hp : ns.Perm ((r.drop 2).filter fun k => ((s.without k).drive a b d kg).isNone)) (hs : ns.Pairwise (· ≤ ·)) : ns = s.must a b d kg := by
  have nd := drive_nodup w.roads ha hb hr
  have pm : ((r.drop 2).filter fun k => ((s.without k).drive a b d kg).isNone).Perm (s.must a b d kg) := by
    refine (List.perm_ext_iff_of_nodup (List.Pairwise.filter _ nd) (List.Pairwise.filter _ List.nodup_range)).mpr fun k => ?_
    rw [List.mem_filter, List.mem_filter]
    constructor
    · rintro ⟨h1, h2⟩
      refine ⟨?_, h2⟩
      obtain ⟨_, _, _, _, F⟩ := drive_facts w ha hr
      exact List.mem_range.mpr (roadsFor_lt (F k h1))
    · rintro ⟨h1, h2⟩
      exact ⟨must_sub w.roads ha hb h hr h2, h2⟩
  have sm : (s.must a b d kg).Pairwise (· ≤ ·) := by
    unfold TimHaul.Office.must
    exact List.Pairwise.filter _ (List.pairwise_lt_range.imp fun h => Nat.le_of_lt h)
  exact List.Perm.eq_of_pairwise (fun _ _ _ _ h1 h2 => Nat.le_antisymm h1 h2) hs sm (hp.trans pm)
end Th
namespace Th
open PySem PySem.Spec PyProof.Rows L2
open TimHaul (Road Limit Truck Lot Trip Office before)
open Evl (Ex Ev EvL EvT EvA)
section
variable {PP : Program} {w : World} {K : PySem.W.Frag} {mg : Str → Option Value} {base : Heap}
def sp_most_kilograms (K : PySem.W.Frag) : Sp := fun vs H Q _ => ∃ (A : OA) (s : Office) (a b d : Nat), vs = [.ref A.a, .int (a : Int), .int (b : Int), .int (d : Int)] ∧ OffR K H A s ∧ Wf s ∧ a < s.n ∧ b < s.n ∧
  ∀ H', ExD H H' → Q (.int (((s.most a b d).getD 0 : Nat) : Int)) H'
theorem sc_most_kilograms : FnScope (["office", "a", "b", "day", "ways", "kilograms"] : List Str) ["office", "a", "b", "day"] (defScope s_most_kilograms) := ⟨rfl, rfl, rfl, by decide +kernel, rfl, by decide +kernel, by decide +kernel⟩
theorem c_most_kilograms (T : Txt K mg) (C_Ways_init : Cal PP w K mg base 1 (He.ma K (He.ga K "Ways") "__init__") ["self", "office"] (sp_Ways_init K)) (C_Ways_bearings : Cal PP w K mg base 2 (He.ma K (He.ga K "Ways") "bearings") ["self", "day"] (sp_Ways_bearings K)) (C_Ways_drive : Cal PP w K mg base 4 (He.ma K (He.ga K "Ways") "drive") ["self", "a", "b", "day", "kilograms"] (sp_Ways_drive K)) : Cal PP w K mg base 5 (He.ga K "most_kilograms") ["office", "a", "b", "day"] (sp_most_kilograms K) := by
  refine Cal.of T.f_most_kilograms sc_most_kilograms (fun vs H Q E h => ?_) (fun _ _ _ _ _ _ us hl => match us, hl with | [_, _, _, _], _ => rfl) (fun cdv A outer s H vs Q E hr h => ?_)
  · obtain ⟨A, s, a, b, d, rfl, O, wf, ha, hb, k⟩ := h
    rfl
  · obtain ⟨A, s, a, b, d, rfl, O, wf, ha, hb, k⟩ := h
    refine ⟨_, (pss_cons (ps_if (pt_cmpR op_eq (pv 1) (pv 2) (nomark _)) (pss_one (ps_ret (pe_gint T.i_MOST_KILOGRAMS (by rfl)))) pss_nil)
      (pss_cons (ps_set (i := 4) sc_most_kilograms.nd rfl (Or.inl rfl) (pe_cmake T.k_Ways C_Ways_init (hr.mono (by decide)) (by rfl) T.g_Ways (pa_cons (pv 0) pa_nil)))
      (pss_cons (ps_for PassesOwn.never rfl (pi_list (pe_callBK (cr_sortedRev (b := true)) (by rfl) T.n_sorted (by decide +kernel) (pa_cons (pe_cmeth (pv 4) T.c_Ways T.m_Ways_bearings C_Ways_bearings (hr.mono (by decide)) (pa_cons (pv 3) pa_nil)) pa_nil) (pk_cons pe_bl pk_nil))) (pg_name (i := 5) sc_most_kilograms.nd rfl (Or.inl rfl))
      (pss_one (ps_if (PW.pt (pw_and (pt_cmpR op_gt (pv 5) pe_int (nomark _)) (pw_and1 (pt_cmpR op_notN (pe_cmeth (pv 4) T.c_Ways T.m_Ways_drive C_Ways_drive (hr.mono (by decide)) (pa_cons (pv 1) (pa_cons (pv 2) (pa_cons (pv 3) (pa_cons (pv 5) pa_nil))))) pe_non (nomark _))))) (pss_one (ps_ret (pv 5))) pss_nil)))
      (pss_one (ps_ret pe_int))))), ?_⟩
    refine Evl.q_when (Evl.et_test (ev_eqI (Evl.ev_var rfl) (Evl.ev_var rfl))) (fun hd H1 e1 => ?_) (fun hd H1 e1 => ?_)
    · refine Evl.s_ret Evl.ev_c fun H2 e2 => ?_
      have hab : a = b := by simp at hd; omega
      subst hab
      have z := k H2 (exD_of (e1.trans e2))
      rw [most_same wf ha] at z
      exact z
    have hab : a ≠ b := by simp at hd; omega
    refine q_asgK (ways_made (O.ex e1) wf (Evl.ev_var rfl) fun W H2 e2 wa => ?_)
    refine q_forK ?_
    refine ⟨_, rfl, W.w, W.dx, _, rfl, wa.obj, lWays_bearings _ _ _, _, rfl, W, A, s, 0, d, rfl, wa, by decide, fun p H3 e3 wa3 h3 => ?_⟩
    dsimp only
    refine ⟨p, (bl s d).map fun n : Nat => (n : Int), rfl, rfl, SqL.of (by rw [h3, nv_ints]), fun ns p2 hp ho np2 => ?_⟩
    obtain ⟨hp1, hp2⟩ := perm_nat hp
    have hs : (ns.map Int.toNat).Pairwise (· ≥ ·) := nats_ge (by simpa [OrdB] using ho)
    rw [hp2]
    generalize ns.map Int.toNat = ws at hp1 hs
    rw [most_find wf ha hab hp1 hs] at k
    have hwl : ws.length ≤ 32 := by
      rw [hp1.length_eq, bl_len]
      exact wf.r32
    have x3 : ExD H H3 := (exD_of (e1.trans e2)).trans e3
    refine ⟨p2, rfl, ⟨_, SqL.of upd_same⟩, ?_⟩
    refine loop_list (K := K) (xs := (ws.map fun n : Nat => (n : Int)).map V.int) (fun i σ H' => (∃ v, σ = [some (.ref A.a), some (.int (a : Int)), some (.int (b : Int)), some (.int (d : Int)), some (.ref W.w), v]) ∧ ExD H H' ∧ WaysAt K H' W A s (1 + 2 * i) ∧ H' p2 = some (.lst ((ws.map fun n : Nat => (n : Int)).map V.int)) ∧ ∀ x ∈ ws.take i, (decide (0 < x) && (s.drive a b d x).isSome) = false) ?_ (fun i σ H' _ p => SqL.of p.2.2.2.1) (fun i v σ H' hv p => ?_) (fun σ H' p => ?_)
    · exact ⟨⟨none, rfl⟩, x3.ex (ex_upd np2), wa3.ex (ex_upd np2), upd_same, fun x m => by simp at m⟩
    · obtain ⟨⟨v0, rfl⟩, e, wa', hl, hn⟩ := p
      rw [List.getElem?_map, List.getElem?_map] at hv
      cases q : ws[i]? with
      | none => rw [q] at hv; cases hv
      | some x =>
        rw [q] at hv
        cases hv
        have hi : i < ws.length := (List.getElem?_eq_some_iff.mp q).1
        have tk : ∀ y ∈ ws.take (i + 1), y ∈ ws.take i ∨ y = x := fun y m => by
          rw [take_snoc q] at m
          exact mem_snoc m
        have next : ∀ H4, ExD H' H4 → WaysAt K H4 W A s (1 + 2 * (i + 1)) → (decide (0 < x) && (s.drive a b d x).isSome) = false →
            (∃ v, [some (.ref A.a), some (.int (a : Int)), some (.int (b : Int)), some (.int (d : Int)), some (.ref W.w), some (.int (x : Int))] = [some (.ref A.a), some (.int (a : Int)), some (.int (b : Int)), some (.int (d : Int)), some (V.ref W.w), v]) ∧ ExD H H4 ∧ WaysAt K H4 W A s (1 + 2 * (i + 1)) ∧ H4 p2 = some (.lst ((ws.map fun n : Nat => (n : Int)).map V.int)) ∧ ∀ x ∈ ws.take (i + 1), (decide (0 < x) && (s.drive a b d x).isSome) = false :=
          fun H4 e4 w4 hc => ⟨⟨_, rfl⟩, e.trans e4, w4, e4 _ _ hl rfl, fun y m => by
            rcases tk y m with m | m
            · exact hn y m
            · rw [m]; exact hc⟩
        have go : Ev (tOp (rI0 fun i j => V.bl (decide (j < i))) (tVar 5) (tC (V.int 0))) [some (.ref A.a), some (.int (a : Int)), some (.int (b : Int)), some (.int (d : Int)), some (.ref W.w), some (.int (x : Int))] H' (.bl (decide (0 < x))) := Evl.ev_is (Evl.ev_op (Evl.ev_var rfl) Evl.ev_c Evl.rv_I0) (congrArg V.bl (decide_eq_decide.mpr (by omega)))
        refine k_test (tt := tTest _) (Evl.et_test go) fun H4 e4 => ?_
        by_cases h0 : 0 < x
        · rw [decide_eq_true h0]
          dsimp only
          refine ite_t rfl ?_
          refine ⟨_, rfl, W.w, W.dx, _, rfl, wa'.obj |> e4 _ _, lWays_drive _ _ _, _, rfl, _, rfl, _, rfl, _, rfl, W, A, s, _, a, b, d, x, rfl, wa'.ex e4, by omega, ha, hb, fun v H5 e5 wa5 dv => ?_⟩
          refine ⟨rfl, _, rfl, ?_⟩
          have hd : decide (v = V.non) = !(s.drive a b d x).isSome := by
            cases q2 : s.drive a b d x with
            | none =>
              rw [q2] at dv
              have z : v = .non := dv
              rw [z]; rfl
            | some r =>
              rw [q2] at dv
              obtain ⟨_, _, _, _, _, _, z, _⟩ := dv
              rw [z]; rfl
          rw [hd, Bool.not_not]
          cases hc : (s.drive a b d x).isSome with
          | true =>
            refine ite_t rfl ?_
            refine ⟨_, rfl, ?_⟩
            have z := k H5 ((e.ex e4).trans e5)
            have f : ws.find? (fun x => decide (0 < x) && (s.drive a b d x).isSome) = some x := by
              refine List.find?_eq_some_iff_append.mpr ⟨by simp [h0, hc], ws.take i, ws.drop (i + 1), ?_, fun y m => by rw [hn y m]; rfl⟩
              exact split_at' q
            rw [f] at z
            exact z
          | false =>
            refine ite_f rfl ?_
            exact next H5 ((exD_of e4).trans e5) wa5 (by rw [hc, Bool.and_false])
        · rw [decide_eq_false h0]
          refine ite_f rfl ?_
          refine ite_f rfl ?_
          exact next H4 (exD_of e4) ((wa'.ex e4).le (by omega)) (by rw [decide_eq_false h0]; rfl)
    · obtain ⟨⟨v0, rfl⟩, e, wa', hl, hn⟩ := p
      refine Evl.s_ret Evl.ev_c fun H4 e4 => ?_
      have z := k H4 (e.ex e4)
      have f : ws.find? (fun x => decide (0 < x) && (s.drive a b d x).isSome) = none := by
        refine List.find?_eq_none.mpr fun y m => ?_
        rw [hn y (by rw [List.length_map, List.length_map, List.take_length]; exact m)]
        decide
      rw [f] at z
      exact z
end
end Th
namespace Th
open PySem PySem.Spec PyProof.Rows L2
open TimHaul (Road Limit Truck Lot Trip Office before)
open Evl (Ex Ev EvL EvT EvA)
section
variable {PP : Program} {w : World} {K : PySem.W.Frag} {mg : Str → Option Value} {base : Heap}
def sp_tell_most (K : PySem.W.Frag) : Sp := fun vs H Q _ => ∃ (G : Hp) (A : OA) (s : Office) (rn : Addr) (a b d : Nat), vs = [.ref A.a, .ref rn] ∧ OffM K G H A s ∧ H rn = some (.lst (nv [a, b, d])) ∧ WrtihaSpec.right (.most a b d) = true ∧ Done K (.most a b d) G H A s Q
theorem sc_tell_most : FnScope (["office", "numbers", "a", "b", "day", "kilograms"] : List Str) ["office", "numbers"] (defScope s_tell_most) := ⟨rfl, rfl, rfl, by decide +kernel, rfl, by decide +kernel, by decide +kernel⟩
theorem c_tell_most (T : Txt K mg) (C_Office_has_place : Cal PP w K mg base 1 (He.ma K (He.ga K "Office") "has_place") ["self", "place"] (sp_Office_has_place K)) (C_most_kilograms : Cal PP w K mg base 5 (He.ga K "most_kilograms") ["office", "a", "b", "day"] (sp_most_kilograms K)) : Cal PP w K mg base 6 (He.ga K "tell_most") ["office", "numbers"] (sp_tell_most K) := by
  refine Cal.of T.f_tell_most sc_tell_most (fun vs H Q E h => ?_) (fun _ _ _ _ _ _ us hl => match us, hl with | [_, _], _ => rfl) (fun cdv A outer s H vs Q E hr h => ?_)
  · obtain ⟨G, A, s, rn, a, b, d, rfl, O, hn, hg, k⟩ := h
    rfl
  · obtain ⟨G, A, s, rn, a, b, d, rfl, O, hn, hg, k⟩ := h
    refine ⟨_, (pss_cons (ps_asg (pv 1) (pg_unl rfl (pgs_cons (pg_name (i := 2) sc_tell_most.nd rfl (Or.inl rfl)) (pgs_cons (pg_name (i := 3) sc_tell_most.nd rfl (Or.inl rfl)) (pgs_cons (pg_name (i := 4) sc_tell_most.nd rfl (Or.inl rfl)) pgs_nil)))))
      (pss_cons (ps_if (PW.pt (pw_or (pt_not (pt_val (pe_cmeth (pv 0) T.c_Office T.m_Office_has_place C_Office_has_place (hr.mono (by decide)) (pa_cons (pv 2) pa_nil)))) (pw_or1 (pt_not (pt_val (pe_cmeth (pv 0) T.c_Office T.m_Office_has_place C_Office_has_place (hr.mono (by decide)) (pa_cons (pv 3) pa_nil))))))) (pss_one (ps_ret (pe_lst (pa_cons (pe_gint T.i_NOT_THERE (by rfl)) pa_nil)))) pss_nil)
      (pss_cons (ps_set (i := 5) sc_tell_most.nd rfl (Or.inl rfl) (pe_cal C_most_kilograms (hr.mono (by decide)) (by rfl) T.g_most_kilograms (pa_cons (pv 0) (pa_cons (pv 2) (pa_cons (pv 3) (pa_cons (pv 4) pa_nil))))))
      (pss_cons (ps_if (pt_cmpR op_eq (pv 5) pe_int (nomark _)) (pss_one (ps_ret (pe_lst (pa_cons (pe_gint T.i_CANNOT_BE (by rfl)) pa_nil)))) pss_nil)
      (pss_one (ps_ret (pe_lst (pa_cons pe_int (pa_cons (pv 5) pa_nil))))))))), ?_⟩
    refine ⟨_, rfl, rn, _, rfl, SqL.of hn, rfl, _, _, rfl, _, _, rfl, _, _, rfl, rfl, ?_⟩
    refine Evl.q_when (Evl.et_or (Evl.et_not (Evl.et_B (ev_has_place O.offR (Evl.ev_var rfl) (Evl.ev_var rfl)))) fun _ => Evl.et_not (Evl.et_B (ev_has_place O.offR (Evl.ev_var rfl) (Evl.ev_var rfl)))) (fun hc H1 e1 => ?_) (fun hc H1 e1 => ?_)
    · refine s_no rfl (exD_of e1) k O ?_
      show (s, if s.n ≤ a ∨ s.n ≤ b then _ else _) = _
      rw [if_pos (by simp at hc; omega)]
    have hp : ¬ (s.n ≤ a ∨ s.n ≤ b) := by simp at hc; omega
    have O1 := O.query (exD_of e1)
    have ea : EvA (tCons (tVar 0) (tCons (tVar 2) (tCons (tVar 3) (tCons (tVar 4) tNil)))) [some (.ref A.a), some (.ref rn), some (.int (a : Int)), some (.int (b : Int)), some (.int (d : Int)), none] H1 [.ref A.a, .int (a : Int), .int (b : Int), .int (d : Int)] := Evl.ea_cons (Evl.ev_var rfl) (Evl.ea_cons (Evl.ev_var rfl) (ea_two (Evl.ev_var rfl) (Evl.ev_var rfl)))
    refine q_asgK (k_call ea fun H2 e2 => ?_)
    refine ⟨A, s, a, b, d, rfl, O1.offR.ex e2, O.wf, by omega, by omega, fun H3 e3 => ?_⟩
    have x3 : ExD H H3 := (exD_of (e1.trans e2)).trans e3
    cases q : s.most a b d with
    | none =>
      refine Evl.q_when (Evl.et_test (ev_eqI (Evl.ev_var rfl) Evl.ev_c)) (fun hv H4 e4 => ?_) (fun hv H4 e4 => by cases hv)
      refine s_no rfl (x3.ex e4) k O ?_
      show (s, if s.n ≤ a ∨ s.n ≤ b then _ else _) = _
      rw [if_neg hp, q]
    | some y =>
      have y0 := most_pos q
      refine Evl.q_when (Evl.et_test (ev_eqI (Evl.ev_var rfl) Evl.ev_c)) (fun hv H4 e4 => ?_) (fun hv H4 e4 => ?_)
      · exfalso
        have z : ((y : Nat) : Int) = 0 := of_decide_eq_true hv
        omega
      · refine s_tells (Q := Q) (l := [y]) rfl (x3.ex e4) k O ?_ ?_
        · show (s, if s.n ≤ a ∨ s.n ≤ b then _ else _) = _
          rw [if_neg hp, q]
        · exact Evl.el_lst (ea_two Evl.ev_c (Evl.ev_var rfl)) (by show 2 ≤ 100000; decide)
end
end Th
namespace Th
open PySem PySem.Spec PyProof.Rows L2
open TimHaul (Road Limit Truck Lot Trip Office before)
open Evl (Ex Ev EvL EvT EvA)
section
variable {PP : Program} {w : World} {K : PySem.W.Frag} {mg : Str → Option Value} {base : Heap}
def sp_is_needed (K : PySem.W.Frag) : Sp := fun vs H Q _ => ∃ (A : OA) (s : Office) (a b d kg k : Nat) (rr : Addr), vs = [.ref A.a, .int (a : Int), .int (b : Int), .ref rr, .int (k : Int)] ∧ OffR K H A s ∧ Wf s ∧ a < s.n ∧ b < s.n ∧ 0 < kg ∧ H rr = some (.lst (nv (roadsFor s d kg))) ∧
  ∀ H', Ex H H' → Q (.bl ((s.without k).drive a b d kg).isNone) H'
theorem sc_is_needed : FnScope (["office", "a", "b", "roads", "road", "others", "other"] : List Str) ["office", "a", "b", "roads", "road"] (defScope s_is_needed) := ⟨rfl, rfl, rfl, by decide +kernel, rfl, by decide +kernel, by decide +kernel⟩
theorem c_is_needed (T : Txt K mg) (C_shortest_from : Cal PP w K mg base 3 (He.ga K "shortest_from") ["office", "start", "roads"] (sp_shortest_from K)) : Cal PP w K mg base 4 (He.ga K "is_needed") ["office", "a", "b", "roads", "road"] (sp_is_needed K) := by
  refine Cal.of T.f_is_needed sc_is_needed (fun vs H Q E h => ?_) (fun _ _ _ _ _ _ us hl => match us, hl with | [_, _, _, _, _], _ => rfl) (fun cdv A outer s H vs Q E hr h => ?_)
  · obtain ⟨A, s, a, b, d, kg, r, rr, rfl, O, wf, ha, hb, h0, hr', k⟩ := h
    rfl
  · obtain ⟨A, s, a, b, d, kg, r, rr, rfl, O, wf, ha, hb, h0, hr', k⟩ := h
    refine ⟨_, (pss_cons (ps_setLc (i := 5) (own := [("other", 6)]) (g := (gName 6)) (tt := (tTest (tOp rNe (tVar 6) (tVar 4)))) (te := (tVar 6)) rfl sc_is_needed.nd rfl rfl (sw_true rfl rfl rfl (by decide +kernel)) (pi_list (pv 3)) (blkOk_by (own := [("other", 6)]) (N := (["office", "a", "b", "roads", "road", "others", "other"] : List Str)) (sc := defScope s_is_needed) (by decide +kernel)) (fun _ _ _ _ _ => (pg_name (i := 6) sc_is_needed.nd rfl (Or.inl rfl))) (fun _ _ _ _ _ => pts_one (pt_cmpR op_ne (pv 6) (pv 4) (nomark _))) (fun _ _ _ _ _ => (pv 6)))
      (pss_one (ps_ret (pe_cmpR op_isN (pe_ix ix_list (pe_cal C_shortest_from (hr.mono (by decide)) (by rfl) T.g_shortest_from (pa_cons (pv 0) (pa_cons (pv 1) (pa_cons (pv 5) pa_nil)))) (pv 2) (fun _ _ => rfl)) pe_non (nomark _))))), ?_⟩
    have hl : (roadsFor s d kg).length ≤ 32 := Nat.le_trans (roadsFor_len _ _ _) wf.r32
    refine Evl.q_asgL (el_list (K := K) (a := rr) (ls := roadsFor s d kg) (r := fun n : Nat => V.int (n : Int)) (fun j => !decide (j = r)) (fun j => .int (j : Int)) (Evl.ev_var rfl) (SqL.of hr') (by omega) (by intro _; rfl) (fun y hy H1 e1 => ?_) (fun y hy H1 e1 _ => Evl.ev_var rfl)) (fun p H1 np e1 h1 => ?_)
    · refine Evl.et_is (Evl.et_test (ev_neI (Evl.ev_var rfl) (Evl.ev_var rfl))) (congrArg not (decide_eq_decide.mpr (by omega)))
    refine s_retG (Q := Q) rfl (k_op (k_call (vs := [.ref A.a, .int (a : Int), .ref p]) (Evl.ea_cons (Evl.ev_var rfl) (ea_two (Evl.ev_var rfl) (Evl.ev_var rfl))) fun H2 e2 => ?_))
    refine ⟨A, s, a, p, (roadsFor s d kg).filter (fun j => !decide (j = r)), rfl, O.ex (e1.trans e2), wf.roads, wf.n16, ha, SqL.of (e2 _ _ h1), fun j m => roadsFor_lt (List.mem_filter.mp m).1, Nat.le_trans (List.length_filter_le _ _) (by omega), fun p3 H3 ys np3 e3 h3 hA => ?_⟩
    have lt : b < (settle (uOf s ((roadsFor s d kg).filter fun j => !decide (j = r))) s.n (init0 s.n a)).length := by
      rw [(settle_full (uOf_ok wf.roads fun j m => roadsFor_lt (List.mem_filter.mp m).1) ha).1]
      exact hb
    obtain ⟨v, hv, hd⟩ := hA.2 b _ (tab_at lt)
    rw [needed_eq wf.roads r ha h0] at hd
    refine ⟨_, rfl, p3, ys, _, v, rfl, rfl, SqL.of h3, atI_nat hv, rfl, ?_⟩
    have z := k H3 ((e1.trans e2).trans e3)
    cases q : (s.without r).drive a b d kg with
    | none =>
      rw [q] at hd z
      have e : v = .non := hd
      rw [e]
      exact z
    | some x =>
      rw [q] at hd z
      obtain ⟨_, _, _, _, _, _, e, _⟩ := hd
      rw [e]
      exact z
end
end Th
namespace Th
open PySem PySem.Spec PyProof.Rows L2
open TimHaul (Road Limit Truck Lot Trip Office before)
open Evl (Ex Ev EvL EvT EvA)
section
variable {PP : Program} {w : World} {K : PySem.W.Frag} {mg : Str → Option Value} {base : Heap}
def sp_tell_must (K : PySem.W.Frag) : Sp := fun vs H Q _ => ∃ (G : Hp) (A : OA) (s : Office) (rn : Addr) (a b d kg : Nat), vs = [.ref A.a, .ref rn] ∧ OffM K G H A s ∧ H rn = some (.lst (nv [a, b, d, kg])) ∧ WrtihaSpec.right (.must a b d kg) = true ∧ Done K (.must a b d kg) G H A s Q
theorem sc_tell_must : FnScope (["office", "numbers", "a", "b", "day", "kilograms", "ways", "drive", "roads", "road"] : List Str) ["office", "numbers"] (defScope s_tell_must) := ⟨rfl, rfl, rfl, by decide +kernel, rfl, by decide +kernel, by decide +kernel⟩
theorem c_tell_must (T : Txt K mg) (C_Office_has_place : Cal PP w K mg base 1 (He.ma K (He.ga K "Office") "has_place") ["self", "place"] (sp_Office_has_place K)) (C_Ways_init : Cal PP w K mg base 1 (He.ma K (He.ga K "Ways") "__init__") ["self", "office"] (sp_Ways_init K)) (C_Ways_drive : Cal PP w K mg base 4 (He.ma K (He.ga K "Ways") "drive") ["self", "a", "b", "day", "kilograms"] (sp_Ways_drive K)) (C_Ways_roads_for : Cal PP w K mg base 3 (He.ma K (He.ga K "Ways") "roads_for") ["self", "day", "kilograms"] (sp_Ways_roads_for K)) (C_is_needed : Cal PP w K mg base 4 (He.ga K "is_needed") ["office", "a", "b", "roads", "road"] (sp_is_needed K)) : Cal PP w K mg base 5 (He.ga K "tell_must") ["office", "numbers"] (sp_tell_must K) := by
  refine Cal.of T.f_tell_must sc_tell_must (fun vs H Q E h => ?_) (fun _ _ _ _ _ _ us hl => match us, hl with | [_, _], _ => rfl) (fun cdv A outer s H vs Q E hr h => ?_)
  · obtain ⟨G, A, s, rn, a, b, d, kg, rfl, O, hn, hg, k⟩ := h
    rfl
  · obtain ⟨G, A, s, rn, a, b, d, kg, rfl, O, hn, hg, k⟩ := h
    refine ⟨_, (pss_cons (ps_asg (pv 1) (pg_unl rfl (pgs_cons (pg_name (i := 2) sc_tell_must.nd rfl (Or.inr rfl)) (pgs_cons (pg_name (i := 3) sc_tell_must.nd rfl (Or.inr rfl)) (pgs_cons (pg_name (i := 4) sc_tell_must.nd rfl (Or.inl rfl)) (pgs_cons (pg_name (i := 5) sc_tell_must.nd rfl (Or.inl rfl)) pgs_nil))))))
      (pss_cons (ps_if (PW.pt (pw_or (pt_not (pt_val (pe_cmeth (pv 0) T.c_Office T.m_Office_has_place C_Office_has_place (hr.mono (by decide)) (pa_cons (pv 2) pa_nil)))) (pw_or1 (pt_not (pt_val (pe_cmeth (pv 0) T.c_Office T.m_Office_has_place C_Office_has_place (hr.mono (by decide)) (pa_cons (pv 3) pa_nil))))))) (pss_one (ps_ret (pe_lst (pa_cons (pe_gint T.i_NOT_THERE (by rfl)) pa_nil)))) pss_nil)
      (pss_cons (ps_set (i := 6) sc_tell_must.nd rfl (Or.inl rfl) (pe_cmake T.k_Ways C_Ways_init (hr.mono (by decide)) (by rfl) T.g_Ways (pa_cons (pv 0) pa_nil)))
      (pss_cons (ps_set (i := 7) sc_tell_must.nd rfl (Or.inl rfl) (pe_cmeth (pv 6) T.c_Ways T.m_Ways_drive C_Ways_drive (hr.mono (by decide)) (pa_cons (pv 2) (pa_cons (pv 3) (pa_cons (pv 4) (pa_cons (pv 5) pa_nil))))))
      (pss_cons (ps_if (pt_cmpR op_isN (pv 7) pe_non (nomark _)) (pss_one (ps_ret (pe_lst (pa_cons (pe_gint T.i_CANNOT_BE (by rfl)) pa_nil)))) pss_nil)
      (pss_cons (ps_set (i := 8) sc_tell_must.nd rfl (Or.inr rfl) (pe_cmeth (pv 6) T.c_Ways T.m_Ways_roads_for C_Ways_roads_for (hr.mono (by decide)) (pa_cons (pv 4) (pa_cons (pv 5) pa_nil))))
      (pss_one (ps_ret (pe_op op_cat (pe_lst (pa_cons pe_int pa_nil)) (pe_callB cr_sortedI (by rfl) T.n_sorted (by decide +kernel) (pa_cons (pe_lc (own := [("road", 9)]) (g := (gName 9)) (tt := (tB (tCall (sp_is_needed K) [] E0 (tCons (tVar 0) (tCons (tVar 2) (tCons (tVar 3) (tCons (tVar 8) (tCons (tVar 9) tNil)))))))) (te := (tVar 9)) rfl sc_tell_must.nd (pi_list (pe_ix ix_tup (pv 7) pe_int (fun _ _ => rfl))) (blkOk_by (own := [("road", 9)]) (N := (["office", "numbers", "a", "b", "day", "kilograms", "ways", "drive", "roads", "road"] : List Str)) (sc := defScope s_tell_must) (by decide +kernel)) (fun _ _ _ _ _ => (pg_name (i := 9) sc_tell_must.nd rfl (Or.inl rfl))) (fun _ _ _ _ _ => pts_one (pt_val (pe_cal C_is_needed (hr.mono (by decide)) (by rfl) T.g_is_needed (pa_cons (pv 0) (pa_cons (pv 2) (pa_cons (pv 3) (pa_cons (pv 8) (pa_cons (pv 9) pa_nil)))))))) (fun _ _ _ _ _ => (pv 9))) pa_nil))))))))))), ?_⟩
    have h0 : 0 < kg := by
      have z := (Bool.and_eq_true_iff.mp ((Bool.and_eq_true_iff.mp ((Bool.and_eq_true_iff.mp hg).2)).2)).2
      have z2 := (Bool.and_eq_true_iff.mp z).1
      have := of_decide_eq_true z2
      omega
    refine ⟨_, rfl, rn, _, rfl, SqL.of hn, rfl, _, _, rfl, _, _, rfl, _, _, rfl, _, _, rfl, rfl, ?_⟩
    refine Evl.q_when (Evl.et_or (Evl.et_not (Evl.et_B (ev_has_place O.offR (Evl.ev_var rfl) (Evl.ev_var rfl)))) fun _ => Evl.et_not (Evl.et_B (ev_has_place O.offR (Evl.ev_var rfl) (Evl.ev_var rfl)))) (fun hc H1 e1 => ?_) (fun hc H1 e1 => ?_)
    · refine s_no rfl (exD_of e1) k O ?_
      show (s, if s.n ≤ a ∨ s.n ≤ b then _ else _) = _
      rw [if_pos (by simp at hc; omega)]
    have hp : ¬ (s.n ≤ a ∨ s.n ≤ b) := by simp at hc; omega
    have ha : a < s.n := by omega
    have hb : b < s.n := by omega
    have O1 := O.query (exD_of e1)
    refine q_asgK (ways_made O1.offR O.wf (Evl.ev_var rfl) fun W H2 e2 wa => ?_)
    refine q_asgK ?_
    refine ⟨_, rfl, W.w, W.dx, _, rfl, wa.obj, lWays_drive _ _ _, _, rfl, _, rfl, _, rfl, _, rfl, ?_⟩
    refine ⟨W, A, s, 0, a, b, d, kg, rfl, wa, by decide, ha, hb, fun v H3 e3 wa3 dv => ?_⟩
    have x3 : ExD H H3 := (exD_of (e1.trans e2)).trans e3
    refine Evl.q_when (b := decide (v = .non)) (Evl.et_test (Evl.ev_op (Evl.ev_var rfl) Evl.ev_c (Evl.rv_val fun H1 _ Q q => ⟨rfl, q⟩))) (fun hv H4 e4 => ?_) (fun hv H4 e4 => ?_)
    · refine s_no rfl (x3.ex e4) k O ?_
      show (s, if s.n ≤ a ∨ s.n ≤ b then _ else if (s.drive a b d kg).isNone = true then _ else _) = _
      rw [if_neg hp, if_pos]
      cases q : s.drive a b d kg with
      | none => rfl
      | some r =>
        rw [q] at dv
        obtain ⟨p, l, x, y, r', _, h3, _⟩ := dv
        rw [h3] at hv
        cases hv
    · cases q : s.drive a b d kg with
      | none =>
        rw [q] at dv
        have z : v = .non := dv
        rw [z] at hv
        cases hv
      | some r =>
        obtain ⟨_, _, _, fl, _⟩ := drive_facts O.wf ha q
        rw [q] at dv
        obtain ⟨p, l, x, y, r', rfl, rfl, h3, h4⟩ := dv
        have fl' : r'.length ≤ 2000 := fl
        refine q_asgK ?_
        refine ⟨_, rfl, W.w, W.dx, _, rfl, e4 _ _ wa3.obj, lWays_roads_for _ _ _, _, rfl, _, rfl, W, A, s, _, d, kg, rfl, wa3.ex e4, by decide, fun p5 H5 e5 wa5 h5 => ?_⟩
        have x5 : ExD H H5 := (x3.ex e4).trans e5
        have hb5 : H5 p = some (.tup [.int (x : Nat), .int (y : Nat), .ref l]) := e5 _ _ (e4 _ _ h3) rfl
        have hl5 : H5 l = some (.lst (nv r')) := e5 _ _ (e4 _ _ h4) rfl
        dsimp only
        have hs : WrtihaSpec.does s (.must a b d kg) = (s, WrtihaSpec.tells (s.must a b d kg)) := by
          show (s, if s.n ≤ a ∨ s.n ≤ b then _ else if (s.drive a b d kg).isNone = true then _ else _) = _
          rw [if_neg hp, q]
          rfl
        refine s_tells (Q := Q) (l := s.must a b d kg) rfl x5 k O hs ?_
        refine el_cat (xs := [.int 0]) (ys := nv (s.must a b d kg)) (Evl.el_lst (ea_one Evl.ev_c) (by show 1 ≤ 100000; decide)) (el_sorted (l := r'.filter fun k => ((s.without k).drive a b d kg).isNone) (el_list (K := K) (a := l) (ls := r') (r := fun n : Nat => V.int (n : Int)) (fun k => ((s.without k).drive a b d kg).isNone) (fun k => .int (k : Int)) (Evl.ev_op (Evl.ev_var rfl) Evl.ev_c (Evl.rv_ixT (SqT.of hb5) rfl)) (SqL.of hl5) (by omega) (by intro _; rfl) (fun j hj H7 e7 => ?_) (fun j hj H7 e7 _ => Evl.ev_var rfl)) fun ns g1 g2 => must_perm O.wf ha hb h0 q g1 g2) ?_
        · exact Evl.et_B (ev_fn (vs := [.ref A.a, .int (a : Int), .int (b : Int), .ref p5, .int (j : Int)]) (Evl.ea_cons (Evl.ev_var rfl) (Evl.ea_cons (Evl.ev_var rfl) (Evl.ea_cons (Evl.ev_var rfl) (ea_two (Evl.ev_var rfl) (Evl.ev_var rfl))))) fun H8 e8 Q8 q8 => ⟨A, s, a, b, d, kg, j, p5, rfl, wa5.off.ex (e7.trans e8), O.wf, ha, hb, h0, (e7.trans e8) _ _ h5, q8⟩)
        · rw [nv_len]
          have : (s.must a b d kg).length ≤ s.roads.length := by
            unfold TimHaul.Office.must
            exact Nat.le_trans (List.length_filter_le _ _) (by rw [List.length_range]; exact Nat.le_refl _)
          have := O.wf.r32
          show 1 + _ ≤ _
          omega
end
end Th
namespace Th
open PySem PySem.Spec PyProof.Rows L2
open TimHaul (Road Limit Truck Lot Trip Office before)
open Evl (Ex Ev EvL EvT EvA)
section
variable {PP : Program} {w : World} {K : PySem.W.Frag} {mg : Str → Option Value} {base : Heap}
def sp_Office_has_trip (K : PySem.W.Frag) : Sp := fun vs H Q _ => ∃ (A : OA) (s : Office) (i : Nat), vs = [.ref A.a, .int (i : Int)] ∧ OffR K H A s ∧ Q (.bl (decide (i < s.trips.length))) H
theorem ev_has_trip {K : PySem.W.Frag} {σ : L2.St} {H : Hp} {A : OA} {s : Office} {ta tb : TE} {i : Nat} (O : OffR K H A s) (h : Ev ta σ H (.ref A.a)) (hi : Ev tb σ H (.int (i : Int))) : Ev (tMeth (He.ga K "Office") "has_trip" (sp_Office_has_trip K) [] E0 ta (tCons tb tNil)) σ H (.bl (decide (i < s.trips.length))) :=
  ev_meth h O.obj (lOffice_has_trip _ _) (ea_one hi) fun H1 e Q q => ⟨A, s, i, rfl, O.ex e, q H1 (Ex.refl _)⟩
theorem sc_Office_has_trip : FnScope (["self", "trip"] : List Str) ["self", "trip"] (defScope s_Office_has_trip) := ⟨rfl, rfl, rfl, by decide +kernel, rfl, by decide +kernel, by decide +kernel⟩
theorem c_Office_has_trip (T : Txt K mg) : Cal PP w K mg base 1 (He.ma K (He.ga K "Office") "has_trip") ["self", "trip"] (sp_Office_has_trip K) := by
  refine Cal.of T.f_Office_has_trip sc_Office_has_trip (fun vs H Q E h => ?_) (fun _ _ _ _ _ _ us hl => match us, hl with | [_, _], _ => rfl) (fun cdv A outer s H vs Q E hr h => ?_)
  · obtain ⟨A, s, i, rfl, O, k⟩ := h
    rfl
  · obtain ⟨A, s, i, rfl, O, k⟩ := h
    refine ⟨_, (pss_one (ps_ret (pe_cmpR op_lt (pv 1) (pe_callB cr_len (by rfl) T.n_len (by decide +kernel) (pa_cons (pe_fld (pv 0) rfl) pa_nil)) (nomark _)))), ?_⟩
    refine ⟨_, rfl, _, rfl, A.a, _, A.dx, _, _, rfl, O.obj, T.c_Office, T.a_Office_trips, lOffice_trips _ _, A.lp, _, rfl, .inl (SqL.of O.lp), _, _, rfl, rfl, ?_⟩
    have e : decide ((i : Int) < (((A.rp.map V.ref).length : Nat) : Int)) = decide (i < s.trips.length) := by
      rw [List.length_map, O.trips.1]
      exact decide_eq_decide.mpr (by omega)
    show Q (.bl _) H
    rw [e]
    exact k
end
end Th
namespace Th
open PySem PySem.Spec PyProof.Rows L2
open Evl (Ex Ev EvT EvL EvA given)
open TimHaul (Road Limit Truck Lot Trip Office)
theorem el_left {K : PySem.W.Frag} {σ : L2.St} {H : Hp} {A : OA} {s : Office} {ta : TE} (O : OffR K H A s) (wf : Wf s) (h : Ev ta σ H (.ref A.a)) : EvL (tMeth (He.ga K "Office") "lots_left" (sp_Office_lots_left K) [] E0 ta tNil) σ H (nv s.left) :=
  el_meth h O.obj (lOffice_lots_left _ _) Evl.ea_nil fun H1 e Q q => ⟨A, s, rfl, O.ex e, wf.p24, wf.lo24, fun t m => (wf.trips t m).2.2.2.1, q⟩
theorem left_lt {s : Office} {i : Nat} (h : i ∈ s.left) : i < s.lots.length := by
  unfold TimHaul.Office.left at h
  exact List.mem_range.mp (List.mem_filter.mp h).1
theorem left_len (s : Office) : s.left.length ≤ s.lots.length := by
  unfold TimHaul.Office.left
  exact Nat.le_trans (List.length_filter_le _ _) (by rw [List.length_range]; exact Nat.le_refl _)
theorem span_of {d e : Nat} (h : WrtihaSpec.isSpan d e = true) : d ≤ 99999 ∧ e ≤ 99999 ∧ d ≤ e ∧ e < d + 5 := by
  unfold WrtihaSpec.isSpan WrtihaSpec.isDay at h
  obtain ⟨h1, h2⟩ := Bool.and_eq_true_iff.mp h
  obtain ⟨h2, h3⟩ := Bool.and_eq_true_iff.mp h2
  obtain ⟨h3, h4⟩ := Bool.and_eq_true_iff.mp h3
  exact ⟨of_decide_eq_true h1, of_decide_eq_true h2, of_decide_eq_true h3, of_decide_eq_true h4⟩
theorem wf_without {s : Office} (w : Wf s) (r : Nat) (h : ∀ (k : Nat) (x : Road), (s.without r).roads[k]? = some x → (x.a < s.n ∧ x.b < s.n) ∧ x.bears ≤ 100000) (hl : (s.without r).roads.length = s.roads.length) : Wf (s.without r) where
  n16 := w.n16
  r32 := by rw [hl]; exact w.r32
  roads := fun k x e => (h k x e).1
  bears := fun x m => by
    obtain ⟨k, hk⟩ := List.getElem?_of_mem m
    exact (h k x hk).2
  l16 := w.l16
  t3 := w.t3
  trucks := w.trucks
  lo24 := w.lo24
  lots := w.lots
  p24 := w.p24
  trips := fun t m => by
    obtain ⟨h1, h2, h3, h4, h5, h6, h7⟩ := w.trips t m
    exact ⟨h1, h2, h3, h4, h5, fun k q => by rw [hl]; exact h6 k q, h7⟩
end Th
namespace Th
open PySem PySem.Spec PyProof.Rows L2
open TimHaul (Road Limit Truck Lot Trip Office before)
open Evl (Ex Ev EvL EvT EvA)
section
variable {PP : Program} {w : World} {K : PySem.W.Frag} {mg : Str → Option Value} {base : Heap}
theorem sum_cast : ∀ l : List Nat, ((TimHaul.sum l : Nat) : Int) = (l.map fun n : Nat => (n : Int)).sum
  | [] => rfl
  | x :: l => by
    show (((x + TimHaul.sum l : Nat)) : Int) = _
    rw [List.map_cons, List.sum_cons, ← sum_cast l]
    omega
def sp_Office_weight (K : PySem.W.Frag) : Sp := fun vs H Q _ => ∃ (A : OA) (s : Office) (l : Addr) (ls : List Nat), vs = [.ref A.a, .ref l] ∧ OffR K H A s ∧ SqL K H l (nv ls) ∧ ls.length ≤ 40 ∧ (∀ i ∈ ls, i < s.lots.length) ∧
  ∀ H', Ex H H' → Q (.int (s.kg ls : Nat)) H'
theorem sc_Office_weight : FnScope (["self", "lots", "lot"] : List Str) ["self", "lots"] (defScope s_Office_weight) := ⟨rfl, rfl, rfl, by decide +kernel, rfl, by decide +kernel, by decide +kernel⟩
theorem c_Office_weight (T : Txt K mg) : Cal PP w K mg base 1 (He.ma K (He.ga K "Office") "weight") ["self", "lots"] (sp_Office_weight K) := by
  refine Cal.of T.f_Office_weight sc_Office_weight (fun vs H Q E h => ?_) (fun _ _ _ _ _ _ us hl => match us, hl with | [_, _], _ => rfl) (fun cdv A outer s H vs Q E hr h => ?_)
  · obtain ⟨A, s, l, ls, rfl, O, hl, hz, hi, k⟩ := h
    rfl
  · obtain ⟨A, s, l, ls, rfl, O, hl, hz, hi, k⟩ := h
    refine ⟨_, (pss_one (ps_ret (pe_callB (cr_sum rfl) (by rfl) T.n_sum (by decide +kernel) (pa_cons (pe_lc (own := [("lot", 2)]) (g := (gName 2)) (tt := tYes) (te := (tFld K (tOp (rIxL K) (tFld K (tVar 0) "lots") (tVar 2)) "kilograms")) rfl sc_Office_weight.nd (pi_list (pv 1)) (blkOk_by (own := [("lot", 2)]) (N := (["self", "lots", "lot"] : List Str)) (sc := defScope s_Office_weight) (by decide +kernel)) (fun _ _ _ _ _ => (pg_name (i := 2) sc_Office_weight.nd rfl (Or.inl rfl))) (fun _ _ _ _ _ => pts_nil) (fun _ _ _ _ _ => (pe_fld (pe_ix ix_list (pe_fld (pv 0) rfl) (pv 2) (fun _ _ => rfl)) rfl))) pa_nil)))), ?_⟩
    have e : ((s.kg ls : Nat) : Int) = (ls.map (fun i => (((s.lot i).kg : Nat) : Int))).sum := by
      unfold TimHaul.Office.kg
      rw [sum_cast, List.map_map]
      rfl
    refine Evl.s_ret (ev_sumN (ns := ls.map (fun i => (((s.lot i).kg : Nat) : Int))) (el_is (el_list (K := K) (a := l) (ls := ls) (r := fun n : Nat => V.int (n : Int)) (fun _ => true) (fun i => .int ((s.lot i).kg : Nat)) (Evl.ev_var rfl) hl (by omega) (by intro _; rfl) (fun _ _ _ _ => et_yes) (fun y hy H1 e1 _ => ?_)) ?_)) ?_
    · obtain ⟨p, dp, hp, hd⟩ := O.lotp (hi y hy)
      refine ev_fld (a := p) (dx := dp) ?_ (e1 _ _ hd) T.c_Lot T.a_Lot_kilograms (lLot_kilograms _)
      exact ev_atL (evO_lots T (O.ex e1) (Evl.ev_var rfl)) (Evl.ev_var rfl) (e1 _ _ O.lo) hp
    · rw [filter_yes, List.map_map]
      rfl
    · rw [← e]
      exact k
end
end Th
namespace Th
open PySem PySem.Spec PyProof.Rows L2
open TimHaul (Road Limit Truck Lot Trip Office before)
open Evl (Ex Ev EvL EvT EvA)
section
variable {PP : Program} {w : World} {K : PySem.W.Frag} {mg : Str → Option Value} {base : Heap}
def TripOk (s : Office) (t : Trip) : Prop := t.truck < s.trucks.length ∧ t.lots ≠ [] ∧ t.lots.length ≤ 24 ∧ (∀ i ∈ t.lots, i < s.lots.length) ∧ t.full.length ≤ 2000 ∧ (∀ k ∈ t.full, k < s.roads.length) ∧ t.scale ≠ some 0
def sp_known_weight (K : PySem.W.Frag) : Sp := fun vs H Q _ => ∃ (A : OA) (s : Office) (p dx la ra : Addr) (t : Trip), vs = [.ref A.a, .ref p] ∧ OffR K H A s ∧ H p = some (.ins (He.ga K "Trip") dx (fTrip t la ra false)) ∧ H la = some (.lst (nv t.lots)) ∧ TripOk s t ∧
  ∀ H', Ex H H' → Q (.int ((s.weighs t : Nat) : Int)) H'
theorem sc_known_weight : FnScope (["office", "trip"] : List Str) ["office", "trip"] (defScope s_known_weight) := ⟨rfl, rfl, rfl, by decide +kernel, rfl, by decide +kernel, by decide +kernel⟩
theorem c_known_weight (T : Txt K mg) (C_Office_weight : Cal PP w K mg base 1 (He.ma K (He.ga K "Office") "weight") ["self", "lots"] (sp_Office_weight K)) : Cal PP w K mg base 2 (He.ga K "known_weight") ["office", "trip"] (sp_known_weight K) := by
  refine Cal.of T.f_known_weight sc_known_weight (fun vs H Q E h => ?_) (fun _ _ _ _ _ _ us hl => match us, hl with | [_, _], _ => rfl) (fun cdv A outer s H vs Q E hr h => ?_)
  · obtain ⟨A, s, p, dx, la, ra, t, rfl, O, hp, hla, ok, k⟩ := h
    rfl
  · obtain ⟨A, s, p, dx, la, ra, t, rfl, O, hp, hla, ok, k⟩ := h
    refine ⟨_, (pss_cons (ps_if (pt_cmpR op_gt (pe_fld (pv 1) rfl) pe_int (nomark _)) (pss_one (ps_ret (pe_fld (pv 1) rfl))) pss_nil)
      (pss_one (ps_ret (pe_cmeth (pv 0) T.c_Office T.m_Office_weight C_Office_weight (hr.mono (by decide)) (pa_cons (pe_fld (pv 1) rfl) pa_nil))))), ?_⟩
    refine Evl.q_when (b := decide (0 < t.scale.getD 0)) (Evl.et_is (Evl.et_test (Evl.ev_op (ev_fld (Evl.ev_var rfl) hp T.c_Trip T.a_Trip_scaled (lTrip_scaled _ _ _ _)) Evl.ev_c Evl.rv_I0)) (decide_eq_decide.mpr (by omega))) (fun hc H1 e1 => ?_) (fun hc H1 e1 => ?_)
    · have h0 := of_decide_eq_true hc
      refine Evl.s_ret (ev_fld (Evl.ev_var rfl) (e1 _ _ hp) T.c_Trip T.a_Trip_scaled (lTrip_scaled _ _ _ _)) fun H2 e2 => ?_
      have z := k H2 (e1.trans e2)
      have e : s.weighs t = t.scale.getD 0 := by
        unfold TimHaul.Office.weighs
        cases q : t.scale with
        | none => rw [q] at h0; exact absurd h0 (by decide)
        | some g => rfl
      rw [e] at z
      exact z
    · have h0 := of_decide_eq_false hc
      have O1 := O.ex e1
      refine Evl.s_ret (ev_meth (vs' := [.ref la]) (z := .int (s.kg t.lots : Nat)) (Evl.ev_var rfl) O1.obj (lOffice_weight _ _) (ea_one (ev_fld (Evl.ev_var rfl) (e1 _ _ hp) T.c_Trip T.a_Trip_lots (lTrip_lots _ _ _ _))) fun H5 e5 Q5 q5 => ⟨A, s, la, t.lots, rfl, O1.ex e5, SqL.of ((e1.trans e5) _ _ hla), by have := ok.2.2.1; omega, ok.2.2.2.1, q5⟩) fun H2 e2 => ?_
      have z := k H2 (e1.trans e2)
      have e : s.weighs t = s.kg t.lots := by
        unfold TimHaul.Office.weighs
        cases q : t.scale with
        | none => rfl
        | some g =>
          exfalso
          rw [q] at h0
          have : g = 0 := by
            have : ¬ 0 < g := h0
            omega
          exact ok.2.2.2.2.2.2 (by rw [q, this])
      rw [e] at z
      exact z
end
end Th
namespace Th
open PySem PySem.Spec PyProof.Rows L2
open Evl (Ex Ev EvT EvL EvA given)
open TimHaul (Road Limit Truck Lot Trip Office)
section
variable {K : PySem.W.Frag} {G H H2 : Hp} {A : OA} {s : Office} {p la ra : Addr}
/-- a trip more: its object, its two rows -/
theorem OffM.addTrip (O : OffM K G H A s) (e : Ex H H2) (np : H p = none) {t : Trip} (hp : ∃ dx, H2 p = some (.ins (He.ga K "Trip") dx (fTrip t la ra false))) (hla : H2 la = some (.lst (nv t.lots))) (hra : H2 ra = some (.lst (nv t.full))) (nla : H la = none) (nra : H ra = none) (w : Wf { s with trips := s.trips ++ [some t] }) :
    ∃ G', Stay G H A G' (upd H2 A.lp (.lst (A.rp.map V.ref ++ [.ref p]))) { A with rp := A.rp ++ [p] } ∧ OffM K G' (upd H2 A.lp (.lst (A.rp.map V.ref ++ [.ref p]))) { A with rp := A.rp ++ [p] } { s with trips := s.trips ++ [some t] } := by
  obtain ⟨dx, hp⟩ := hp
  have gla : G la = none := Evl.fresh_back O.ex nla
  have gra : G ra = none := Evl.fresh_back O.ex nra
  have m : A.lp ∈ muts A := by simp [muts]
  have pl : p ≠ A.lp := fun z => by rw [z, O.off.lp] at np; cases np
  have lal : la ≠ A.lp := fun z => by rw [z, O.off.lp] at nla; cases nla
  have ral : ra ≠ A.lp := fun z => by rw [z, O.off.lp] at nra; cases nra
  have pla : p ≠ la := fun z => by rw [z, hla] at hp; cases hp
  have pra : p ≠ ra := fun z => by rw [z, hra] at hp; cases hp
  -- the ghost grows by the two rows
  have g : Ex G (fun a => if a = la ∨ a = ra then H2 a else G a) := fun a o h => by
    have n1 : a ≠ la := ne_of_none h gla
    have n2 : a ≠ ra := ne_of_none h gra
    show (if a = la ∨ a = ra then H2 a else G a) = some o
    rw [if_neg (by rintro (z | z); exact n1 z; exact n2 z)]
    exact h
  have gs : ∀ a o, (fun a => if a = la ∨ a = ra then H2 a else G a) a = some o → (upd H2 A.lp (.lst (A.rp.map V.ref ++ [.ref p]))) a = some o ∧ isD o = false := fun a o h => by
    by_cases z : a = la ∨ a = ra
    · have h' : H2 a = some o := by
        have := h
        simp only [if_pos z] at this
        exact this
      refine ⟨?_, ?_⟩
      · rw [upd_ne (by rcases z with z | z; rw [z]; exact lal; rw [z]; exact ral)]
        exact h'
      · rcases z with z | z
        · rw [z, hla] at h'; cases h'; rfl
        · rw [z, hra] at h'; cases h'; rfl
    · have h' : G a = some o := by
        have := h
        simp only [if_neg z] at this
        exact this
      exact ⟨ex_in O e m a o h', O.nod a o h'⟩
  have mem : ∀ a, a ∈ muts { A with rp := A.rp ++ [p] } → a ∈ muts A ∨ a = p := fun a h => by
    have h' : a ∈ muts A ++ [p] := h
    exact mem_snoc h'
  refine ⟨_, stay_upd O e m g (fun a u h => ?_) rfl fun a h => ?_, ⟨?_, fun a u h => (gs a u h).1, fun a u h => (gs a u h).2, fun a h => ?_, ?_, w⟩⟩
  · by_cases z : a = la ∨ a = ra
    · right
      rcases z with z | z
      · rw [z]; exact nla
      · rw [z]; exact nra
    · have := h
      simp only [if_neg z] at this
      exact .inl this
  · rcases mem a h with z | z
    · exact .inl z
    · rw [z]; exact .inr np
  · refine ⟨g _ _ O.off.obj, (by rw [upd_ne (ne_muts O.nd 0 4 rfl rfl (by decide))]; exact e _ _ O.off.lr), (by rw [upd_ne (ne_muts O.nd 1 4 rfl rfl (by decide))]; exact e _ _ O.off.ll), (by rw [upd_ne (ne_muts O.nd 2 4 rfl rfl (by decide))]; exact e _ _ O.off.lt), (by rw [upd_ne (ne_muts O.nd 3 4 rfl rfl (by decide))]; exact e _ _ O.off.lo), (by show upd _ _ _ _ = _; rw [upd_same, List.map_append]; rfl), O.off.roads.mono fun _ _ ⟨dx, q⟩ => ⟨dx, g _ _ q⟩, O.off.limits.mono fun _ _ ⟨dx, q⟩ => ⟨dx, g _ _ q⟩, O.off.trucks.mono fun _ _ ⟨dx, q⟩ => ⟨dx, g _ _ q⟩, O.off.lots.mono fun _ _ ⟨dx, q⟩ => ⟨dx, g _ _ q⟩, ?_⟩
    refine (trips_in O e g (l := A.lp) 4 (by decide) rfl).snoc ⟨dx, la, ra, by rw [upd_ne pl]; exact hp, ?_, ?_⟩
    · show (if la = la ∨ la = ra then H2 la else G la) = _
      rw [if_pos (.inl rfl)]; exact hla
    · show (if ra = la ∨ ra = ra then H2 ra else G ra) = _
      rw [if_pos (.inr rfl)]; exact hra
  · rcases mem a h with z | z
    · have n1 : a ≠ la := fun y => muts_some O.off z (by rw [y]; exact nla)
      have n2 : a ≠ ra := fun y => muts_some O.off z (by rw [y]; exact nra)
      show (if a = la ∨ a = ra then H2 a else G a) = none
      rw [if_neg (by rintro (y | y); exact n1 y; exact n2 y)]
      exact O.free a z
    · subst z
      show (if a = la ∨ a = ra then H2 a else G a) = none
      rw [if_neg (by rintro (y | y); exact pla y; exact pra y)]
      exact Evl.fresh_back O.ex np
  · show (muts A ++ [p]).Nodup
    refine List.nodup_append.mpr ⟨O.nd, by simp, fun a ha b hb z => ?_⟩
    rw [List.mem_singleton] at hb
    rw [z, hb] at ha
    exact muts_some O.off ha np
/-- a trip's object changes -/
theorem OffM.setTrip (O : OffM K G H A s) (e : Ex H H2) {k : Nat} (hk : A.rp[k]? = some p) {o : HO} {x : Option Trip} (hx : TripAt K G (upd H2 p o) p x) (w : Wf { s with trips := s.trips.set k x }) :
    Stay G H A G (upd H2 p o) A ∧ OffM K G (upd H2 p o) A { s with trips := s.trips.set k x } := by
  have m : p ∈ muts A := by
    have := List.mem_of_getElem? hk
    simp [muts, this]
  have i5 : (muts A)[k + 5]? = some p := hk
  have ne : ∀ (j : Nat) a, (muts A)[j]? = some a → j ≠ k + 5 → a ≠ p := fun j a h1 h2 => ne_muts O.nd j (k + 5) h1 i5 h2
  refine ⟨stay_upd O e m (Ex.refl G) (fun a u h => .inl h) rfl fun a h => .inl h, ⟨?_, ex_in O e m, O.nod, O.free, O.nd, w⟩⟩
  refine ⟨O.off.obj, (by rw [upd_ne (ne 0 _ rfl (by omega))]; exact e _ _ O.off.lr), (by rw [upd_ne (ne 1 _ rfl (by omega))]; exact e _ _ O.off.ll), (by rw [upd_ne (ne 2 _ rfl (by omega))]; exact e _ _ O.off.lt), (by rw [upd_ne (ne 3 _ rfl (by omega))]; exact e _ _ O.off.lo), (by rw [upd_ne (ne 4 _ rfl (by omega))]; exact e _ _ O.off.lp), O.off.roads, O.off.limits, O.off.trucks, O.off.lots, ?_⟩
  refine O.off.trips.set hk (fun i b y hi hb q => ?_) hx
  have nb : b ≠ p := ne (i + 5) b hb (by omega)
  cases y with
  | none => obtain ⟨t, dx, la, ra, q⟩ := q; exact ⟨t, dx, la, ra, by rw [upd_ne nb]; exact e _ _ q⟩
  | some t => obtain ⟨dx, la, ra, q, q1, q2⟩ := q; exact ⟨dx, la, ra, by rw [upd_ne nb]; exact e _ _ q, q1, q2⟩
end
theorem OffM.less {K : PySem.W.Frag} {G H : Hp} {A : OA} {s : Office} {b : Addr} (O : OffM K G H A s) (hg : G b = none) (hm : b ∉ muts A) : OffM K G (del H b) A s := by
  have ne : ∀ a, a ∈ muts A → a ≠ b := fun a h z => hm (by rw [← z]; exact h)
  have dl : ∀ a o, a ∈ muts A → H a = some o → del H b a = some o := fun a o h q => by rw [del_ne (ne a h)]; exact q
  refine ⟨⟨O.off.obj, dl _ _ (by simp [muts]) O.off.lr, dl _ _ (by simp [muts]) O.off.ll, dl _ _ (by simp [muts]) O.off.lt, dl _ _ (by simp [muts]) O.off.lo, dl _ _ (by simp [muts]) O.off.lp, O.off.roads, O.off.limits, O.off.trucks, O.off.lots, ?_⟩, ex_del hg O.ex, O.nod, O.free, O.nd, O.wf⟩
  refine ⟨O.off.trips.1, fun j x hj => ?_⟩
  obtain ⟨a, ha, q⟩ := O.off.trips.2 j x hj
  have m : a ∈ muts A := by
    have := List.mem_of_getElem? ha
    simp [muts, this]
  refine ⟨a, ha, ?_⟩
  cases x with
  | none => obtain ⟨t, dx, la, ra, q⟩ := q; exact ⟨t, dx, la, ra, dl _ _ m q⟩
  | some t => obtain ⟨dx, la, ra, q, q1, q2⟩ := q; exact ⟨dx, la, ra, dl _ _ m q, q1, q2⟩
def MkGo (C : Addr) (sp : Sp) (E : XK) (Q : VK) (vs : List V) (H : Hp) : Prop := ∀ x dx, H x = none → H dx = none → dx ≠ x → sp (.ref x :: (vs ++ [])) (upd (upd H dx (.own x)) x (.ins C dx [])) (fun v H2 => v = .non ∧ Q (.ref x) H2) E
theorem k_mk {σ : L2.St} {H : Hp} {Q : VK} {E : XK} {C : Addr} {sp : Sp} {tA : TA} (h : tA σ H (MkGo C sp E Q)) : tMake C sp [] E tA σ H Q := h
theorem mk_go {H : Hp} {Q : VK} {E : XK} {C : Addr} {sp : Sp} {fs : List (Str × V)} {vs : List V} (hsp : ∀ (p dx : Addr) (H : Hp) (Q : VK) (E : XK), H p = some (.ins C dx []) → Q .non (upd H p (.ins C dx fs)) → sp (.ref p :: vs) H Q E) (k : ∀ p H1, H p = none → Ex H H1 → (∃ dx, H1 p = some (.ins C dx fs)) → Q (.ref p) H1) : MkGo C sp E Q vs H := fun x dx nx nd ne => by
  rw [List.append_nil]
  have n2 : upd H dx (.own x) x = none := by rw [upd_ne (Ne.symm ne)]; exact nx
  refine hsp x dx _ _ _ upd_same ⟨rfl, k x _ nx ?_ ⟨dx, upd_same⟩⟩
  rw [upd_upd]
  exact (ex_upd nd).trans (ex_upd n2)
/-! ### a trip's attributes, set -/
theorem fTrip_off (t : Trip) (la ra : Addr) (b : Bool) : putF "called_off" (.bl b) (fTrip t la ra false) = fTrip t la ra b := by
  unfold fTrip
  rw [put_past (by decide +kernel), put_past (by decide +kernel), put_past (by decide +kernel), put_past (by decide +kernel), put_past (by decide +kernel), put_past (by decide +kernel), put_here]
theorem fTrip_scaled (t : Trip) (la ra : Addr) (b : Bool) (g : Nat) : putF "scaled" (.int (g : Int)) (fTrip t la ra b) = fTrip { t with scale := some g } la ra b := by
  unfold fTrip
  rw [put_past (by decide +kernel), put_past (by decide +kernel), put_past (by decide +kernel), put_past (by decide +kernel), put_past (by decide +kernel), put_here]
  rfl
/-! ### a trip that is there -/
theorem ofTrip_out {s : Office} {k : Nat} {f : Trip → Office × WrtihaSpec.Ans} (h : s.trips.length ≤ k) : WrtihaSpec.ofTrip s k f = (s, WrtihaSpec.no (-3)) := if_pos h
theorem ofTrip_gone {s : Office} {k : Nat} {f : Trip → Office × WrtihaSpec.Ans} (h : s.trips[k]? = some none) : WrtihaSpec.ofTrip s k f = (s, WrtihaSpec.no (-8)) := by
  have hk : ¬ s.trips.length ≤ k := by have := (List.getElem?_eq_some_iff.mp h).1; omega
  unfold WrtihaSpec.ofTrip WrtihaSpec.tripOf
  rw [if_neg hk, h]
  rfl
theorem ofTrip_in {s : Office} {k : Nat} {f : Trip → Office × WrtihaSpec.Ans} {t : Trip} (h : s.trips[k]? = some (some t)) : WrtihaSpec.ofTrip s k f = f t := by
  have hk : ¬ s.trips.length ≤ k := by have := (List.getElem?_eq_some_iff.mp h).1; omega
  unfold WrtihaSpec.ofTrip WrtihaSpec.tripOf
  rw [if_neg hk, h]
  rfl
end Th
namespace Th
open PySem PySem.Spec PyProof.Rows L2
open TimHaul (Road Limit Truck Lot Trip Office before)
open Evl (Ex Ev EvL EvT EvA)
section
variable {PP : Program} {w : World} {K : PySem.W.Frag} {mg : Str → Option Value} {base : Heap}
def sp_call_off (K : PySem.W.Frag) : Sp := fun vs H Q _ => ∃ (G : Hp) (A : OA) (s : Office) (rn : Addr) (i : Nat), vs = [.ref A.a, .ref rn] ∧ OffM K G H A s ∧ H rn = some (.lst (nv [i])) ∧ Done K (.off i) G H A s Q
theorem sc_call_off : FnScope (["office", "numbers", "at", "trip"] : List Str) ["office", "numbers"] (defScope s_call_off) := ⟨rfl, rfl, rfl, by decide +kernel, rfl, by decide +kernel, by decide +kernel⟩
theorem c_call_off (T : Txt K mg) (C_Office_has_trip : Cal PP w K mg base 1 (He.ma K (He.ga K "Office") "has_trip") ["self", "trip"] (sp_Office_has_trip K)) : Cal PP w K mg base 2 (He.ga K "call_off") ["office", "numbers"] (sp_call_off K) := by
  refine Cal.of T.f_call_off sc_call_off (fun vs H Q E h => ?_) (fun _ _ _ _ _ _ us hl => match us, hl with | [_, _], _ => rfl) (fun cdv A outer s H vs Q E hr h => ?_)
  · obtain ⟨G, A, s, rn, i, rfl, O, hn, k⟩ := h
    rfl
  · obtain ⟨G, A, s, rn, i, rfl, O, hn, k⟩ := h
    refine ⟨_, (pss_cons (ps_set (i := 2) sc_call_off.nd rfl (Or.inl rfl) (pe_ix ix_list (pv 1) pe_int (fun _ _ => rfl)))
      (pss_cons (ps_if (pt_not (pt_val (pe_cmeth (pv 0) T.c_Office T.m_Office_has_trip C_Office_has_trip (hr.mono (by decide)) (pa_cons (pv 2) pa_nil)))) (pss_one (ps_ret (pe_lst (pa_cons (pe_gint T.i_NOT_THERE (by rfl)) pa_nil)))) pss_nil)
      (pss_cons (ps_set (i := 3) sc_call_off.nd rfl (Or.inl rfl) (pe_ix ix_list (pe_fld (pv 0) rfl) (pv 2) (fun _ _ => rfl)))
      (pss_cons (ps_if (pt_val (pe_fld (pv 3) rfl)) (pss_one (ps_ret (pe_lst (pa_cons (pe_gint T.i_USED_UP (by rfl)) pa_nil)))) pss_nil)
      (pss_cons (ps_fld (pv 3) pe_bl rfl)
      (pss_one (ps_ret (pe_lst (pa_cons pe_int pa_nil))))))))), ?_⟩
    refine Evl.q_asg (v := .int (i : Nat)) (Evl.ev_op (Evl.ev_var rfl) Evl.ev_c (Evl.rv_ixL (SqL.of hn) rfl)) fun H1 e1 => ?_
    have O1 := O.query (exD_of e1)
    refine Evl.q_when (Evl.et_not (Evl.et_B (ev_has_trip O1.offR (Evl.ev_var rfl) (Evl.ev_var rfl)))) (fun hc H2 e2 => ?_) (fun hc H2 e2 => ?_)
    · exact s_no rfl (exD_of (e1.trans e2)) k O (ofTrip_out (by simp at hc; omega))
    have hi : i < s.trips.length := by simpa using hc
    have e12 := e1.trans e2
    have O2 := O.query (exD_of e12)
    obtain ⟨p, hp, hT⟩ := O2.off.trips.2 i _ (List.getElem?_eq_getElem hi)
    refine Evl.q_asg (ev_atL (evO_trips T O2.offR (Evl.ev_var rfl)) (Evl.ev_var rfl) O2.off.lp hp) fun H3 e3 => ?_
    have e13 := e12.trans e3
    have O3 := O.query (exD_of e13)
    cases q : s.trips[i] with
    | none =>
      rw [q] at hT
      obtain ⟨t, dx, la, ra, hI⟩ := hT
      refine Evl.q_when (Evl.et_B (ev_fld (Evl.ev_var rfl) (e3 _ _ hI) T.c_Trip T.a_Trip_called_off (lTrip_called_off _ _ _ _))) (fun hz H4 e4 => ?_) (fun hz H4 e4 => by cases hz)
      exact s_no rfl (exD_of (e13.trans e4)) k O (ofTrip_gone (by rw [List.getElem?_eq_getElem hi, q]))
    | some t =>
      rw [q] at hT
      obtain ⟨dx, la, ra, hI, g1, g2⟩ := hT
      refine Evl.q_when (Evl.et_B (ev_fld (Evl.ev_var rfl) (e3 _ _ hI) T.c_Trip T.a_Trip_called_off (lTrip_called_off _ _ _ _))) (fun hz H4 e4 => by cases hz) (fun hz H4 e4 => ?_)
      have e14 := e13.trans e4
      refine ⟨_, rfl, p, _, dx, _, rfl, (e3.trans e4) _ _ hI, T.c_Trip, T.a_Trip_called_off, (by show 7 < 1000; decide), ?_⟩
      rw [fTrip_off]
      obtain ⟨st, O5⟩ := O.setTrip e14 (p := p) hp (o := .ins (He.ga K "Trip") dx (fTrip t la ra true)) (x := none) ⟨t, dx, la, ra, upd_same⟩ (O.wf.setTrip fun t z => by cases z)
      dsimp only
      refine s_done (Q := Q) (l := []) rfl k st O5 (dom_upd e14) ?_ (Evl.el_lst (ea_one Evl.ev_c) (by show 1 ≤ 100000; decide))
      exact ofTrip_in (by rw [List.getElem?_eq_getElem hi, q])
end
end Th
namespace Th
open PySem PySem.Spec PyProof.Rows L2
open TimHaul (Road Limit Truck Lot Trip Office before)
open Evl (Ex Ev EvL EvT EvA)
section
variable {PP : Program} {w : World} {K : PySem.W.Frag} {mg : Str → Option Value} {base : Heap}
def sp_paper (K : PySem.W.Frag) : Sp := fun vs H Q _ => ∃ (G : Hp) (A : OA) (s : Office) (rn : Addr) (i : Nat), vs = [.ref A.a, .ref rn] ∧ OffM K G H A s ∧ H rn = some (.lst (nv [i])) ∧ Done K (.paper i) G H A s Q
theorem sc_paper : FnScope (["office", "numbers", "at", "trip", "lot", "told"] : List Str) ["office", "numbers"] (defScope s_paper) := ⟨rfl, rfl, rfl, by decide +kernel, rfl, by decide +kernel, by decide +kernel⟩
theorem c_paper (T : Txt K mg) (C_Office_has_trip : Cal PP w K mg base 1 (He.ma K (He.ga K "Office") "has_trip") ["self", "trip"] (sp_Office_has_trip K)) (C_Office_weight : Cal PP w K mg base 1 (He.ma K (He.ga K "Office") "weight") ["self", "lots"] (sp_Office_weight K)) : Cal PP w K mg base 2 (He.ga K "paper") ["office", "numbers"] (sp_paper K) := by
  refine Cal.of T.f_paper sc_paper (fun vs H Q E h => ?_) (fun _ _ _ _ _ _ us hl => match us, hl with | [_, _], _ => rfl) (fun cdv A outer s H vs Q E hr h => ?_)
  · obtain ⟨G, A, s, rn, i, rfl, O, hn, k⟩ := h
    rfl
  · obtain ⟨G, A, s, rn, i, rfl, O, hn, k⟩ := h
    refine ⟨_, (pss_cons (ps_set (i := 2) sc_paper.nd rfl (Or.inl rfl) (pe_ix ix_list (pv 1) pe_int (fun _ _ => rfl)))
      (pss_cons (ps_if (pt_not (pt_val (pe_cmeth (pv 0) T.c_Office T.m_Office_has_trip C_Office_has_trip (hr.mono (by decide)) (pa_cons (pv 2) pa_nil)))) (pss_one (ps_ret (pe_lst (pa_cons (pe_gint T.i_NOT_THERE (by rfl)) pa_nil)))) pss_nil)
      (pss_cons (ps_set (i := 3) sc_paper.nd rfl (Or.inl rfl) (pe_ix ix_list (pe_fld (pv 0) rfl) (pv 2) (fun _ _ => rfl)))
      (pss_cons (ps_if (pt_val (pe_fld (pv 3) rfl)) (pss_one (ps_ret (pe_lst (pa_cons (pe_gint T.i_USED_UP (by rfl)) pa_nil)))) pss_nil)
      (pss_cons (ps_set (i := 4) sc_paper.nd rfl (Or.inl rfl) (pe_ix ix_list (pe_fld (pv 0) rfl) (pe_ix ix_list (pe_fld (pv 3) rfl) pe_int (fun _ _ => rfl)) (fun _ _ => rfl)))
      (pss_cons (ps_set (i := 5) sc_paper.nd rfl (Or.inl rfl) (pe_lst (pa_cons (pe_fld (pv 3) rfl) (pa_cons (pe_fld (pv 3) rfl) (pa_cons (pe_fld (pv 4) rfl) (pa_cons (pe_fld (pv 4) rfl) (pa_cons (pe_cmeth (pv 0) T.c_Office T.m_Office_weight C_Office_weight (hr.mono (by decide)) (pa_cons (pe_fld (pv 3) rfl) pa_nil)) (pa_cons (pe_fld (pv 3) rfl) (pa_cons (pe_fld (pv 3) rfl) pa_nil)))))))))
      (pss_one (ps_ret (pe_op op_cat (pe_op op_cat (pe_op op_cat (pe_op op_cat (pe_op op_cat (pe_lst (pa_cons pe_int pa_nil)) (pv 5)) (pe_lst (pa_cons (pe_callB cr_len (by rfl) T.n_len (by decide +kernel) (pa_cons (pe_fld (pv 3) rfl) pa_nil)) pa_nil))) (pe_fld (pv 3) rfl)) (pe_lst (pa_cons (pe_callB cr_len (by rfl) T.n_len (by decide +kernel) (pa_cons (pe_fld (pv 3) rfl) pa_nil)) pa_nil))) (pe_fld (pv 3) rfl)))))))))), ?_⟩
    refine Evl.q_asg (v := .int (i : Nat)) (Evl.ev_op (Evl.ev_var rfl) Evl.ev_c (Evl.rv_ixL (SqL.of hn) rfl)) fun H1 e1 => ?_
    have O1 := O.query (exD_of e1)
    refine Evl.q_when (Evl.et_not (Evl.et_B (ev_has_trip O1.offR (Evl.ev_var rfl) (Evl.ev_var rfl)))) (fun hc H2 e2 => ?_) (fun hc H2 e2 => ?_)
    · exact s_no rfl (exD_of (e1.trans e2)) k O (ofTrip_out (by simp at hc; omega))
    have hi : i < s.trips.length := by simpa using hc
    have e12 := e1.trans e2
    have O2 := O.query (exD_of e12)
    obtain ⟨p, hp, hT⟩ := O2.off.trips.2 i _ (List.getElem?_eq_getElem hi)
    refine Evl.q_asg (ev_atL (evO_trips T O2.offR (Evl.ev_var rfl)) (Evl.ev_var rfl) O2.off.lp hp) fun H3 e3 => ?_
    have e13 := e12.trans e3
    cases q : s.trips[i] with
    | none =>
      rw [q] at hT
      obtain ⟨t, dx, la, ra, hI⟩ := hT
      refine Evl.q_when (Evl.et_B (ev_fld (Evl.ev_var rfl) (e3 _ _ hI) T.c_Trip T.a_Trip_called_off (lTrip_called_off _ _ _ _))) (fun hz H4 e4 => ?_) (fun hz H4 e4 => by cases hz)
      exact s_no rfl (exD_of (e13.trans e4)) k O (ofTrip_gone (by rw [List.getElem?_eq_getElem hi, q]))
    | some t =>
      rw [q] at hT
      obtain ⟨dx, la, ra, hI, g1, g2⟩ := hT
      have hq : s.trips[i]? = some (some t) := by rw [List.getElem?_eq_getElem hi, q]
      have ok : TripOk s t := O.wf.trips t (List.mem_of_getElem? hq)
      refine Evl.q_when (Evl.et_B (ev_fld (Evl.ev_var rfl) (e3 _ _ hI) T.c_Trip T.a_Trip_called_off (lTrip_called_off _ _ _ _))) (fun hz H4 e4 => by cases hz) (fun hz H4 e4 => ?_)
      have e14 := e13.trans e4
      have O4 := O.query (exD_of e14)
      have OR := O4.offR
      have hI4 := (e3.trans e4) _ _ hI
      have hla4 := O4.ex _ _ g1
      have hra4 := O4.ex _ _ g2
      have hd : t.lots.headD 0 ∈ t.lots := by
        cases z : t.lots with
        | nil => exact absurd z ok.2.1
        | cons x l => exact List.mem_cons_self
      have h0 : (nv t.lots)[0]? = some (V.int ((t.lots.headD 0 : Nat) : Int)) := by
        cases z : t.lots with
        | nil => exact absurd z ok.2.1
        | cons x l => rfl
      obtain ⟨pl, dl, hpl, Il⟩ := OR.lotp (ok.2.2.2.1 _ hd)
      refine Evl.q_asg (ev_atL (evO_lots T OR (Evl.ev_var rfl)) (Evl.ev_op (ev_fld (Evl.ev_var rfl) hI4 T.c_Trip T.a_Trip_lots (lTrip_lots _ _ _ _)) Evl.ev_c (Evl.rv_ixL (SqL.of hla4) (atI_nat h0))) OR.lo hpl) fun H5 e5 => ?_
      have e15 := e14.trans e5
      have O5 := OR.ex e5
      have hI5 := e5 _ _ hI4
      have Il5 := e5 _ _ Il
      have told : EvL (tLst (tCons (tFld K (tVar 3) "truck") (tCons (tFld K (tVar 3) "day") (tCons (tFld K (tVar 4) "place") (tCons (tFld K (tVar 4) "mill") (tCons (tMeth (He.ga K "Office") "weight" (sp_Office_weight K) [] E0 (tVar 0) (tCons (tFld K (tVar 3) "lots") tNil)) (tCons (tFld K (tVar 3) "scaled") (tCons (tFld K (tVar 3) "metres") tNil)))))))) [some (.ref A.a), some (.ref rn), some (.int (i : Nat)), some (.ref p), some (.ref pl), none] H5 (nv [t.truck, t.day, (s.lot (t.lots.headD 0)).place, (s.lot (t.lots.headD 0)).mill, s.kg t.lots, t.scale.getD 0, t.metres]) :=
        Evl.el_lst (Evl.ea_cons (ev_fld (Evl.ev_var rfl) hI5 T.c_Trip T.a_Trip_truck (lTrip_truck _ _ _ _)) (Evl.ea_cons (ev_fld (Evl.ev_var rfl) hI5 T.c_Trip T.a_Trip_day (lTrip_day _ _ _ _)) (Evl.ea_cons (ev_fld (Evl.ev_var rfl) Il5 T.c_Lot T.a_Lot_place (lLot_place _)) (Evl.ea_cons (ev_fld (Evl.ev_var rfl) Il5 T.c_Lot T.a_Lot_mill (lLot_mill _)) (Evl.ea_cons (ev_meth (vs' := [.ref la]) (z := .int (s.kg t.lots : Nat)) (Evl.ev_var rfl) O5.obj (lOffice_weight _ _) (ea_one (ev_fld (Evl.ev_var rfl) hI5 T.c_Trip T.a_Trip_lots (lTrip_lots _ _ _ _))) fun H6 e6 Q6 q6 => ⟨A, s, la, t.lots, rfl, O5.ex e6, SqL.of ((e5.trans e6) _ _ hla4), by have := ok.2.2.1; omega, ok.2.2.2.1, q6⟩) (ea_two (ev_fld (Evl.ev_var rfl) hI5 T.c_Trip T.a_Trip_scaled (lTrip_scaled _ _ _ _)) (ev_fld (Evl.ev_var rfl) hI5 T.c_Trip T.a_Trip_metres (lTrip_metres _ _ _ _)))))))) (by show 7 ≤ 100000; decide)
      refine Evl.q_asgL told fun pt H6 npt e6 h6 => ?_
      have hI6 := e6 _ _ hI5
      have hla6 := (e5.trans e6) _ _ hla4
      have hra6 := (e5.trans e6) _ _ hra4
      have l1 := ok.2.2.1
      have l2 := ok.2.2.2.2.1
      have z0 : EvL (tOp rCat (tLst (tCons (tC (.int 0)) tNil)) (tVar 5)) [some (.ref A.a), some (.ref rn), some (.int (i : Nat)), some (.ref p), some (.ref pl), some (.ref pt)] H6 ([.int 0] ++ nv [t.truck, t.day, (s.lot (t.lots.headD 0)).place, (s.lot (t.lots.headD 0)).mill, s.kg t.lots, t.scale.getD 0, t.metres]) := el_catR (Evl.el_lst (ea_one Evl.ev_c) (by show 1 ≤ 100000; decide)) (Evl.ev_var rfl) h6 (by show 1 + 7 ≤ 100000; decide)
      have z1 := el_cat (ys := [.int (t.lots.length : Nat)]) z0 (Evl.el_lst (ea_one (Evl.ev_is (ev_lenL (K := K) (ev_fld (ta := tVar 3) (Evl.ev_var rfl) hI6 T.c_Trip T.a_Trip_lots (lTrip_lots _ _ _ _)) (SqL.of hla6)) (by rw [nv_len]))) (by show 1 ≤ 100000; decide)) (by show 8 + 1 ≤ 100000; decide)
      have z2 := el_catR (tb := tFld K (tVar 3) "lots") z1 (ev_fld (Evl.ev_var rfl) hI6 T.c_Trip T.a_Trip_lots (lTrip_lots _ _ _ _)) hla6 (by rw [nv_len]; show 9 + _ ≤ _; omega)
      have z3 := el_cat (ys := [.int (t.full.length : Nat)]) z2 (Evl.el_lst (ea_one (Evl.ev_is (ev_lenL (K := K) (ev_fld (ta := tVar 3) (Evl.ev_var rfl) hI6 T.c_Trip T.a_Trip_roads (lTrip_roads _ _ _ _)) (SqL.of hra6)) (by rw [nv_len]))) (by show 1 ≤ 100000; decide)) (by rw [List.length_append, nv_len]; show 9 + _ + 1 ≤ _; omega)
      have z4 := el_catR (tb := tFld K (tVar 3) "roads") z3 (ev_fld (Evl.ev_var rfl) hI6 T.c_Trip T.a_Trip_roads (lTrip_roads _ _ _ _)) hra6 (by rw [List.length_append, List.length_append, nv_len, nv_len]; show 9 + _ + 1 + _ ≤ _; omega)
      refine s_tells (Q := Q) (l := [t.truck, t.day, (s.lot (t.lots.headD 0)).place, (s.lot (t.lots.headD 0)).mill, s.kg t.lots, t.scale.getD 0, t.metres, t.lots.length] ++ (t.lots ++ (t.full.length :: t.full))) rfl (exD_of (e15.trans e6)) k O (ofTrip_in hq) (el_is z4 ?_)
      simp [nv]
end
end Th
namespace Th
open PySem PySem.Spec PyProof.Rows L2
open TimHaul (Road Limit Truck Lot Trip Office before)
open Evl (Ex Ev EvL EvT EvA)
section
variable {PP : Program} {w : World} {K : PySem.W.Frag} {mg : Str → Option Value} {base : Heap}
def sp_scale (K : PySem.W.Frag) : Sp := fun vs H Q _ => ∃ (G : Hp) (A : OA) (s : Office) (rn : Addr) (i g : Nat), vs = [.ref A.a, .ref rn] ∧ OffM K G H A s ∧ H rn = some (.lst (nv [i, g])) ∧ WrtihaSpec.right (.scale i g) = true ∧ Done K (.scale i g) G H A s Q
theorem sc_scale : FnScope (["office", "numbers", "at", "kilograms", "trip", "told"] : List Str) ["office", "numbers"] (defScope s_scale) := ⟨rfl, rfl, rfl, by decide +kernel, rfl, by decide +kernel, by decide +kernel⟩
theorem c_scale (T : Txt K mg) (C_Office_has_trip : Cal PP w K mg base 1 (He.ma K (He.ga K "Office") "has_trip") ["self", "trip"] (sp_Office_has_trip K)) (C_Office_weight : Cal PP w K mg base 1 (He.ma K (He.ga K "Office") "weight") ["self", "lots"] (sp_Office_weight K)) : Cal PP w K mg base 2 (He.ga K "scale") ["office", "numbers"] (sp_scale K) := by
  refine Cal.of T.f_scale sc_scale (fun vs H Q E h => ?_) (fun _ _ _ _ _ _ us hl => match us, hl with | [_, _], _ => rfl) (fun cdv A outer s H vs Q E hr h => ?_)
  · obtain ⟨G, A, s, rn, i, g, rfl, O, hn, hg, k⟩ := h
    rfl
  · obtain ⟨G, A, s, rn, i, g, rfl, O, hn, hg, k⟩ := h
    refine ⟨_, (pss_cons (ps_asg (pv 1) (pg_unl rfl (pgs_cons (pg_name (i := 2) sc_scale.nd rfl (Or.inl rfl)) (pgs_cons (pg_name (i := 3) sc_scale.nd rfl (Or.inl rfl)) pgs_nil))))
      (pss_cons (ps_if (pt_not (pt_val (pe_cmeth (pv 0) T.c_Office T.m_Office_has_trip C_Office_has_trip (hr.mono (by decide)) (pa_cons (pv 2) pa_nil)))) (pss_one (ps_ret (pe_lst (pa_cons (pe_gint T.i_NOT_THERE (by rfl)) pa_nil)))) pss_nil)
      (pss_cons (ps_set (i := 4) sc_scale.nd rfl (Or.inl rfl) (pe_ix ix_list (pe_fld (pv 0) rfl) (pv 2) (fun _ _ => rfl)))
      (pss_cons (ps_if (pt_val (pe_fld (pv 4) rfl)) (pss_one (ps_ret (pe_lst (pa_cons (pe_gint T.i_USED_UP (by rfl)) pa_nil)))) pss_nil)
      (pss_cons (ps_fld (pv 4) (pv 3) rfl)
      (pss_cons (ps_set (i := 5) sc_scale.nd rfl (Or.inl rfl) (pe_cmeth (pv 0) T.c_Office T.m_Office_weight C_Office_weight (hr.mono (by decide)) (pa_cons (pe_fld (pv 4) rfl) pa_nil)))
      (pss_one (ps_ret (pe_lst (pa_cons pe_int (pa_cons (pe_callB (cr_max2 rfl) (by rfl) T.n_max (by decide +kernel) (pa_cons pe_int (pa_cons (pe_op op_sub (pv 3) (pv 5)) pa_nil))) (pa_cons (pe_callB (cr_max2 rfl) (by rfl) T.n_max (by decide +kernel) (pa_cons pe_int (pa_cons (pe_op op_sub (pv 5) (pv 3)) pa_nil))) pa_nil)))))))))))), ?_⟩
    have g0 : g ≠ 0 := by
      have z := of_decide_eq_true (Bool.and_eq_true_iff.mp (Bool.and_eq_true_iff.mp hg).2).1
      omega
    refine ⟨_, rfl, rn, _, rfl, SqL.of hn, rfl, _, _, rfl, _, _, rfl, rfl, ?_⟩
    refine Evl.q_when (Evl.et_not (Evl.et_B (ev_has_trip O.offR (Evl.ev_var rfl) (Evl.ev_var rfl)))) (fun hc H2 e2 => ?_) (fun hc H2 e2 => ?_)
    · exact s_no rfl (exD_of e2) k O (ofTrip_out (by simp at hc; omega))
    have hi : i < s.trips.length := by simpa using hc
    have O2 := O.query (exD_of e2)
    obtain ⟨p, hp, hT⟩ := O2.off.trips.2 i _ (List.getElem?_eq_getElem hi)
    refine Evl.q_asg (ev_atL (evO_trips T O2.offR (Evl.ev_var rfl)) (Evl.ev_var rfl) O2.off.lp hp) fun H3 e3 => ?_
    have e13 := e2.trans e3
    cases q : s.trips[i] with
    | none =>
      rw [q] at hT
      obtain ⟨t, dx, la, ra, hI⟩ := hT
      refine Evl.q_when (Evl.et_B (ev_fld (Evl.ev_var rfl) (e3 _ _ hI) T.c_Trip T.a_Trip_called_off (lTrip_called_off _ _ _ _))) (fun hz H4 e4 => ?_) (fun hz H4 e4 => by cases hz)
      exact s_no rfl (exD_of (e13.trans e4)) k O (ofTrip_gone (by rw [List.getElem?_eq_getElem hi, q]))
    | some t =>
      rw [q] at hT
      obtain ⟨dx, la, ra, hI, g1, g2⟩ := hT
      have hq : s.trips[i]? = some (some t) := by rw [List.getElem?_eq_getElem hi, q]
      have ok : TripOk s t := O.wf.trips t (List.mem_of_getElem? hq)
      refine Evl.q_when (Evl.et_B (ev_fld (Evl.ev_var rfl) (e3 _ _ hI) T.c_Trip T.a_Trip_called_off (lTrip_called_off _ _ _ _))) (fun hz H4 e4 => by cases hz) (fun hz H4 e4 => ?_)
      have e14 := e13.trans e4
      refine ⟨_, rfl, _, rfl, p, _, dx, _, rfl, (e3.trans e4) _ _ hI, T.c_Trip, T.a_Trip_scaled, (by show 7 < 1000; decide), ?_⟩
      dsimp only
      rw [fTrip_scaled]
      obtain ⟨st, O5⟩ := O.setTrip e14 (p := p) hp (o := .ins (He.ga K "Trip") dx (fTrip { t with scale := some g } la ra false)) (x := some { t with scale := some g }) ⟨dx, la, ra, upd_same, g1, g2⟩ (O.wf.setTrip fun t' z => by
        cases z
        exact ⟨ok.1, ok.2.1, ok.2.2.1, ok.2.2.2.1, ok.2.2.2.2.1, ok.2.2.2.2.2.1, fun y => g0 (Option.some.inj y)⟩)
      have hI5 : (upd H4 p (.ins (He.ga K "Trip") dx (fTrip { t with scale := some g } la ra false))) p = some (.ins (He.ga K "Trip") dx (fTrip { t with scale := some g } la ra false)) := upd_same
      have hla5 := O5.ex _ _ g1
      have dom := dom_upd (l := p) (o := .ins (He.ga K "Trip") dx (fTrip { t with scale := some g } la ra false)) e14
      have hs : WrtihaSpec.does s (.scale i g) = ({ s with trips := s.trips.set i (some { t with scale := some g }) }, WrtihaSpec.tells [g - s.kg t.lots, s.kg t.lots - g]) := ofTrip_in hq
      generalize upd H4 p (.ins (He.ga K "Trip") dx (fTrip { t with scale := some g } la ra false)) = H5 at st O5 hI5 hla5 dom
      have OR := O5.offR
      refine Evl.q_asg (v := .int (s.kg t.lots : Nat)) (ev_meth (vs' := [.ref la]) (Evl.ev_var rfl) OR.obj (lOffice_weight _ _) (ea_one (ev_fld (Evl.ev_var rfl) hI5 T.c_Trip T.a_Trip_lots (lTrip_lots _ _ _ _))) fun H6 e6 Q6 q6 => ⟨A, { s with trips := s.trips.set i (some { t with scale := some g }) }, la, t.lots, rfl, OR.ex e6, SqL.of (e6 _ _ hla5), by have := ok.2.2.1; omega, ok.2.2.2.1, q6⟩) fun H6 e6 => ?_
      have st6 : Stay G H A G H6 A := ⟨st.g, fun a o ha hd m => let ⟨z1, z2⟩ := st.f a o ha hd m; ⟨e6 _ _ z1, z2⟩, st.n, st.a⟩
      refine s_done (Q := Q) (l := [g - s.kg t.lots, s.kg t.lots - g]) rfl k st6 (O5.query (exD_of e6)) (fun a ha z => ?_) hs ?_
      · exact dom a ha (Evl.fresh_back e6 z)
      · refine Evl.el_lst (Evl.ea_cons Evl.ev_c (ea_two (Evl.ev_is (ev_max2 Evl.ev_c (Evl.ev_op (Evl.ev_var rfl) (Evl.ev_var rfl) Evl.rv_I0)) (congrArg V.int ?_)) (Evl.ev_is (ev_max2 Evl.ev_c (Evl.ev_op (Evl.ev_var rfl) (Evl.ev_var rfl) Evl.rv_I0)) (congrArg V.int ?_)))) (by show 3 ≤ 100000; decide)
        · omega
        · omega
end
end Th
namespace Th
open PySem PySem.Spec PyProof.Rows L2
open TimHaul (Road Limit Truck Lot Trip Office before)
open Evl (Ex Ev EvL EvT EvA)
section
variable {PP : Program} {w : World} {K : PySem.W.Frag} {mg : Str → Option Value} {base : Heap}
def sp_least_bearing (K : PySem.W.Frag) : Sp := fun vs H Q _ => ∃ (A : OA) (s : Office) (p dx la ra : Addr) (t : Trip), vs = [.ref A.a, .ref p] ∧ OffR K H A s ∧ Wf s ∧ H p = some (.ins (He.ga K "Trip") dx (fTrip t la ra false)) ∧ H ra = some (.lst (nv t.full)) ∧ TripOk s t ∧
  ∀ H', Ex H H' → Q (.int ((s.bearsAll t : Nat) : Int)) H'
theorem bearsAll_eq (s : Office) (t : Trip) : s.bearsAll t = (t.full.map fun k => s.bears k t.day).foldl min 100000 := by
  unfold TimHaul.Office.bearsAll
  rw [List.foldl_map]
  rfl
theorem sc_least_bearing : FnScope (["office", "trip", "road"] : List Str) ["office", "trip"] (defScope s_least_bearing) := ⟨rfl, rfl, rfl, by decide +kernel, rfl, by decide +kernel, by decide +kernel⟩
theorem c_least_bearing (T : Txt K mg) (C_Office_bearing : Cal PP w K mg base 1 (He.ma K (He.ga K "Office") "bearing") ["self", "road", "day"] (sp_Office_bearing K)) : Cal PP w K mg base 2 (He.ga K "least_bearing") ["office", "trip"] (sp_least_bearing K) := by
  refine Cal.of T.f_least_bearing sc_least_bearing (fun vs H Q E h => ?_) (fun _ _ _ _ _ _ us hl => match us, hl with | [_, _], _ => rfl) (fun cdv A outer s H vs Q E hr h => ?_)
  · obtain ⟨A, s, p, dx, la, ra, t, rfl, O, wf, hp, hra, ok, k⟩ := h
    rfl
  · obtain ⟨A, s, p, dx, la, ra, t, rfl, O, wf, hp, hra, ok, k⟩ := h
    refine ⟨_, (pss_one (ps_ret (pe_callBK (cr_minDef rfl hr.units) (by rfl) T.n_min (by decide +kernel) (pa_cons (pe_lc (own := [("road", 2)]) (g := (gName 2)) (tt := tYes) (te := (tMeth (He.ga K "Office") "bearing" (sp_Office_bearing K) [] E0 (tVar 0) (tCons (tVar 2) (tCons (tFld K (tVar 1) "day") tNil)))) rfl sc_least_bearing.nd (pi_list (pe_fld (pv 1) rfl)) (blkOk_by (own := [("road", 2)]) (N := (["office", "trip", "road"] : List Str)) (sc := defScope s_least_bearing) (by decide +kernel)) (fun _ _ _ _ _ => (pg_name (i := 2) sc_least_bearing.nd rfl (Or.inl rfl))) (fun _ _ _ _ _ => pts_nil) (fun _ _ _ _ _ => (pe_cmeth (pv 0) T.c_Office T.m_Office_bearing C_Office_bearing (hr.mono (by decide)) (pa_cons (pv 2) (pa_cons (pe_fld (pv 1) rfl) pa_nil))))) pa_nil) (pk_cons (pe_gint T.i_MOST_KILOGRAMS (by rfl)) pk_nil)))), ?_⟩
    refine s_retG (Q := Q) rfl ?_
    have hl := ok.2.2.2.2.1
    have hk := ok.2.2.2.2.2.1
    refine k_cons (k_evL (el_list (K := K) (a := ra) (ls := t.full) (r := fun n : Nat => V.int (n : Int)) (fun _ => true) (fun k => .int (s.bears k t.day : Nat)) (ev_fld (Evl.ev_var rfl) hp T.c_Trip T.a_Trip_roads (lTrip_roads _ _ _ _)) (SqL.of hra) (by omega) (by intro _; rfl) (fun _ _ _ _ => et_yes) (fun y hy H1 e1 _ => ?_)) fun pl H1 np e1 h1 => ?_)
    · exact ev_meth (vs' := [.int (y : Nat), .int (t.day : Nat)]) (Evl.ev_var rfl) (O.ex e1).obj (lOffice_bearing _ _) (ea_two (Evl.ev_var rfl) (ev_fld (Evl.ev_var rfl) (e1 _ _ hp) T.c_Trip T.a_Trip_day (lTrip_day _ _ _ _))) fun H4 e4 Q' q' => ⟨A, s, y, t.day, rfl, O.ex (e1.trans e4), hk y hy, fun H5 e5 => q' H5 e5⟩
    · refine ⟨pl, (t.full.map fun k => s.bears k t.day).map fun n : Nat => (n : Int), (100000 : Int), rfl, rfl, SqL.of ?_, ?_⟩
      · rw [h1, filter_yes, List.map_map, List.map_map]
        rfl
      · have z := minOr_nat 100000 (t.full.map fun k => s.bears k t.day) (fun n m => by
          obtain ⟨j, _, rfl⟩ := List.mem_map.mp m
          exact bears_le wf.bears)
        have e : ((100000 : Nat) : Int) = (100000 : Int) := rfl
        rw [← e, z, ← bearsAll_eq]
        exact k H1 e1
end
end Th
namespace Th
open PySem PySem.Spec PyProof.Rows L2
open TimHaul (Road Limit Truck Lot Trip Office before)
open Evl (Ex Ev EvL EvT EvA)
section
variable {PP : Program} {w : World} {K : PySem.W.Frag} {mg : Str → Option Value} {base : Heap}
def sp_excess (K : PySem.W.Frag) : Sp := fun vs H Q _ => ∃ (A : OA) (s : Office) (p dx la ra : Addr) (t : Trip), vs = [.ref A.a, .ref p] ∧ OffR K H A s ∧ Wf s ∧ H p = some (.ins (He.ga K "Trip") dx (fTrip t la ra false)) ∧ H la = some (.lst (nv t.lots)) ∧ H ra = some (.lst (nv t.full)) ∧ TripOk s t ∧
  ∀ q H', H q = none → Ex H H' → H' q = some (.tup [.int (((s.above t).1 : Nat) : Int), .int (((s.above t).2 : Nat) : Int)]) → Q (.ref q) H'
theorem sc_excess : FnScope (["office", "trip", "truck", "weight"] : List Str) ["office", "trip"] (defScope s_excess) := ⟨rfl, rfl, rfl, by decide +kernel, rfl, by decide +kernel, by decide +kernel⟩
theorem c_excess (T : Txt K mg) (C_known_weight : Cal PP w K mg base 2 (He.ga K "known_weight") ["office", "trip"] (sp_known_weight K)) (C_least_bearing : Cal PP w K mg base 2 (He.ga K "least_bearing") ["office", "trip"] (sp_least_bearing K)) : Cal PP w K mg base 3 (He.ga K "excess") ["office", "trip"] (sp_excess K) := by
  refine Cal.of T.f_excess sc_excess (fun vs H Q E h => ?_) (fun _ _ _ _ _ _ us hl => match us, hl with | [_, _], _ => rfl) (fun cdv A outer s H vs Q E hr h => ?_)
  · obtain ⟨A, s, p, dx, la, ra, t, rfl, O, wf, hp, hla, hra, ok, k⟩ := h
    rfl
  · obtain ⟨A, s, p, dx, la, ra, t, rfl, O, wf, hp, hla, hra, ok, k⟩ := h
    refine ⟨_, (pss_cons (ps_set (i := 2) sc_excess.nd rfl (Or.inl rfl) (pe_ix ix_list (pe_fld (pv 0) rfl) (pe_fld (pv 1) rfl) (fun _ _ => rfl)))
      (pss_cons (ps_set (i := 3) sc_excess.nd rfl (Or.inl rfl) (pe_cal C_known_weight (hr.mono (by decide)) (by rfl) T.g_known_weight (pa_cons (pv 0) (pa_cons (pv 1) pa_nil))))
      (pss_one (ps_ret (pe_tup (pa_cons (pe_callB (cr_max2 rfl) (by rfl) T.n_max (by decide +kernel) (pa_cons pe_int (pa_cons (pe_op op_sub (pv 3) (pe_fld (pv 2) rfl)) pa_nil))) (pa_cons (pe_callB (cr_max2 rfl) (by rfl) T.n_max (by decide +kernel) (pa_cons pe_int (pa_cons (pe_op op_sub (pe_op op_add (pe_fld (pv 2) rfl) (pv 3)) (pe_cal C_least_bearing (hr.mono (by decide)) (by rfl) T.g_least_bearing (pa_cons (pv 0) (pa_cons (pv 1) pa_nil)))) pa_nil))) pa_nil))))))), ?_⟩
    obtain ⟨pt, dt, hpt, It⟩ := O.truckp ok.1
    refine Evl.q_asg (ev_atL (evO_trucks T O (Evl.ev_var rfl)) (ev_fld (Evl.ev_var rfl) hp T.c_Trip T.a_Trip_truck (lTrip_truck _ _ _ _)) O.lt hpt) fun H1 e1 => ?_
    refine Evl.q_asg (ev_fn (vs := [.ref A.a, .ref p]) (v := .int ((s.weighs t : Nat) : Int)) (ea_two (Evl.ev_var rfl) (Evl.ev_var rfl)) fun H2 e2 Q2 q2 => ⟨A, s, p, dx, la, ra, t, rfl, O.ex (e1.trans e2), (e1.trans e2) _ _ hp, (e1.trans e2) _ _ hla, ok, q2⟩) fun H2 e2 => ?_
    have e12 := e1.trans e2
    have It2 := e12 _ _ It
    refine s_retG (Q := Q) rfl (k_tup (k_cons (k_ev (v := .int (((s.above t).1 : Nat) : Int)) (Evl.ev_is (ev_max2 Evl.ev_c (Evl.ev_op (Evl.ev_var rfl) (ev_fld (Evl.ev_var rfl) It2 T.c_Truck T.a_Truck_loadable (lTruck_loadable _)) Evl.rv_I0)) (congrArg V.int ?_)) fun H3 e3 => k_cons (k_ev (v := .int (((s.above t).2 : Nat) : Int)) (Evl.ev_is (ev_max2 Evl.ev_c (Evl.ev_op (Evl.ev_op (ev_fld (Evl.ev_var rfl) (e3 _ _ It2) T.c_Truck T.a_Truck_empty (lTruck_empty _)) (Evl.ev_var rfl) Evl.rv_I0) (ev_fn (vs := [.ref A.a, .ref p]) (v := .int ((s.bearsAll t : Nat) : Int)) (ea_two (Evl.ev_var rfl) (Evl.ev_var rfl)) fun H4 e4 Q4 q4 => ⟨A, s, p, dx, la, ra, t, rfl, O.ex ((e12.trans e3).trans e4), wf, ((e12.trans e3).trans e4) _ _ hp, ((e12.trans e3).trans e4) _ _ hra, ok, q4⟩) Evl.rv_I0)) (congrArg V.int ?_)) fun H4 e4 => k_nil ⟨by show 2 ≤ sizeLine; decide, fun q nq => ?_⟩))))
    · show max (0 : Int) (((s.weighs t : Nat) : Int) - ((s.truck t.truck).payload : Nat)) = ((s.weighs t - (s.truck t.truck).payload : Nat) : Int)
      omega
    · show max (0 : Int) ((((s.truck t.truck).tare : Nat) : Int) + ((s.weighs t : Nat) : Int) - ((s.bearsAll t : Nat) : Int)) = (((s.truck t.truck).tare + s.weighs t - s.bearsAll t : Nat) : Int)
      omega
    · have e14 := ((e12.trans e3).trans e4)
      exact k q _ (Evl.fresh_back e14 nq) (e14.trans (ex_upd nq)) upd_same
end
end Th
namespace Th
open PySem PySem.Spec PyProof.Rows L2
open TimHaul (Road Limit Truck Lot Trip Office before)
open Evl (Ex Ev EvL EvT EvA)
section
variable {PP : Program} {w : World} {K : PySem.W.Frag} {mg : Str → Option Value} {base : Heap}
def overOf (s : Office) (k : Nat) : List Nat := if (s.above (tripD s k)).1 = 0 ∧ (s.above (tripD s k)).2 = 0 then [] else [k, (s.above (tripD s k)).1, (s.above (tripD s k)).2]
theorem over_go (s : Office) : ∀ (l : List (Option Trip)) (n : Nat), (∀ i t, l[i]? = some (some t) → tripD s (n + i) = t) → (l.zipIdx n).flatMap (fun (x : Option Trip × Nat) => match x.1 with
  | none => []
  | some t => if (s.above t).1 = 0 ∧ (s.above t).2 = 0 then [] else [x.2, (s.above t).1, (s.above t).2]) = (((l.zipIdx n).filter fun x => x.1.isSome).map Prod.snd).flatMap (overOf s)
  | [], _, _ => rfl
  | o :: l, n, h => by
    have ih := over_go s l (n + 1) fun i t e => by
      have := h (i + 1) t e
      rw [show n + 1 + i = n + (i + 1) by omega]
      exact this
    rw [List.zipIdx_cons, List.flatMap_cons, ih, List.filter_cons]
    cases o with
    | none => rfl
    | some t =>
      have e := h 0 t rfl
      show _ = (n :: _).flatMap (overOf s)
      rw [List.flatMap_cons]
      congr 1
      unfold overOf
      rw [show tripD s n = t from e]
theorem over_eq (s : Office) : s.over = (standing s).flatMap (overOf s) := by
  have z := over_go s s.trips 0 fun i t e => by rw [Nat.zero_add]; exact tripD_of e
  exact z
theorem over_len (s : Office) : ∀ l : List Nat, (l.flatMap (overOf s)).length ≤ 3 * l.length
  | [] => Nat.le_refl _
  | x :: l => by
    have ih := over_len s l
    rw [List.flatMap_cons, List.length_append, List.length_cons]
    have : (overOf s x).length ≤ 3 := by
      unfold overOf
      split
      · exact Nat.zero_le _
      · exact Nat.le_refl _
    omega
def sp_tell_over (K : PySem.W.Frag) : Sp := fun vs H Q _ => ∃ (G : Hp) (A : OA) (s : Office) (rn : Addr), vs = [.ref A.a, .ref rn] ∧ OffM K G H A s ∧ Done K .over G H A s Q
theorem sc_tell_over : FnScope (["office", "numbers", "answer", "at", "by_truck", "by_road"] : List Str) ["office", "numbers"] (defScope s_tell_over) := ⟨rfl, rfl, rfl, by decide +kernel, rfl, by decide +kernel, by decide +kernel⟩
theorem c_tell_over (T : Txt K mg) (C_Office_standing_trips : Cal PP w K mg base 1 (He.ma K (He.ga K "Office") "standing_trips") ["self"] (sp_Office_standing_trips K)) (C_excess : Cal PP w K mg base 3 (He.ga K "excess") ["office", "trip"] (sp_excess K)) : Cal PP w K mg base 4 (He.ga K "tell_over") ["office", "numbers"] (sp_tell_over K) := by
  refine Cal.of T.f_tell_over sc_tell_over (fun vs H Q E h => ?_) (fun _ _ _ _ _ _ us hl => match us, hl with | [_, _], _ => rfl) (fun cdv A outer s H vs Q E hr h => ?_)
  · obtain ⟨G, A, s, rn, rfl, O, k⟩ := h
    rfl
  · obtain ⟨G, A, s, rn, rfl, O, k⟩ := h
    refine ⟨_, (pss_cons (ps_set (i := 2) sc_tell_over.nd rfl (Or.inl rfl) (pe_lst (pa_cons pe_int pa_nil)))
      (pss_cons (ps_for PassesOwn.never rfl (pi_list (pe_cmeth0 (pv 0) T.c_Office T.m_Office_standing_trips C_Office_standing_trips (hr.mono (by decide)))) (pg_name (i := 3) sc_tell_over.nd rfl (Or.inl rfl))
      (pss_cons (ps_asg (pe_cal C_excess (hr.mono (by decide)) (by rfl) T.g_excess (pa_cons (pv 0) (pa_cons (pe_ix ix_list (pe_fld (pv 0) rfl) (pv 3) (fun _ _ => rfl)) pa_nil))) (pg_tup rfl (pgs_cons (pg_name (i := 4) sc_tell_over.nd rfl (Or.inl rfl)) (pgs_cons (pg_name (i := 5) sc_tell_over.nd rfl (Or.inl rfl)) pgs_nil))))
      (pss_one (ps_if (PW.pt (pw_or (pt_cmpR op_gt (pv 4) pe_int (nomark _)) (pw_or1 (pt_cmpR op_gt (pv 5) pe_int (nomark _))))) (pss_one (ps_expr (pe_bm PySem.F.plainAttrs_list PySem.F.slot_list_extend PySem.F.type_list_extend mt_extend (pv 2) (pa_cons (pe_lst (pa_cons (pv 3) (pa_cons (pv 4) (pa_cons (pv 5) pa_nil)))) pa_nil)))) pss_nil))))
      (pss_one (ps_ret (pv 2))))), ?_⟩
    have hl := standing_len s
    have h24 := O.wf.p24
    refine Evl.q_asgL (el_is (Evl.el_lst (ea_one Evl.ev_c) (by show 1 ≤ 100000; decide)) (show _ = nv [0] from rfl)) fun b H1 nb e1 h1 => ?_
    refine q_forK (k_evL (el_standing (O.offR.ex e1) O.wf.p24 (Evl.ev_var rfl)) fun ps H2 nps e2 h2 => ⟨ps, rfl, ⟨_, SqL.of h2⟩, ?_⟩)
    have psb : ps ≠ b := fun z => by rw [z, h1] at nps; cases nps
    have nps0 : H ps = none := Evl.fresh_back e1 nps
    have h2d : del H2 b ps = some (.lst (nv (standing s))) := by rw [del_ne psb]; exact h2
    refine loop_list (K := K) (xs := nv (standing s)) (fun i σ H' => (∃ v3 v4 v5, σ = [some (.ref A.a), some (.ref rn), some (.ref b), v3, v4, v5]) ∧ Ex (del H2 b) (del H' b) ∧ H' b = some (.lst (nv (0 :: ((standing s).take i).flatMap (overOf s))))) ?_ (fun i σ H' _ p => SqL.of (del_some (p.2.1 _ _ h2d)).1) (fun i v σ H' hv p => ?_) (fun σ H' p => ?_)
    · exact ⟨⟨none, none, none, rfl⟩, Ex.refl _, e2 _ _ h1⟩
    · obtain ⟨⟨v3, v4, v5, rfl⟩, ex, hb⟩ := p
      obtain ⟨j, hj, rfl⟩ := nv_get hv
      have jm := List.mem_of_getElem? hj
      have ed : Ex H (del H2 b) := ex_del nb (e1.trans e2)
      have eH : Ex H H' := (ed.trans ex).trans (del_ex _ _)
      have O' := O.offR.ex eH
      obtain ⟨t, p, dx, la, ra, ht, hp, hI, g1, g2⟩ := trip_at O.offR jm
      have ok : TripOk s t := O.wf.trips t (List.mem_of_getElem? ht)
      have etk : ((standing s).take (i + 1)).flatMap (overOf s) = ((standing s).take i).flatMap (overOf s) ++ overOf s j := by
        rw [take_snoc hj, List.flatMap_append]
        simp
      have eo : overOf s j = if (s.above t).1 = 0 ∧ (s.above t).2 = 0 then [] else [j, (s.above t).1, (s.above t).2] := by
        unfold overOf
        rw [tripD_of ht]
      have len : (((standing s).take i).flatMap (overOf s)).length ≤ 100 := by
        have a1 := over_len s ((standing s).take i)
        have : ((standing s).take i).length ≤ (standing s).length := by rw [List.length_take]; omega
        omega
      have ea : EvA (tCons (tVar 0) (tCons (tOp (rIxL K) (tFld K (tVar 0) "trips") (tVar 3)) tNil)) [some (.ref A.a), some (.ref rn), some (.ref b), some (.int (j : Nat)), v4, v5] H' [.ref A.a, .ref p] := ea_two (Evl.ev_var rfl) (ev_atL (evO_trips T O' (Evl.ev_var rfl)) (Evl.ev_var rfl) O'.lp hp)
      refine q_asgG (k_call ea fun H3 e3 => ⟨A, s, p, dx, la, ra, t, rfl, O'.ex e3, O.wf, (eH.trans e3) _ _ hI, (eH.trans e3) _ _ g1, (eH.trans e3) _ _ g2, ok, fun q H4 nq e4 h4 => ?_⟩)
      refine ⟨q, _, rfl, SqT.of h4, rfl, _, _, rfl, _, _, rfl, rfl, ?_⟩
      have e34 := e3.trans e4
      rw [etk, eo]
      generalize (s.above t).1 = x1
      generalize (s.above t).2 = x2
      refine Evl.s_when (b := decide (0 < x1) || decide (0 < x2)) (Evl.et_or (Evl.et_is (Evl.et_test (Evl.ev_op (Evl.ev_var rfl) Evl.ev_c Evl.rv_I0)) (decide_eq_decide.mpr (by omega))) fun _ => Evl.et_is (Evl.et_test (Evl.ev_op (Evl.ev_var rfl) Evl.ev_c Evl.rv_I0)) (decide_eq_decide.mpr (by omega))) (fun hz H5 e5 => ?_) (fun hz H5 e5 => ?_)
      · have hne : ¬ (x1 = 0 ∧ x2 = 0) := by simp at hz; omega
        rw [if_neg hne]
        have hb5 := (e34.trans e5) _ _ hb
        have en : EvL (tLst (tCons (tVar 3) (tCons (tVar 4) (tCons (tVar 5) tNil)))) [some (.ref A.a), some (.ref rn), some (.ref b), some (.int (j : Nat)), some (.int (x1 : Nat)), some (.int (x2 : Nat))] H5 (nv [j, x1, x2]) := Evl.el_lst (Evl.ea_cons (Evl.ev_var rfl) (ea_two (Evl.ev_var rfl) (Evl.ev_var rfl))) (by show 3 ≤ 100000; decide)
        refine ⟨_, rfl, Or.inl ⟨rfl, _, SqL.of hb5⟩, k_cons (k_evL en fun pn H6 npn e6 h6 => k_nil ⟨b, pn, _, _, rfl, rfl, e6 _ _ hb5, h6, ?_, ⟨_, _, _, rfl⟩, ?_, ?_⟩)⟩
        · rw [nv_len, nv_len]
          refine Evl.sz_of ?_
          show (_ :: _).length + 3 ≤ 100000
          rw [List.length_cons]
          omega
        · rw [del_upd]
          exact ex.trans (del_mono ((e34.trans e5).trans e6))
        · rw [upd_same]
          simp [nv]
      · have he : x1 = 0 ∧ x2 = 0 := by simp at hz; omega
        rw [if_pos he, List.append_nil]
        exact ⟨⟨_, _, _, rfl⟩, ex.trans (del_mono (e34.trans e5)), (e34.trans e5) _ _ hb⟩
    · obtain ⟨⟨v3, v4, v5, rfl⟩, ex, hb⟩ := p
      rw [nv_len, List.take_length, ← over_eq] at hb
      refine Evl.s_ret (Evl.ev_var rfl) fun H3 e3 => ?_
      have ed : Ex H (del H2 b) := ex_del nb (e1.trans e2)
      have eH : Ex H H3 := ((ed.trans ex).trans (del_ex _ _)).trans e3
      refine k.query O (x := WrtihaSpec.tells s.over) rfl (exD_of eH) (fun a o ha _ z => by rw [← z, nb] at ha; cases ha) ?_
      rw [e3 _ _ hb]
      unfold ansV WrtihaSpec.tells nv
      simp
end
end Th
namespace Th
open PySem PySem.Spec PyProof.Rows L2
open TimHaul (Road Limit Truck Lot Trip Office before)
open Evl (Ex Ev EvL EvT EvA)
section
variable {PP : Program} {w : World} {K : PySem.W.Frag} {mg : Str → Option Value} {base : Heap}
def sp_tell_left (K : PySem.W.Frag) : Sp := fun vs H Q _ => ∃ (G : Hp) (A : OA) (s : Office) (rn : Addr), vs = [.ref A.a, .ref rn] ∧ OffM K G H A s ∧ Done K .left G H A s Q
theorem sc_tell_left : FnScope (["office", "numbers"] : List Str) ["office", "numbers"] (defScope s_tell_left) := ⟨rfl, rfl, rfl, by decide +kernel, rfl, by decide +kernel, by decide +kernel⟩
theorem c_tell_left (T : Txt K mg) (C_Office_lots_left : Cal PP w K mg base 2 (He.ma K (He.ga K "Office") "lots_left") ["self"] (sp_Office_lots_left K)) : Cal PP w K mg base 3 (He.ga K "tell_left") ["office", "numbers"] (sp_tell_left K) := by
  refine Cal.of T.f_tell_left sc_tell_left (fun vs H Q E h => ?_) (fun _ _ _ _ _ _ us hl => match us, hl with | [_, _], _ => rfl) (fun cdv A outer s H vs Q E hr h => ?_)
  · obtain ⟨G, A, s, rn, rfl, O, k⟩ := h
    rfl
  · obtain ⟨G, A, s, rn, rfl, O, k⟩ := h
    refine ⟨_, (pss_one (ps_ret (pe_op op_cat (pe_lst (pa_cons pe_int pa_nil)) (pe_cmeth0 (pv 0) T.c_Office T.m_Office_lots_left C_Office_lots_left (hr.mono (by decide)))))), ?_⟩
    refine s_tells (Q := Q) (l := s.left) rfl (ExD.refl _) k O rfl (el_cat (xs := [.int 0]) (ys := nv s.left) (Evl.el_lst (ea_one Evl.ev_c) (by show 1 ≤ 100000; decide)) (el_left O.offR O.wf (Evl.ev_var rfl)) ?_)
    rw [nv_len]
    have := left_len s
    have := O.wf.lo24
    show 1 + _ ≤ _
    omega
end
end Th
namespace Th
open PySem PySem.Spec PyProof.Rows L2
open TimHaul (Road Limit Truck Lot Trip Office before)
open Evl (Ex Ev EvL EvT EvA)
section
variable {PP : Program} {w : World} {K : PySem.W.Frag} {mg : Str → Option Value} {base : Heap}
def sp_costs (K : PySem.W.Frag) : Sp := fun vs H Q _ => ∃ (w m : Nat), vs = [.int (w : Int), .int (m : Int)] ∧
  ∀ p H', H p = none → Ex H H' → H' p = some (.tup [.int ((if w = 0 then m else 1 : Nat) : Int), .int ((if w = 0 then 1 else m : Nat) : Int)]) → Q (.ref p) H'
theorem sc_costs : FnScope (["what", "metres"] : List Str) ["what", "metres"] (defScope s_costs) := ⟨rfl, rfl, rfl, by decide +kernel, rfl, by decide +kernel, by decide +kernel⟩
theorem c_costs (T : Txt K mg) : Cal PP w K mg base 1 (He.ga K "costs") ["what", "metres"] (sp_costs K) := by
  refine Cal.of T.f_costs sc_costs (fun vs H Q E h => ?_) (fun _ _ _ _ _ _ us hl => match us, hl with | [_, _], _ => rfl) (fun cdv A outer s H vs Q E hr h => ?_)
  · obtain ⟨w', m, rfl, k⟩ := h
    rfl
  · obtain ⟨w', m, rfl, k⟩ := h
    refine ⟨_, (pss_one (ps_ret (pe_ifExp (pt_cmpR op_eq (pv 0) pe_int (nomark _)) (pe_tup (pa_cons (pv 1) (pa_cons pe_int pa_nil))) (pe_tup (pa_cons pe_int (pa_cons (pv 1) pa_nil)))))), ?_⟩
    refine s_retG (Q := Q) rfl ?_
    refine k_test (tt := tTest _) (Evl.et_test (ev_eqI (Evl.ev_var rfl) Evl.ev_c)) fun H1 e1 => ?_
    by_cases h0 : w' = 0
    · have d : decide ((w' : Int) = 0) = true := decide_eq_true (by omega)
      rw [d]
      refine ite_t rfl ?_
      refine k_tup (k_cons (k_ev (Evl.ev_var rfl) fun H2 e2 => k_cons (k_ev Evl.ev_c fun H3 e3 => k_nil ⟨by show 2 ≤ sizeLine; decide, fun p np => ?_⟩)))
      have e123 := (e1.trans e2).trans e3
      refine k p _ (Evl.fresh_back e123 np) (e123.trans (ex_upd np)) ?_
      rw [upd_same, if_pos h0, if_pos h0]
      rfl
    · have d : decide ((w' : Int) = 0) = false := decide_eq_false (by omega)
      rw [d]
      refine ite_f rfl ?_
      refine k_tup (k_cons (k_ev Evl.ev_c fun H2 e2 => k_cons (k_ev (Evl.ev_var rfl) fun H3 e3 => k_nil ⟨by show 2 ≤ sizeLine; decide, fun p np => ?_⟩)))
      have e123 := (e1.trans e2).trans e3
      refine k p _ (Evl.fresh_back e123 np) (e123.trans (ex_upd np)) ?_
      rw [upd_same, if_neg h0, if_neg h0]
      rfl
end
end Th
namespace Th
open TimHaul (Road Limit Truck Lot Trip Office before firstOf part picked)
/-! ### plans, set by set -/
def stp (b : Option (List Nat)) (x : List Nat) : Option (List Nat) := match b with
  | none => some x
  | some y => if before x y = true then some x else some y
theorem firstOf_eq (l : List (List Nat)) : firstOf l = l.foldl stp none := rfl
theorem firstOf_cons (a : Option (List Nat)) (l : List (List Nat)) : firstOf (a.toList ++ l) = l.foldl stp a := by
  rw [firstOf_eq, List.foldl_append]
  cases a with
  | none => rfl
  | some x => rfl
def stpO (b : Option (List Nat)) (o : Option (List Nat)) : Option (List Nat) := match o with
  | none => b
  | some x => stp b x
/-- each place bettered by what f gives it, up to place j -/
def betJ (f : Nat → Option (List Nat)) (b : Tab) (j : Nat) : Tab := (List.range b.length).map fun m => if m < j then stpO (at' b m) (f m) else at' b m
theorem betJ_len (f : Nat → Option (List Nat)) (b : Tab) (j : Nat) : (betJ f b j).length = b.length := by simp [betJ]
theorem betJ_at {f : Nat → Option (List Nat)} {b : Tab} {j m : Nat} (h : m < b.length) : at' (betJ f b j) m = if m < j then stpO (at' b m) (f m) else at' b m := by
  show (betJ f b j).getD m none = _
  unfold betJ
  rw [List.getD_eq_getElem?_getD, List.getElem?_map, List.getElem?_range h]
  rfl
theorem at_get {t : Tab} {i : Nat} (h : i < t.length) : t[i]? = some (at' t i) := by
  rw [List.getElem?_eq_getElem h]
  show some _ = some (t.getD i none)
  rw [List.getD_eq_getElem?_getD, List.getElem?_eq_getElem h]
  rfl
theorem tab_ext {t u : Tab} (hl : t.length = u.length) (h : ∀ m, m < t.length → at' t m = at' u m) : t = u := by
  refine List.ext_getElem? fun i => ?_
  by_cases hi : i < t.length
  · rw [at_get hi, at_get (by omega), h i hi]
  · rw [List.getElem?_eq_none (by omega), List.getElem?_eq_none (by omega)]
theorem betJ_zero (f : Nat → Option (List Nat)) (b : Tab) : betJ f b 0 = b := tab_ext (betJ_len f b 0) fun m h => by
  rw [betJ_len] at h
  rw [betJ_at h, if_neg (by omega)]
theorem at_setM {t : Tab} {j m : Nat} {o : Option (List Nat)} (h : j < t.length) : at' (t.set j o) m = if m = j then o else at' t m := by
  show (t.set j o).getD m none = _
  rw [List.getD_eq_getElem?_getD, List.getElem?_set]
  by_cases e : m = j
  · subst e; rw [if_pos rfl, if_pos h, if_pos rfl]; rfl
  · rw [if_neg (Ne.symm e), if_neg e, ← List.getD_eq_getElem?_getD]
theorem betJ_succ {f : Nat → Option (List Nat)} {b : Tab} {j : Nat} (h : j < b.length) : betJ f b (j + 1) = (betJ f b j).set j (stpO (at' b j) (f j)) := tab_ext (by rw [List.length_set, betJ_len, betJ_len]) fun m hm => by
  rw [betJ_len] at hm
  rw [betJ_at hm, at_setM (by rw [betJ_len]; exact h), betJ_at hm]
  by_cases e : m = j
  · subst e; rw [if_pos (by omega), if_pos rfl]
  · rw [if_neg e]
    by_cases l : m < j
    · rw [if_pos (by omega), if_pos l]
    · rw [if_neg (by omega), if_neg l]
theorem set_same {t : Tab} {j : Nat} (h : j < t.length) : t.set j (at' t j) = t := tab_ext (by rw [List.length_set]) fun m hm => by
  rw [at_setM h]
  by_cases e : m = j
  · rw [if_pos e, e]
  · rw [if_neg e]
/-- what an option makes of a set's rest -/
def optPlan (w : Nat) (x : Nat × Nat) (l : List Nat) (t : Tab) (y : Nat × Nat) (m : Nat) : Option (List Nat) := if part y.1 m = false then none else (t.getD (m - y.1) none).map fun (p : List Nat) => TimHaul.Plan.with_ w x (picked l y.1) y.2 p
def betAll (f : Nat × Nat → Nat → Option (List Nat)) (b : Tab) (os : List (Nat × Nat)) : Tab := os.foldl (fun b y => betJ (f y) b b.length) b
theorem betAll_snoc (f : Nat × Nat → Nat → Option (List Nat)) (b : Tab) (os : List (Nat × Nat)) (y : Nat × Nat) : betAll f b (os ++ [y]) = betJ (f y) (betAll f b os) (betAll f b os).length := by
  unfold betAll
  rw [List.foldl_append]
  rfl
theorem betAll_len (f : Nat × Nat → Nat → Option (List Nat)) : ∀ (os : List (Nat × Nat)) (b : Tab), (betAll f b os).length = b.length
  | [], b => rfl
  | y :: os, b => by
    show (betAll f (betJ (f y) b b.length) os).length = _
    rw [betAll_len f os, betJ_len]
theorem betAll_at (f : Nat × Nat → Nat → Option (List Nat)) {m : Nat} : ∀ (os : List (Nat × Nat)) (b : Tab), m < b.length → at' (betAll f b os) m = (os.filterMap fun y => f y m).foldl stp (at' b m)
  | [], b, h => rfl
  | y :: os, b, h => by
    show at' (betAll f (betJ (f y) b b.length) os) m = _
    rw [betAll_at f os _ (by rw [betJ_len]; exact h), betJ_at h, if_pos h, List.filterMap_cons]
    cases f y m with
    | none => rfl
    | some x => rfl
/-- THE LAW: one slot more -/
theorem plans_cons (s : Office) (w : Nat) (l : List Nat) (x : Nat × Nat) (r : List (Nat × Nat)) {t : Tab} (ht : (s.plans w l r).toList = t) (hl : t.length = 2 ^ l.length) : (s.plans w l (x :: r)).toList = betAll (optPlan w x l t) t (s.options l x) := by
  have e : ∀ k, (s.plans w l r).getD k none = at' t k := fun k => by
    show _ = t.getD k none
    rw [← ht]
    simp [Array.getD_eq_getD_getElem?, List.getD_eq_getElem?_getD]
  refine tab_ext ?_ fun m hm => ?_
  · rw [betAll_len, hl]
    show ((List.range (2 ^ l.length)).map _).toArray.toList.length = _
    simp
  · have hm' : m < 2 ^ l.length := by
      have : ((List.range (2 ^ l.length)).map (fun m => firstOf (((s.plans w l r).getD m none).toList ++ (s.options l x).filterMap fun (y : Nat × Nat) => if part y.1 m = false then none else ((s.plans w l r).getD (m - y.1) none).map fun (p : List Nat) => TimHaul.Plan.with_ w x (picked l y.1) y.2 p))).toArray.toList.length = 2 ^ l.length := by simp
      rw [← this]
      exact hm
    rw [betAll_at _ _ _ (by rw [hl]; exact hm')]
    show (((List.range (2 ^ l.length)).map (fun m => firstOf (((s.plans w l r).getD m none).toList ++ (s.options l x).filterMap fun (y : Nat × Nat) => if part y.1 m = false then none else ((s.plans w l r).getD (m - y.1) none).map fun (p : List Nat) => TimHaul.Plan.with_ w x (picked l y.1) y.2 p))).toArray.toList).getD m none = _
    rw [List.getD_eq_getElem?_getD]
    simp only [List.getElem?_map, List.getElem?_range hm']
    show firstOf _ = _
    rw [firstOf_cons, e]
    congr 1
    refine congrArg (fun f => List.filterMap f (s.options l x)) (funext fun y => ?_)
    unfold optPlan
    rw [e]
theorem plans_nil (s : Office) (w : Nat) (l : List Nat) : (s.plans w l []).toList = (List.range (2 ^ l.length)).map fun (m : Nat) => if m = 0 then some [0, 0] else none := rfl
theorem plans_len (s : Office) (w : Nat) (l : List Nat) (r : List (Nat × Nat)) : (s.plans w l r).toList.length = 2 ^ l.length := by
  cases r with
  | nil => rw [plans_nil]; simp
  | cons x r =>
    show ((List.range (2 ^ l.length)).map _).toArray.toList.length = _
    simp
theorem part_le {o m : Nat} (h : part o m = true) : o ≤ m := by
  have e : o &&& m = o := by simpa [part] using h
  have := Nat.and_le_right (n := o) (m := m)
  omega
theorem foldl_stp_mem : ∀ (l : List (List Nat)) (b : Option (List Nat)) {x : List Nat}, l.foldl stp b = some x → b = some x ∨ x ∈ l
  | [], b, x, h => .inl h
  | y :: l, b, x, h => by
    rcases foldl_stp_mem l (stp b y) h with z | z
    · unfold stp at z
      cases b with
      | none => cases z; exact .inr List.mem_cons_self
      | some w =>
        dsimp only at z
        split at z
        · cases z; exact .inr List.mem_cons_self
        · exact .inl z
    · exact .inr (List.mem_cons_of_mem _ z)
theorem picked_le (l : List Nat) (m : Nat) : (picked l m).length ≤ l.length := by
  unfold TimHaul.picked
  rw [List.length_map]
  exact Nat.le_trans (List.length_filter_le _ _) (by rw [List.length_zipIdx]; exact Nat.le_refl _)
theorem bnd_at {t : Tab} {B : Nat} (h : ∀ m d, at' t m = some d → d.length ≤ B) : Bnd t B := fun o mo d e => by
  obtain ⟨i, hi⟩ := List.getElem?_of_mem mo
  have hl := (List.getElem?_eq_some_iff.mp hi).1
  have z := at_get hl
  rw [hi] at z
  subst e
  exact h i d (Option.some.inj z).symm
theorem betAll_bnd {w : Nat} {x : Nat × Nat} {l : List Nat} {t : Tab} {os : List (Nat × Nat)} {B : Nat} (h : Bnd t B) (hl : l.length ≤ 8) : Bnd (betAll (optPlan w x l t) t os) (B + 13) := bnd_at fun m d e => by
  by_cases hm : m < t.length
  · rw [betAll_at _ _ _ hm] at e
    rcases foldl_stp_mem _ _ e with z | z
    · have := h.at z; omega
    · obtain ⟨y, _, hy⟩ := List.mem_filterMap.mp z
      unfold optPlan at hy
      split at hy
      · cases hy
      · cases q : t.getD (m - y.1) none with
        | none => rw [q] at hy; cases hy
        | some p =>
          rw [q] at hy
          cases hy
          have hp : p.length ≤ B := h.at q
          have hg := picked_le l y.1
          unfold TimHaul.Plan.with_
          simp
          omega
  · have z : at' (betAll (optPlan w x l t) t os) m = none := by
      show (betAll (optPlan w x l t) t os).getD m none = none
      rw [List.getD_eq_getElem?_getD, List.getElem?_eq_none (by rw [betAll_len]; omega)]
      rfl
    rw [z] at e
    cases e
end Th
namespace Th
open PySem PySem.Spec PyProof.Rows L2
open TimHaul (Road Limit Truck Lot Trip Office before)
open Evl (Ex Ev EvL EvT EvA)
section
variable {PP : Program} {w : World} {K : PySem.W.Frag} {mg : Str → Option Value} {base : Heap}
def pickV (xs : List V) (m : Nat) : List V := (xs.zipIdx.filter fun x => m.testBit x.2).map Prod.fst
theorem pickV_nv (l : List Nat) (m : Nat) : pickV (nv l) m = nv (TimHaul.picked l m) := by
  unfold pickV nv TimHaul.picked
  rw [List.zipIdx_map, List.filter_map, List.map_map, List.map_map]
  rfl
def sp_chosen (K : PySem.W.Frag) : Sp := fun vs H Q _ => ∃ (a : Addr) (xs : List V) (m : Nat), vs = [.ref a, .int (m : Int)] ∧ SqL K H a xs ∧ xs.length ≤ 40 ∧
  ∀ p H', H p = none → Ex H H' → H' p = some (.lst (pickV xs m)) → Q (.ref p) H'
theorem bit_test (m k : Nat) : decide (Builtin.bitAnd ((m : Int) / 2 ^ ((k : Int)).toNat) 1 = 1) = m.testBit k := by
  rw [bitAnd_m1, Int.toNat_natCast, Nat.testBit_eq_decide_div_mod_eq]
  have e : ((m : Int) / 2 ^ k) % 2 = ((m / 2 ^ k % 2 : Nat) : Int) := by
    rw [Int.natCast_emod, Int.natCast_ediv, Int.natCast_pow]
    rfl
  rw [e]
  exact decide_eq_decide.mpr (by omega)
theorem sc_chosen : FnScope (["things", "choice", "at", "thing"] : List Str) ["things", "choice"] (defScope s_chosen) := ⟨rfl, rfl, rfl, by decide +kernel, rfl, by decide +kernel, by decide +kernel⟩
theorem c_chosen (T : Txt K mg) : Cal PP w K mg base 1 (He.ga K "chosen") ["things", "choice"] (sp_chosen K) := by
  refine Cal.of T.f_chosen sc_chosen (fun vs H Q E h => ?_) (fun _ _ _ _ _ _ us hl => match us, hl with | [_, _], _ => rfl) (fun cdv A outer s H vs Q E hr h => ?_)
  · obtain ⟨a, xs, m, rfl, hx, hl, k⟩ := h
    rfl
  · obtain ⟨a, xs, m, rfl, hx, hl, k⟩ := h
    refine ⟨_, (pss_one (ps_ret (pe_lc (own := [("at", 2), ("thing", 3)]) (g := (gTup K 2 (gCons (gName 2) (gCons (gName 3) gNil)))) (tt := (tTest (tOp rEq (tOp rBitAnd (tOp rRShift (tVar 1) (tVar 2)) (tC (.int 1))) (tC (.int 1))))) (te := (tVar 3)) rfl sc_chosen.nd (pi_enum (by rfl) T.n_enumerate (pa_cons (pv 0) pa_nil)) (blkOk_by (own := [("at", 2), ("thing", 3)]) (N := (["things", "choice", "at", "thing"] : List Str)) (sc := defScope s_chosen) (by decide +kernel)) (fun _ _ _ _ _ => (pg_tup rfl (pgs_cons (pg_name (i := 2) sc_chosen.nd rfl (Or.inl rfl)) (pgs_cons (pg_name (i := 3) sc_chosen.nd rfl (Or.inl rfl)) pgs_nil)))) (fun _ _ _ _ _ => pts_one (pt_cmpR op_eq (pe_op op_and (pe_op op_shr (pv 1) (pv 2)) pe_int) pe_int (nomark _))) (fun _ _ _ _ _ => (pv 3))))), ?_⟩
    refine Evl.s_retL (el_enum (K := K) (a := a) (ls := xs) (r := id) (fun x => m.testBit x.2) (fun x => x.1) (Evl.ev_var rfl) (by rw [List.map_id]; exact hx) (by omega) (by intro _ _; rfl) (fun j y hy H1 e1 => ?_) (fun j y hy H1 e1 _ => Evl.ev_var rfl)) fun p H1 np e1 h1 => k p H1 np e1 h1
    exact Evl.et_is (Evl.et_test (ev_eqI (Evl.ev_op (Evl.ev_op (Evl.ev_var rfl) (Evl.ev_var rfl) (Evl.rv_I (Int.natCast_nonneg j))) Evl.ev_c Evl.rv_I0) Evl.ev_c)) (bit_test m j)
end
end Th
namespace Th
open PySem PySem.Spec PyProof.Rows L2
open TimHaul (Road Limit Truck Lot Trip Office before)
open Evl (Ex Ev EvL EvT EvA)
section
variable {PP : Program} {w : World} {K : PySem.W.Frag} {mg : Str → Option Value} {base : Heap}
/-- the first four tests -/
def ag4 (s : Office) (t : Truck) (day : Nat) (l : List Nat) : Nat := if l.any (fun (i : Nat) => (s.lot i).place != (s.lot (l.headD 0)).place) = true then 1
  else if l.any (fun (i : Nat) => (s.lot i).mill != (s.lot (l.headD 0)).mill) = true then 2
  else if l.any (fun (i : Nat) => decide (day < (s.lot i).ready) || decide ((s.lot i).due < day)) = true then 3
  else if t.payload < s.kg l then 4
  else 0
def roAt (A : OA) (k : Nat) : V := .ref (A.ro.getD k 0)
theorem roAt_of {A : OA} {k p : Nat} (h : A.ro[k]? = some p) : roAt A k = .ref p := by
  unfold roAt
  rw [List.getD_eq_getElem?_getD, h]
  rfl
def LotsOk (s : Office) (ls : List Nat) : Prop := ls ≠ [] ∧ ls.length ≤ 24 ∧ ∀ i ∈ ls, i < s.lots.length
def sp_against_lots (K : PySem.W.Frag) : Sp := fun vs H Q _ => ∃ (A : OA) (s : Office) (t d : Nat) (ll : Addr) (ls : List Nat), vs = [.ref A.a, .int (t : Int), .int (d : Int), .ref ll] ∧ OffR K H A s ∧ t < s.trucks.length ∧ LotsOk s ls ∧ SqL K H ll (nv ls) ∧
  ∀ H', Ex H H' → Q (.int ((ag4 s (s.truck t) d ls : Nat) : Int)) H'
theorem sc_against_lots : FnScope (["office", "truck", "day", "lots", "things", "lot"] : List Str) ["office", "truck", "day", "lots"] (defScope s_against_lots) := ⟨rfl, rfl, rfl, by decide +kernel, rfl, by decide +kernel, by decide +kernel⟩
theorem c_against_lots (T : Txt K mg) (C_Office_weight : Cal PP w K mg base 1 (He.ma K (He.ga K "Office") "weight") ["self", "lots"] (sp_Office_weight K)) : Cal PP w K mg base 2 (He.ga K "against_lots") ["office", "truck", "day", "lots"] (sp_against_lots K) := by
  refine Cal.of T.f_against_lots sc_against_lots (fun vs H Q E h => ?_) (fun _ _ _ _ _ _ us hl => match us, hl with | [_, _, _, _], _ => rfl) (fun cdv A outer s H vs Q E hr h => ?_)
  · obtain ⟨A, s, t, d, ll, ls, rfl, O, ht, ⟨hne, hz, hall⟩, hl, k⟩ := h
    rfl
  · obtain ⟨A, s, t, d, ll, ls, rfl, O, ht, ⟨hne, hz, hall⟩, hl, k⟩ := h
    refine ⟨_, (pss_cons (ps_set (i := 4) sc_against_lots.nd rfl (Or.inr rfl) (pe_lc (own := [("lot", 5)]) (g := (gName 5)) (tt := tYes) (te := (tOp (rIxL K) (tFld K (tVar 0) "lots") (tVar 5))) rfl sc_against_lots.nd (pi_list (pv 3)) (blkOk_by (own := [("lot", 5)]) (N := (["office", "truck", "day", "lots", "things", "lot"] : List Str)) (sc := defScope s_against_lots) (by decide +kernel)) (fun _ _ _ _ _ => (pg_name (i := 5) sc_against_lots.nd rfl (Or.inl rfl))) (fun _ _ _ _ _ => pts_nil) (fun _ _ _ _ _ => (pe_ix ix_list (pe_fld (pv 0) rfl) (pv 5) (fun _ _ => rfl)))))
      (pss_cons (ps_if (pt_val (pe_callB (cr_any rfl) (by rfl) T.n_any (by decide +kernel) (pa_cons (pe_lc (own := [("lot", 5)]) (g := (gName 5)) (tt := tYes) (te := (tOp rNe (tFld K (tVar 5) "place") (tFld K (tOp (rIxL K) (tVar 4) (tC (.int 0))) "place"))) rfl sc_against_lots.nd (pi_list (pv 4)) (blkOk_by (own := [("lot", 5)]) (N := (["office", "truck", "day", "lots", "things", "lot"] : List Str)) (sc := defScope s_against_lots) (by decide +kernel)) (fun _ _ _ _ _ => (pg_name (i := 5) sc_against_lots.nd rfl (Or.inl rfl))) (fun _ _ _ _ _ => pts_nil) (fun _ _ _ _ _ => (pe_cmpR op_ne (pe_fld (pv 5) rfl) (pe_fld (pe_ix ix_list (pv 4) pe_int (fun _ _ => rfl)) rfl) (nomark _)))) pa_nil))) (pss_one (ps_ret pe_int)) pss_nil)
      (pss_cons (ps_if (pt_val (pe_callB (cr_any rfl) (by rfl) T.n_any (by decide +kernel) (pa_cons (pe_lc (own := [("lot", 5)]) (g := (gName 5)) (tt := tYes) (te := (tOp rNe (tFld K (tVar 5) "mill") (tFld K (tOp (rIxL K) (tVar 4) (tC (.int 0))) "mill"))) rfl sc_against_lots.nd (pi_list (pv 4)) (blkOk_by (own := [("lot", 5)]) (N := (["office", "truck", "day", "lots", "things", "lot"] : List Str)) (sc := defScope s_against_lots) (by decide +kernel)) (fun _ _ _ _ _ => (pg_name (i := 5) sc_against_lots.nd rfl (Or.inl rfl))) (fun _ _ _ _ _ => pts_nil) (fun _ _ _ _ _ => (pe_cmpR op_ne (pe_fld (pv 5) rfl) (pe_fld (pe_ix ix_list (pv 4) pe_int (fun _ _ => rfl)) rfl) (nomark _)))) pa_nil))) (pss_one (ps_ret pe_int)) pss_nil)
      (pss_cons (ps_if (pt_not (pt_val (pe_callB (cr_all rfl) (by rfl) T.n_all (by decide +kernel) (pa_cons (pe_lc (own := [("lot", 5)]) (g := (gName 5)) (tt := tYes) (te := (tChain rLtE rLtE (tFld K (tVar 5) "first") (tVar 2) (tFld K (tVar 5) "last"))) rfl sc_against_lots.nd (pi_list (pv 4)) (blkOk_by (own := [("lot", 5)]) (N := (["office", "truck", "day", "lots", "things", "lot"] : List Str)) (sc := defScope s_against_lots) (by decide +kernel)) (fun _ _ _ _ _ => (pg_name (i := 5) sc_against_lots.nd rfl (Or.inl rfl))) (fun _ _ _ _ _ => pts_nil) (fun _ _ _ _ _ => (pe_chain op_le op_le (pe_fld (pv 5) rfl) (pv 2) (pe_fld (pv 5) rfl)))) pa_nil)))) (pss_one (ps_ret pe_int)) pss_nil)
      (pss_cons (ps_if (pt_cmpR op_gt (pe_cmeth (pv 0) T.c_Office T.m_Office_weight C_Office_weight (hr.mono (by decide)) (pa_cons (pv 3) pa_nil)) (pe_fld (pe_ix ix_list (pe_fld (pv 0) rfl) (pv 1) (fun _ _ => rfl)) rfl) (nomark _)) (pss_one (ps_ret pe_int)) pss_nil)
      (pss_one (ps_ret pe_int))))))), ?_⟩
    refine Evl.q_asgL (el_list (K := K) (a := ll) (ls := ls) (r := fun n : Nat => V.int (n : Int)) (fun _ => true) (roAt A) (Evl.ev_var rfl) hl (by omega) (by intro _; rfl) (fun _ _ _ _ => et_yes) (fun y hy H1 e1 _ => ?_)) (fun p H1 np e1 h1 => ?_)
    · obtain ⟨p, dx, hp, _⟩ := O.lotp (hall y hy)
      rw [roAt_of hp]
      exact ev_atL (evO_lots T (O.ex e1) (Evl.ev_var rfl)) (Evl.ev_var rfl) (e1 _ _ O.lo) hp
    rw [filter_yes] at h1
    have O1 := O.ex e1
    have hd : ls.headD 0 ∈ ls := by
      cases ls with
      | nil => exact absurd rfl hne
      | cons x l => exact List.mem_cons_self
    have h0 : (ls.map (roAt A))[0]? = some (roAt A (ls.headD 0)) := by
      cases ls with
      | nil => exact absurd rfl hne
      | cons x l => rfl
    have lotf : ∀ y ∈ ls, ∀ H2, Ex H1 H2 → ∃ p dx, roAt A y = .ref p ∧ H2 p = some (.ins (He.ga K "Lot") dx (fLot (s.lot y))) := fun y hy H2 e2 => by
      obtain ⟨p, dx, hp, q⟩ := O1.lotp (hall y hy)
      exact ⟨p, dx, roAt_of hp, e2 _ _ q⟩
    have el : ∀ (te : TE) (f : Nat → Bool), (∀ y ∈ ls, ∀ H2, Ex H1 H2 → Ev te [some (.ref A.a), some (.int (t : Int)), some (.int (d : Int)), some (.ref ll), some (.ref p), some (roAt A y)] H2 (.bl (f y))) → EvL (tLc (iList K (tVar 4)) (gName 5) tYes te [5]) [some (.ref A.a), some (.int (t : Int)), some (.int (d : Int)), some (.ref ll), some (.ref p), none] H1 ((ls.map f).map V.bl) := fun te f h =>
      el_is (el_list (K := K) (a := p) (ls := ls) (r := roAt A) (fun _ => true) (fun y => .bl (f y)) (Evl.ev_var rfl) (SqL.of h1) (by omega) (by intro _; rfl) (fun _ _ _ _ => et_yes) (fun y hy H2 e2 _ => h y hy H2 e2)) (by rw [filter_yes, List.map_map]; rfl)
    have zero : ∀ (y : Nat), ∀ H2, Ex H1 H2 → Ev (tOp (rIxL K) (tVar 4) (tC (V.int 0))) [some (.ref A.a), some (.int (t : Int)), some (.int (d : Int)), some (.ref ll), some (.ref p), some (roAt A y)] H2 (roAt A (ls.headD 0)) := fun y H2 e2 =>
      Evl.ev_op (Evl.ev_var rfl) Evl.ev_c (Evl.rv_ixL (SqL.of (e2 _ _ h1)) (atI_nat h0))
    have cmp : ∀ (f : Str) (g : TimHaul.Lot → Nat), (∀ l, (fLot l).lookup f = some (.int (g l : Nat))) → NoAttr K (He.ga K "Lot") f → ∀ y ∈ ls, ∀ H2, Ex H1 H2 → Ev (tOp rNe (tFld K (tVar 5) f) (tFld K (tOp (rIxL K) (tVar 4) (tC (V.int 0))) f)) [some (.ref A.a), some (.int (t : Int)), some (.int (d : Int)), some (.ref ll), some (.ref p), some (roAt A y)] H2 (.bl (g (s.lot y) != g (s.lot (ls.headD 0)))) := fun f g hf na y hy H2 e2 => by
      obtain ⟨q, dx, e, hq⟩ := lotf y hy H2 e2
      obtain ⟨q0, dx0, e0, hq0⟩ := lotf _ hd H2 e2
      have z := zero y H2 e2
      rw [e0] at z
      rw [e] at z ⊢
      refine Evl.ev_is (ev_neI (ev_fld (Evl.ev_var rfl) hq T.c_Lot na (hf _)) (ev_fld z hq0 T.c_Lot na (hf _))) (congrArg V.bl ?_)
      rw [bne, Bool.beq_eq_decide_eq]
      exact congrArg not (decide_eq_decide.mpr (by omega))
    have fin : ∀ {b : Bool} {f : Nat → Bool} {H2 : Hp}, (ls.map f).any id = b → ls.any f = b := fun h => by
      rw [List.any_map] at h
      exact h
    refine Evl.q_when (Evl.et_B (ev_anyN (el _ _ (cmp "place" (fun l => l.place) (fun l => lLot_place l) T.a_Lot_place)))) (fun hc H2 e2 => ?_) (fun hc H2 e2 => ?_)
    · refine Evl.s_ret Evl.ev_c fun H3 e3 => ?_
      have z := k H3 ((e1.trans e2).trans e3)
      unfold ag4 at z
      rw [if_pos (fin (H2 := H) hc)] at z
      exact z
    refine Evl.q_when (Evl.et_B ((ev_anyN (el _ _ (cmp "mill" (fun l => l.mill) (fun l => lLot_mill l) T.a_Lot_mill))).mono e2)) (fun hc2 H3 e3 => ?_) (fun hc2 H3 e3 => ?_)
    · refine Evl.s_ret Evl.ev_c fun H4 e4 => ?_
      have z := k H4 (((e1.trans e2).trans e3).trans e4)
      unfold ag4 at z
      rw [if_neg (by rw [fin (H2 := H) hc]; decide), if_pos (fin (H2 := H) hc2)] at z
      exact z
    refine Evl.q_when (b := !((ls.map fun i => !(decide (d < (s.lot i).ready) || decide ((s.lot i).due < d))).all id)) (Evl.et_not (Evl.et_B ((ev_allN (el _ _ (fun y hy H4 e4 => ?_))).mono (e2.trans e3)))) (fun hc3 H4 e4 => ?_) (fun hc3 H4 e4 => ?_)
    · obtain ⟨q, dx, e, hq⟩ := lotf y hy H4 e4
      rw [e]
      refine Evl.ev_is (ev_chainLe (ev_fld (Evl.ev_var rfl) hq T.c_Lot T.a_Lot_first (lLot_first _)) (Evl.ev_var rfl) (ev_fld (Evl.ev_var rfl) hq T.c_Lot T.a_Lot_last (lLot_last _))) (congrArg V.bl ?_)
      rw [Bool.eq_iff_iff]
      simp
    · refine Evl.s_ret Evl.ev_c fun H5 e5 => ?_
      have z := k H5 ((((e1.trans e2).trans e3).trans e4).trans e5)
      unfold ag4 at z
      rw [if_neg (by rw [fin (H2 := H) hc]; decide), if_neg (by rw [fin (H2 := H) hc2]; decide), if_pos] at z
      · exact z
      · rw [List.all_map] at hc3
        rw [← hc3, List.not_all_eq_any_not]
        congr 1
        funext i
        simp
    have e4' := ((e1.trans e2).trans e3).trans e4
    have O4 := O.ex e4'
    obtain ⟨q, dx, hq, hI⟩ := O4.truckp ht
    refine Evl.q_when (b := decide ((s.truck t).payload < s.kg ls)) (Evl.et_test (Evl.ev_is (Evl.ev_op (ev_meth (vs' := [.ref ll]) (z := .int (s.kg ls : Nat)) (Evl.ev_var rfl) O4.obj (lOffice_weight _ _) (ea_one (Evl.ev_var rfl)) fun H5 e5 Q5 q5 => ⟨A, s, ll, ls, rfl, O4.ex e5, Evl.ex_l (e4'.trans e5) hl, by omega, hall, q5⟩) (ev_fld (ev_atL (evO_trucks T O4 (Evl.ev_var rfl)) (Evl.ev_var rfl) O4.lt hq) hI T.c_Truck T.a_Truck_loadable (lTruck_loadable _)) Evl.rv_I0) (congrArg V.bl (decide_eq_decide.mpr (by omega))))) (fun hc4 H5 e5 => ?_) (fun hc4 H5 e5 => ?_)
    · refine Evl.s_ret Evl.ev_c fun H6 e6 => ?_
      have z := k H6 ((e4'.trans e5).trans e6)
      unfold ag4 at z
      have c3 : ¬ (ls.any fun i => decide (d < (s.lot i).ready) || decide ((s.lot i).due < d)) = true := fun y => by
        rw [List.all_map] at hc3
        obtain ⟨i, hi, hx⟩ := List.any_eq_true.mp y
        have g : ∀ x ∈ ls, (s.lot x).ready ≤ d ∧ d ≤ (s.lot x).due := by simpa using hc3
        have := g i hi
        simp at hx
        omega
      rw [if_neg (by rw [fin (H2 := H) hc]; decide), if_neg (by rw [fin (H2 := H) hc2]; decide), if_neg c3, if_pos (of_decide_eq_true hc4)] at z
      exact z
    · refine Evl.s_ret Evl.ev_c fun H6 e6 => ?_
      have z := k H6 ((e4'.trans e5).trans e6)
      unfold ag4 at z
      have c3 : ¬ (ls.any fun i => decide (d < (s.lot i).ready) || decide ((s.lot i).due < d)) = true := fun y => by
        rw [List.all_map] at hc3
        obtain ⟨i, hi, hx⟩ := List.any_eq_true.mp y
        have g : ∀ x ∈ ls, (s.lot x).ready ≤ d ∧ d ≤ (s.lot x).due := by simpa using hc3
        have := g i hi
        simp at hx
        omega
      rw [if_neg (by rw [fin (H2 := H) hc]; decide), if_neg (by rw [fin (H2 := H) hc2]; decide), if_neg c3, if_neg (of_decide_eq_false hc4)] at z
      exact z
end
end Th
namespace Th
open PySem PySem.Spec PyProof.Rows L2
open TimHaul (Road Limit Truck Lot Trip Office before)
open Evl (Ex Ev EvL EvT EvA)
section
variable {PP : Program} {w : World} {K : PySem.W.Frag} {mg : Str → Option Value} {base : Heap}
theorem truck_mem {s : Office} {t : Nat} (h : t < s.trucks.length) : s.truck t ∈ s.trucks := List.mem_of_getElem? (truck_get h)
theorem lot_mem {s : Office} {t : Nat} (h : t < s.lots.length) : s.lot t ∈ s.lots := List.mem_of_getElem? (lot_get h)
def sp_legs_of (K : PySem.W.Frag) : Sp := fun vs H Q _ => ∃ (W : WA) (A : OA) (s : Office) (c t d : Nat) (ll : Addr) (ls : List Nat), vs = [.ref W.w, .int (t : Int), .int (d : Int), .ref ll] ∧ WaysAt K H W A s c ∧ c < 800000 ∧ t < s.trucks.length ∧ LotsOk s ls ∧ H ll = some (.lst (nv ls)) ∧
  ∀ p H' xs, NewD H p → ExD H H' → WaysAt K H' W A s (c + 6) → H' p = some (.lst xs) → AllV (DrvAt H') xs (s.legs (s.truck t) d ls) → Q (.ref p) H'
theorem allV3 {H : Hp} {v1 v2 v3 : V} {a b c : Option (List Nat)} (h1 : DrvAt H v1 a) (h2 : DrvAt H v2 b) (h3 : DrvAt H v3 c) : AllV (DrvAt H) [v1, v2, v3] [a, b, c] := ⟨rfl, fun i x e => by
  match i with
  | 0 => cases e; exact ⟨_, rfl, h1⟩
  | 1 => cases e; exact ⟨_, rfl, h2⟩
  | 2 => cases e; exact ⟨_, rfl, h3⟩
  | i + 3 => simp at e⟩
theorem sc_legs_of : FnScope (["ways", "truck", "day", "lots", "office", "hauler", "lot", "full"] : List Str) ["ways", "truck", "day", "lots"] (defScope s_legs_of) := ⟨rfl, rfl, rfl, by decide +kernel, rfl, by decide +kernel, by decide +kernel⟩
theorem c_legs_of (T : Txt K mg) (C_Office_weight : Cal PP w K mg base 1 (He.ma K (He.ga K "Office") "weight") ["self", "lots"] (sp_Office_weight K)) (C_Ways_drive : Cal PP w K mg base 4 (He.ma K (He.ga K "Ways") "drive") ["self", "a", "b", "day", "kilograms"] (sp_Ways_drive K)) : Cal PP w K mg base 5 (He.ga K "legs_of") ["ways", "truck", "day", "lots"] (sp_legs_of K) := by
  refine Cal.of T.f_legs_of sc_legs_of (fun vs H Q E h => ?_) (fun _ _ _ _ _ _ us hl => match us, hl with | [_, _, _, _], _ => rfl) (fun cdv A outer s H vs Q E hr h => ?_)
  · obtain ⟨W, A, s, c, t, d, ll, ls, rfl, wa, hc, ht, ⟨hne, hz, hall⟩, hl, k⟩ := h
    rfl
  · obtain ⟨W, A, s, c, t, d, ll, ls, rfl, wa, hc, ht, ⟨hne, hz, hall⟩, hl, k⟩ := h
    refine ⟨_, (pss_cons (ps_set (i := 4) sc_legs_of.nd rfl (Or.inl rfl) (pe_fld (pv 0) rfl))
      (pss_cons (ps_set (i := 5) sc_legs_of.nd rfl (Or.inl rfl) (pe_ix ix_list (pe_fld (pv 4) rfl) (pv 1) (fun _ _ => rfl)))
      (pss_cons (ps_set (i := 6) sc_legs_of.nd rfl (Or.inl rfl) (pe_ix ix_list (pe_fld (pv 4) rfl) (pe_ix ix_list (pv 3) pe_int (fun _ _ => rfl)) (fun _ _ => rfl)))
      (pss_cons (ps_set (i := 7) sc_legs_of.nd rfl (Or.inl rfl) (pe_op op_add (pe_fld (pv 5) rfl) (pe_cmeth (pv 4) T.c_Office T.m_Office_weight C_Office_weight (hr.mono (by decide)) (pa_cons (pv 3) pa_nil))))
      (pss_one (ps_ret (pe_lst (pa_cons (pe_cmeth (pv 0) T.c_Ways T.m_Ways_drive C_Ways_drive (hr.mono (by decide)) (pa_cons (pe_fld (pv 5) rfl) (pa_cons (pe_fld (pv 6) rfl) (pa_cons (pv 2) (pa_cons (pe_fld (pv 5) rfl) pa_nil))))) (pa_cons (pe_cmeth (pv 0) T.c_Ways T.m_Ways_drive C_Ways_drive (hr.mono (by decide)) (pa_cons (pe_fld (pv 6) rfl) (pa_cons (pe_fld (pv 6) rfl) (pa_cons (pv 2) (pa_cons (pv 7) pa_nil))))) (pa_cons (pe_cmeth (pv 0) T.c_Ways T.m_Ways_drive C_Ways_drive (hr.mono (by decide)) (pa_cons (pe_fld (pv 6) rfl) (pa_cons (pe_fld (pv 5) rfl) (pa_cons (pv 2) (pa_cons (pe_fld (pv 5) rfl) pa_nil))))) pa_nil)))))))))), ?_⟩
    have hd : ls.headD 0 ∈ ls := by
      cases ls with
      | nil => exact absurd rfl hne
      | cons x l => exact List.mem_cons_self
    have h0 : (nv ls)[0]? = some (V.int ((ls.headD 0 : Nat) : Int)) := by
      cases ls with
      | nil => exact absurd rfl hne
      | cons x l => rfl
    refine Evl.q_asg (evW_office T wa (Evl.ev_var rfl)) fun H1 e1 => ?_
    have O1 := wa.off.ex e1
    obtain ⟨pt, dt, hpt, It⟩ := O1.truckp ht
    refine Evl.q_asg (ev_atL (evO_trucks T O1 (Evl.ev_var rfl)) (Evl.ev_var rfl) O1.lt hpt) fun H2 e2 => ?_
    have O2 := O1.ex e2
    obtain ⟨pl, dl, hpl, Il⟩ := O2.lotp (hall _ hd)
    refine Evl.q_asg (ev_atL (evO_lots T O2 (Evl.ev_var rfl)) (Evl.ev_op (Evl.ev_var rfl) Evl.ev_c (Evl.rv_ixL (SqL.of ((e1.trans e2) _ _ hl)) (atI_nat h0))) O2.lo hpl) fun H3 e3 => ?_
    have e123 := (e1.trans e2).trans e3
    have O3 := O2.ex e3
    refine Evl.q_asg (Evl.ev_op (ev_fld (Evl.ev_var rfl) ((e2.trans e3) _ _ It) T.c_Truck T.a_Truck_empty (lTruck_empty _)) (ev_meth (vs' := [.ref ll]) (z := .int (s.kg ls : Nat)) (Evl.ev_var rfl) O3.obj (lOffice_weight _ _) (ea_one (Evl.ev_var rfl)) fun H5 e5 Q5 q5 => ⟨A, s, ll, ls, rfl, O3.ex e5, SqL.of ((e123.trans e5) _ _ hl), by omega, hall, q5⟩) Evl.rv_I0) fun H4 e4 => ?_
    have e1234 := e123.trans e4
    have wa4 := wa.ex e1234
    have It4 := (e2.trans (e3.trans e4)) _ _ It
    have Il4 := (e3.trans e4) _ _ Il
    have th := wa.wf.trucks _ (truck_mem ht)
    have lo := wa.wf.lots _ (lot_mem (hall _ hd))
    have efull : ((s.truck t).tare : Int) + (s.kg ls : Nat) = (((s.truck t).tare + s.kg ls : Nat) : Int) := by omega
    rw [efull]
    have T1 : ∀ H5, ExD H4 H5 → Ev (tFld K (tVar 5) "place") [some (.ref W.w), some (.int (t : Int)), some (.int (d : Int)), some (.ref ll), some (.ref A.a), some (.ref pt), some (.ref pl), some (.int (((s.truck t).tare + s.kg ls : Nat) : Int))] H5 (.int ((s.truck t).home : Nat)) := fun H5 e => ev_fld (Evl.ev_var rfl) (e _ _ It4 rfl) T.c_Truck T.a_Truck_place (lTruck_place _)
    have T2 : ∀ H5, ExD H4 H5 → Ev (tFld K (tVar 5) "empty") [some (.ref W.w), some (.int (t : Int)), some (.int (d : Int)), some (.ref ll), some (.ref A.a), some (.ref pt), some (.ref pl), some (.int (((s.truck t).tare + s.kg ls : Nat) : Int))] H5 (.int ((s.truck t).tare : Nat)) := fun H5 e => ev_fld (Evl.ev_var rfl) (e _ _ It4 rfl) T.c_Truck T.a_Truck_empty (lTruck_empty _)
    have L1 : ∀ H5, ExD H4 H5 → Ev (tFld K (tVar 6) "place") [some (.ref W.w), some (.int (t : Int)), some (.int (d : Int)), some (.ref ll), some (.ref A.a), some (.ref pt), some (.ref pl), some (.int (((s.truck t).tare + s.kg ls : Nat) : Int))] H5 (.int ((s.lot (ls.headD 0)).place : Nat)) := fun H5 e => ev_fld (Evl.ev_var rfl) (e _ _ Il4 rfl) T.c_Lot T.a_Lot_place (lLot_place _)
    have L2 : ∀ H5, ExD H4 H5 → Ev (tFld K (tVar 6) "mill") [some (.ref W.w), some (.int (t : Int)), some (.int (d : Int)), some (.ref ll), some (.ref A.a), some (.ref pt), some (.ref pl), some (.int (((s.truck t).tare + s.kg ls : Nat) : Int))] H5 (.int ((s.lot (ls.headD 0)).mill : Nat)) := fun H5 e => ev_fld (Evl.ev_var rfl) (e _ _ Il4 rfl) T.c_Lot T.a_Lot_mill (lLot_mill _)
    refine s_retG (Q := Q) rfl ?_
    refine k_lst (k_cons (k_meth (vs := [.int ((s.truck t).home : Nat), .int ((s.lot (ls.headD 0)).place : Nat), .int (d : Int), .int ((s.truck t).tare : Nat)]) (Evl.ev_var rfl) wa4.obj (lWays_drive _ _ _) (Evl.ea_cons (T1 H4 (ExD.refl _)) (Evl.ea_cons (L1 H4 (ExD.refl _)) (ea_two (Evl.ev_var rfl) (T2 H4 (ExD.refl _))))) fun H5 e5 => ?_))
    refine ⟨W, A, s, c, _, _, d, _, rfl, wa4.ex e5, by omega, th, lo.1, fun v1 H6 e6 wa6 dv1 => ?_⟩
    have x6 : ExD H4 H6 := (exD_of e5).trans e6
    refine k_cons (k_meth (vs := [.int ((s.lot (ls.headD 0)).place : Nat), .int ((s.lot (ls.headD 0)).mill : Nat), .int (d : Int), .int (((s.truck t).tare + s.kg ls : Nat) : Int)]) (Evl.ev_var rfl) wa6.obj (lWays_drive _ _ _) (Evl.ea_cons (L1 H6 x6) (Evl.ea_cons (L2 H6 x6) (ea_two (Evl.ev_var rfl) (Evl.ev_var rfl)))) fun H7 e7 => ?_)
    refine ⟨W, A, s, _, _, _, d, _, rfl, wa6.ex e7, by omega, lo.1, lo.2, fun v2 H8 e8 wa8 dv2 => ?_⟩
    have x68 : ExD H6 H8 := (exD_of e7).trans e8
    have x8 : ExD H4 H8 := x6.trans x68
    refine k_cons (k_meth (vs := [.int ((s.lot (ls.headD 0)).mill : Nat), .int ((s.truck t).home : Nat), .int (d : Int), .int ((s.truck t).tare : Nat)]) (Evl.ev_var rfl) wa8.obj (lWays_drive _ _ _) (Evl.ea_cons (L2 H8 x8) (Evl.ea_cons (T1 H8 x8) (ea_two (Evl.ev_var rfl) (T2 H8 x8)))) fun H9 e9 => ?_)
    refine ⟨W, A, s, _, _, _, d, _, rfl, wa8.ex e9, by omega, lo.2, th, fun v3 Ha ea waa dv3 => ?_⟩
    have x8a : ExD H8 Ha := (exD_of e9).trans ea
    refine k_nil ⟨by show 3 ≤ sizeLine; decide, fun p np => ?_⟩
    have xa : ExD H Ha := (exD_of e1234).trans (x8.trans x8a)
    have xp := ex_upd (o := .lst [v1, v2, v3]) np
    refine k p _ [v1, v2, v3] (NewD.of xa np) (xa.ex xp) (waa.ex xp) upd_same ?_
    exact allV3 ((dv1.mono (x68.trans x8a)).ex xp) ((dv2.mono x8a).ex xp) (dv3.ex xp)
end
end Th
namespace Th
open PySem PySem.Spec PyProof.Rows L2
open TimHaul (Road Limit Truck Lot Trip Office before)
open Evl (Ex Ev EvL EvT EvA)
section
variable {PP : Program} {w : World} {K : PySem.W.Frag} {mg : Str → Option Value} {base : Heap}
def lookM (s : Office) (t : Truck) (d : Nat) (l : List Nat) : Nat := if s.against t d l = 0 then s.metres t d l else 0
def lookR (s : Office) (t : Truck) (d : Nat) (l : List Nat) : List Nat := if s.against t d l = 0 then (((s.legs t d l).getD 1 none).getD []).drop 2 else []
theorem against_eq (s : Office) (t : Truck) (d : Nat) (l : List Nat) : s.against t d l = if ag4 s t d l = 0 then (match (s.legs t d l).findIdx? fun (d : Option (List Nat)) => d.isNone with
    | some k => 5 + k
    | none => 0) else ag4 s t d l := by
  unfold TimHaul.Office.against ag4
  dsimp only
  by_cases h1 : l.any (fun (i : Nat) => (s.lot i).place != (s.lot (l.headD 0)).place) = true
  · rw [if_pos h1, if_pos h1, if_neg (by decide)]
  rw [if_neg h1, if_neg h1]
  by_cases h2 : l.any (fun (i : Nat) => (s.lot i).mill != (s.lot (l.headD 0)).mill) = true
  · rw [if_pos h2, if_pos h2, if_neg (by decide)]
  rw [if_neg h2, if_neg h2]
  by_cases h3 : l.any (fun (i : Nat) => decide (d < (s.lot i).ready) || decide ((s.lot i).due < d)) = true
  · rw [if_pos h3, if_pos h3, if_neg (by decide)]
  rw [if_neg h3, if_neg h3]
  by_cases h4 : t.payload < s.kg l
  · rw [if_pos h4, if_pos h4, if_neg (by decide)]
  rw [if_neg h4, if_neg h4, if_pos rfl]
  cases (s.legs t d l).findIdx? (fun (d : Option (List Nat)) => d.isNone) <;> rfl
def sp_look_at_load (K : PySem.W.Frag) : Sp := fun vs H Q _ => ∃ (W : WA) (A : OA) (s : Office) (c t d : Nat) (ll : Addr) (ls : List Nat), vs = [.ref W.w, .int (t : Int), .int (d : Int), .ref ll] ∧ WaysAt K H W A s c ∧ c < 700000 ∧ t < s.trucks.length ∧ LotsOk s ls ∧ H ll = some (.lst (nv ls)) ∧
  ∀ p l H', NewD H l → ExD H H' → WaysAt K H' W A s (c + 6) → H' p = some (.tup [.int ((s.against (s.truck t) d ls : Nat) : Int), .int ((lookM s (s.truck t) d ls : Nat) : Int), .ref l]) → H' l = some (.lst (nv (lookR s (s.truck t) d ls))) → Q (.ref p) H'
theorem allV_zip {R : V → Option (List Nat) → Prop} {xs : List V} {ys : List (Option (List Nat))} (h : AllV R xs ys) : (xs.zip ys).map Prod.fst = xs ∧ (xs.zip ys).map Prod.snd = ys ∧ ∀ z ∈ xs.zip ys, R z.1 z.2 := by
  refine ⟨List.map_fst_zip (Nat.le_of_eq h.1), List.map_snd_zip (Nat.le_of_eq h.1.symm), fun z m => ?_⟩
  obtain ⟨i, hi⟩ := List.getElem?_of_mem m
  obtain ⟨a, b⟩ := z
  rw [List.getElem?_zip_eq_some] at hi
  obtain ⟨v, hv, r⟩ := h.2 i b hi.2
  rw [hi.1] at hv
  cases hv
  exact r
/-- a new triple: two numbers, a new row -/
theorem s_triple {K : PySem.W.Frag} {σ : L2.St} {D : Ends} {H : Hp} {te : TE} {n : Int} (h : Ev te σ H (.int n)) (k : ∀ p l H1, H l = none → Ex H H1 → H1 p = some (.tup [.int n, .int 0, .ref l]) → H1 l = some (.lst []) → D.rt (.ref p) H1) : tRet (tTup (tCons te (tCons (tC (.int 0)) (tCons (tLst tNil) tNil)))) D σ H := by
  refine s_retK (k_tup (k_cons (k_ev h fun H1 e1 => k_cons (k_ev Evl.ev_c fun H2 e2 => k_cons (k_evL (Evl.el_lst Evl.ea_nil (Nat.zero_le _)) fun l H3 nl e3 hl => k_nil ⟨by show 3 ≤ sizeLine; decide, fun p np => ?_⟩)))))
  refine k p l _ (Evl.fresh_back (e1.trans e2) nl) (((e1.trans e2).trans e3).trans (ex_upd np)) upd_same ?_
  rw [upd_ne (ne_of_none hl np)]
  exact hl
theorem sc_look_at_load : FnScope (["ways", "truck", "day", "lots", "against", "legs", "number", "leg"] : List Str) ["ways", "truck", "day", "lots"] (defScope s_look_at_load) := ⟨rfl, rfl, rfl, by decide +kernel, rfl, by decide +kernel, by decide +kernel⟩
theorem c_look_at_load (T : Txt K mg) (C_against_lots : Cal PP w K mg base 2 (He.ga K "against_lots") ["office", "truck", "day", "lots"] (sp_against_lots K)) (C_legs_of : Cal PP w K mg base 5 (He.ga K "legs_of") ["ways", "truck", "day", "lots"] (sp_legs_of K)) : Cal PP w K mg base 6 (He.ga K "look_at_load") ["ways", "truck", "day", "lots"] (sp_look_at_load K) := by
  refine Cal.of T.f_look_at_load sc_look_at_load (fun vs H Q E h => ?_) (fun _ _ _ _ _ _ us hl => match us, hl with | [_, _, _, _], _ => rfl) (fun cdv A outer s H vs Q E hr h => ?_)
  · obtain ⟨W, A, s, c, t, d, ll, ls, rfl, wa, hc, ht, lok, hl, k⟩ := h
    rfl
  · obtain ⟨W, A, s, c, t, d, ll, ls, rfl, wa, hc, ht, lok, hl, k⟩ := h
    refine ⟨_, (pss_cons (ps_set (i := 4) sc_look_at_load.nd rfl (Or.inl rfl) (pe_cal C_against_lots (hr.mono (by decide)) (by rfl) T.g_against_lots (pa_cons (pe_fld (pv 0) rfl) (pa_cons (pv 1) (pa_cons (pv 2) (pa_cons (pv 3) pa_nil))))))
      (pss_cons (ps_if (pt_cmpR op_gt (pv 4) pe_int (nomark _)) (pss_one (ps_ret (pe_tup (pa_cons (pv 4) (pa_cons pe_int (pa_cons (pe_lst pa_nil) pa_nil)))))) pss_nil)
      (pss_cons (ps_set (i := 5) sc_look_at_load.nd rfl (Or.inl rfl) (pe_cal C_legs_of (hr.mono (by decide)) (by rfl) T.g_legs_of (pa_cons (pv 0) (pa_cons (pv 1) (pa_cons (pv 2) (pa_cons (pv 3) pa_nil))))))
      (pss_cons (ps_for PassesOwn.never rfl (pi_enumS (by rfl) T.n_enumerate (pa_cons (pv 5) pa_nil) (pk_cons pe_int pk_nil)) (pg_tup rfl (pgs_cons (pg_name (i := 6) sc_look_at_load.nd rfl (Or.inl rfl)) (pgs_cons (pg_name (i := 7) sc_look_at_load.nd rfl (Or.inl rfl)) pgs_nil)))
      (pss_one (ps_if (pt_cmpR op_isN (pv 7) pe_non (nomark _)) (pss_one (ps_ret (pe_tup (pa_cons (pv 6) (pa_cons pe_int (pa_cons (pe_lst pa_nil) pa_nil)))))) pss_nil)))
      (pss_one (ps_ret (pe_tup (pa_cons pe_int (pa_cons (pe_callB (cr_sum rfl) (by rfl) T.n_sum (by decide +kernel) (pa_cons (pe_lc (own := [("leg", 7)]) (g := (gName 7)) (tt := tYes) (te := (tOp (rIxT K) (tVar 7) (tC (.int 0)))) rfl sc_look_at_load.nd (pi_list (pv 5)) (blkOk_by (own := [("leg", 7)]) (N := (["ways", "truck", "day", "lots", "against", "legs", "number", "leg"] : List Str)) (sc := defScope s_look_at_load) (by decide +kernel)) (fun _ _ _ _ _ => (pg_name (i := 7) sc_look_at_load.nd rfl (Or.inl rfl))) (fun _ _ _ _ _ => pts_nil) (fun _ _ _ _ _ => (pe_ix ix_tup (pv 7) pe_int (fun _ _ => rfl)))) pa_nil)) (pa_cons (pe_callTy cr_list (by rfl) T.n_list (by decide +kernel) (pa_cons (pe_ix ix_tup (pe_ix ix_list (pv 5) pe_int (fun _ _ => rfl)) pe_int (fun _ _ => rfl)) pa_nil)) pa_nil)))))))))), ?_⟩
    have ea : EvA (tCons (tFld K (tVar 0) "office") (tCons (tVar 1) (tCons (tVar 2) (tCons (tVar 3) tNil)))) [some (.ref W.w), some (.int (t : Int)), some (.int (d : Int)), some (.ref ll), none, none, none, none] H [.ref A.a, .int (t : Int), .int (d : Int), .ref ll] := Evl.ea_cons (evW_office T wa (Evl.ev_var rfl)) (Evl.ea_cons (Evl.ev_var rfl) (ea_two (Evl.ev_var rfl) (Evl.ev_var rfl)))
    refine q_asgK (k_call ea fun H1 e1 => ?_)
    refine ⟨A, s, t, d, ll, ls, rfl, wa.off.ex e1, ht, lok, SqL.of (e1 _ _ hl), fun H2 e2 => ?_⟩
    have e12 := e1.trans e2
    have ae := against_eq s (s.truck t) d ls
    refine Evl.q_when (b := decide (0 < ag4 s (s.truck t) d ls)) (Evl.et_is (Evl.et_test (Evl.ev_op (Evl.ev_var rfl) Evl.ev_c Evl.rv_I0)) (decide_eq_decide.mpr (by omega))) (fun ha H3 e3 => ?_) (fun ha H3 e3 => ?_)
    · have h0 : ¬ ag4 s (s.truck t) d ls = 0 := by have := of_decide_eq_true ha; omega
      rw [if_neg h0] at ae
      have a0 : ¬ s.against (s.truck t) d ls = 0 := by rw [ae]; exact h0
      have e123 := e12.trans e3
      refine s_triple (K := K) (Evl.ev_var rfl) fun p l H4 nl e4 hp hl4 => ?_
      refine k p l H4 (NewD.of (exD_of e123) nl) (exD_of (e123.trans e4)) ((wa.ex (e123.trans e4)).le (by omega)) ?_ ?_
      · rw [hp, ae]
        unfold lookM
        rw [if_neg a0]
        rfl
      · unfold lookR
        rw [if_neg a0]
        exact hl4
    have h0 : ag4 s (s.truck t) d ls = 0 := by have := of_decide_eq_false ha; omega
    rw [if_pos h0] at ae
    have e123 := e12.trans e3
    have wa3 := wa.ex e123
    have eb : EvA (tCons (tVar 0) (tCons (tVar 1) (tCons (tVar 2) (tCons (tVar 3) tNil)))) [some (.ref W.w), some (.int (t : Int)), some (.int (d : Int)), some (.ref ll), some (.int ((ag4 s (s.truck t) d ls : Nat) : Int)), none, none, none] H3 [.ref W.w, .int (t : Int), .int (d : Int), .ref ll] := Evl.ea_cons (Evl.ev_var rfl) (Evl.ea_cons (Evl.ev_var rfl) (ea_two (Evl.ev_var rfl) (Evl.ev_var rfl)))
    refine q_asgK (k_call eb fun H4 e4 => ?_)
    refine ⟨W, A, s, c, t, d, ll, ls, rfl, wa3.ex e4, by omega, ht, lok, (e123.trans e4) _ _ hl, fun pl H5 xs np5 x5 wa5 h5 hA => ?_⟩
    have X5 : ExD H H5 := (exD_of (e123.trans e4)).trans x5
    have l3 : (s.legs (s.truck t) d ls).length = 3 := rfl
    have xl : xs.length = 3 := hA.1.trans l3
    refine q_forK ⟨_, rfl, pl, xs, 5, rfl, rfl, by decide, SqL.of h5, ?_⟩
    refine loop_it (walk_enumS (K := K) (k0 := 5) (a := pl) (xs := xs)) (fun i σ H' => (∃ v6 v7, σ = [some (.ref W.w), some (.int (t : Int)), some (.int (d : Int)), some (.ref ll), some (.int ((ag4 s (s.truck t) d ls : Nat) : Int)), some (.ref pl), v6, v7]) ∧ Ex H5 H' ∧ ∀ j, j < i → ∀ o, (s.legs (s.truck t) d ls)[j]? = some o → o.isNone = false) ?_ (fun i σ H' _ p => SqL.of (p.2.1 _ _ h5)) (fun i v σ H' H6 hi p y => ?_) (fun σ H' p => ?_)
    · exact ⟨⟨none, none, rfl⟩, Ex.refl _, fun j hj => by omega⟩
    · obtain ⟨⟨v6, v7, rfl⟩, e, hn⟩ := p
      obtain ⟨P, x, y, rfl, nP, rfl, hx, hy⟩ := y
      cases hx
      have li : i < (s.legs (s.truck t) d ls).length := by rw [l3, ← xl]; exact hi
      obtain ⟨v, hv, dv⟩ := hA.2 i _ (List.getElem?_eq_getElem li)
      have hyv : y = v := Option.some.inj (hy.symm.trans hv)
      subst hyv
      refine ⟨P, _, rfl, SqT.of upd_same, rfl, _, _, rfl, _, _, rfl, rfl, ?_⟩
      have eP := ex_upd (o := .tup [.int ((i + 5 : Nat) : Int), y]) nP
      have hyn : decide (y = V.non) = ((s.legs (s.truck t) d ls)[i]).isNone := by
        cases q : (s.legs (s.truck t) d ls)[i] with
        | none =>
          rw [q] at dv
          have z : y = .non := dv
          rw [z]; rfl
        | some r =>
          rw [q] at dv
          obtain ⟨_, _, _, _, _, _, z, _⟩ := dv
          rw [z]; rfl
      refine Evl.s_when (b := ((s.legs (s.truck t) d ls)[i]).isNone) (Evl.et_test (Evl.ev_op (Evl.ev_var rfl) Evl.ev_c (Evl.rv_val fun H1 _ Q q => ⟨rfl, by rw [hyn]; exact q⟩))) (fun hz H7 e7 => ?_) (fun hz H7 e7 => ?_)
      · have f : (s.legs (s.truck t) d ls).findIdx? (fun d => d.isNone) = some i := List.findIdx?_eq_some_iff_getElem.mpr ⟨li, hz, fun j hj => by
          have := hn j hj _ (List.getElem?_eq_getElem (by omega))
          rw [this]; decide⟩
        rw [f] at ae
        have a0 : ¬ s.against (s.truck t) d ls = 0 := by rw [ae]; show ¬ 5 + i = 0; omega
        have e57 : Ex H5 H7 := (e.trans eP).trans e7
        refine s_triple (K := K) (Evl.ev_var rfl) fun p l H8 nl e8 hp hl8 => ?_
        refine k p l H8 (NewD.of (X5.ex e57) nl) (X5.ex (e57.trans e8)) (wa5.ex (e57.trans e8)) ?_ ?_
        · rw [hp, ae]
          unfold lookM
          rw [if_neg a0]
          show some (HO.tup [.int ((i + 5 : Nat) : Int), _, _]) = some (HO.tup [.int ((5 + i : Nat) : Int), _, _])
          rw [Nat.add_comm i 5]
          rfl
        · unfold lookR
          rw [if_neg a0]
          exact hl8
      · refine ⟨⟨_, _, rfl⟩, (e.trans eP).trans e7, fun j hj o ho => ?_⟩
        rcases Nat.lt_succ_iff_lt_or_eq.mp hj with z | z
        · exact hn j z o ho
        · subst z
          rw [List.getElem?_eq_getElem li] at ho
          cases ho
          exact hz
    · obtain ⟨⟨v6, v7, rfl⟩, e, hn⟩ := p
      rw [xl] at hn
      have f : (s.legs (s.truck t) d ls).findIdx? (fun d => d.isNone) = none := List.findIdx?_eq_none_iff.mpr fun o m => by
        obtain ⟨j, hj⟩ := List.getElem?_of_mem m
        have : j < 3 := by rw [← l3]; exact (List.getElem?_eq_some_iff.mp hj).1
        exact hn j this o hj
      rw [f] at ae
      have a0 : s.against (s.truck t) d ls = 0 := ae
      have wa6 := wa5.ex e
      have X6 := X5.ex e
      obtain ⟨z1, z2, z3⟩ := allV_zip hA
      have some_of : ∀ o ∈ s.legs (s.truck t) d ls, ∃ r, o = some r := fun o m => by
        obtain ⟨j, hj⟩ := List.getElem?_of_mem m
        have : j < 3 := by rw [← l3]; exact (List.getElem?_eq_some_iff.mp hj).1
        cases o with
        | none => have := hn j this _ hj; cases this
        | some r => exact ⟨r, rfl⟩
      have h5' := e _ _ h5
      refine s_retG (Q := Q) rfl (k_tup (k_cons (k_ev Evl.ev_c fun H7 e7 => k_cons (k_ev (v := .int ((s.metres (s.truck t) d ls : Nat) : Int)) ?_ fun H8 e8 => k_cons (k_evL (xs := nv (lookR s (s.truck t) d ls)) ?_ fun l H9 nl e9 hl9 => k_nil ⟨by show 3 ≤ sizeLine; decide, fun p np => ?_⟩)))))
      · refine Evl.ev_is (ev_sumN (ns := (xs.zip (s.legs (s.truck t) d ls)).map fun z => (((z.2.getD []).headD 0 : Nat) : Int)) (el_is (el_list (K := K) (a := pl) (ls := xs.zip (s.legs (s.truck t) d ls)) (r := Prod.fst) (fun _ => true) (fun z => .int (((z.2.getD []).headD 0 : Nat) : Int)) (Evl.ev_var rfl) (SqL.of (by rw [z1]; exact e7 _ _ h5')) (by rw [List.length_zip]; omega) (by intro _; rfl) (fun _ _ _ _ => et_yes) (fun z hz Hb eb' _ => ?_)) ?_)) ?_
        · have dz := z3 z hz
          obtain ⟨r, hr⟩ := some_of z.2 (by rw [← z2]; exact List.mem_map.mpr ⟨z, hz, rfl⟩)
          rw [hr] at dz ⊢
          obtain ⟨p, l, a', b', r', rfl, ez, g1, g2⟩ := dz
          rw [ez]
          exact Evl.ev_op (Evl.ev_var rfl) Evl.ev_c (Evl.rv_ixT (SqT.of (eb' _ _ (e7 _ _ (e _ _ g1)))) rfl)
        · rw [filter_yes, List.map_map]; rfl
        · unfold TimHaul.Office.metres
          rw [sum_cast, List.map_map]
          congr 2
          have : (xs.zip (s.legs (s.truck t) d ls)).map (fun z => (((z.2.getD []).headD 0 : Nat) : Int)) = ((xs.zip (s.legs (s.truck t) d ls)).map Prod.snd).map (fun o => (((o.getD []).headD 0 : Nat) : Int)) := by rw [List.map_map]; rfl
          rw [this, z2]
          rfl
      · have l1 : 1 < (s.legs (s.truck t) d ls).length := by rw [l3]; decide
        obtain ⟨v, hv, dv⟩ := hA.2 1 _ (List.getElem?_eq_getElem l1)
        obtain ⟨r, hr⟩ := some_of _ (List.getElem_mem l1)
        rw [hr] at dv
        obtain ⟨p, l, a', b', r', rfl, rfl, g1, g2⟩ := dv
        have eR : lookR s (s.truck t) d ls = r' := by
          unfold lookR
          rw [if_pos a0, List.getD_eq_getElem?_getD, List.getElem?_eq_getElem l1, hr]
          rfl
        rw [eR]
        have e78 := (e7.trans e8)
        exact el_listOf (Evl.ev_op (Evl.ev_op (Evl.ev_var rfl) Evl.ev_c (Evl.rv_ixL (SqL.of (e78 _ _ h5')) (atI_nat hv))) Evl.ev_c (Evl.rv_ixT (SqT.of (e78 _ _ (e _ _ g1))) rfl)) (SqL.of (e78 _ _ (e _ _ g2)))
      · have e789 := (e7.trans e8).trans e9
        have xp := ex_upd (o := .tup [.int 0, .int ((s.metres (s.truck t) d ls : Nat) : Int), .ref l]) np
        refine k p l _ (NewD.of (X6.ex (e7.trans e8)) nl) (X6.ex (e789.trans xp)) (wa6.ex (e789.trans xp)) ?_ (by rw [upd_ne (ne_of_none hl9 np)]; exact hl9)
        rw [a0]
        unfold lookM
        rw [if_pos a0]
        exact upd_same
end
end Th
namespace Th
open PySem PySem.Spec PyProof.Rows L2
open Evl (Ex Ev EvT EvL EvA given)
/-! ### a list that a call does not know stays as it is -/
/-- the promise, with the list at b out of its sight -/
def frm (sp : Sp) : Sp := fun vs H Q E => ∃ b ys, H b = some (.lst ys) ∧ sp vs (del H b) (fun v H' => H' b = none → Q v (upd H' b (.lst ys))) E
section
variable {P : Program} {w : World} {H H' : Hp} {h h' : Heap} {a b : Addr}
theorem objOk_less {ys : List V} (hb : H b = some (.lst ys)) : ∀ {o : HO}, ObjOk P w H h a o → ObjOk P w (del H b) h a o
  | .lst _, x => x
  | .tup _, x => x
  | .dK _, x => x
  | .dT kvs, ⟨h1, h2, xs, h3, h4⟩ => ⟨h1, h2, xs, L2.Paired.mapP h3 fun p q r => ⟨r.1, by
      rw [del_ne (fun z => by rw [z] at r; rw [hb] at r; cases r.2.1)]
      exact r.2.1, r.2.2⟩, h4⟩
  | .set _ _, x => x
  | .ins C dx fs, ⟨h1, h2⟩ => ⟨by
      rw [del_ne (fun z => by rw [z, hb] at h1; cases h1)]
      exact h1, h2⟩
  | .own _, x => x
  | .xd _, x => x
  | .rng _ _, x => x
  | .frz o u, ⟨h1, h2⟩ => ⟨h1, objOk_less hb h2⟩
  | .tbl _, x => x
  | .met _ _, x => x
  | .ext _, x => x
theorem objOk_more {o' : HO} (hb : H b = none) : ∀ {o : HO}, ObjOk P w H h a o → ObjOk P w (upd H b o') h a o
  | .lst _, x => x
  | .tup _, x => x
  | .dK _, x => x
  | .dT kvs, ⟨h1, h2, xs, h3, h4⟩ => ⟨h1, h2, xs, L2.Paired.mapP h3 fun p q r => ⟨r.1, by
      rw [upd_ne (fun z => by rw [z] at r; rw [hb] at r; cases r.2.1)]
      exact r.2.1, r.2.2⟩, h4⟩
  | .set _ _, x => x
  | .ins C dx fs, ⟨h1, h2⟩ => ⟨by
      rw [upd_ne (fun z => by rw [z, hb] at h1; cases h1)]
      exact h1, h2⟩
  | .own _, x => x
  | .xd _, x => x
  | .rng _ _, x => x
  | .frz o u, ⟨h1, h2⟩ => ⟨h1, objOk_more hb h2⟩
  | .tbl _, x => x
  | .met _ _, x => x
  | .ext _, x => x
end
theorem del_none {H : Hp} {a b : Addr} (h : H a = none) : del H b a = none := by
  unfold del
  split
  · rfl
  · exact h
theorem FnOk.frame {P : Program} {w : World} {K : PySem.W.Frag} {mg : Str → Option Value} {base : Heap} {k : Nat} {f : Addr} {fd : FuncData} {ps : List Str} {sp : Sp} (F : FnOk P w K mg base CX0 k f fd ps sp) : FnOk P w K mg base CX0 k f fd ps (frm sp) := by
  refine ⟨fun vs H Q E h => ?_, fun A outer s H args us vs Q E hr e hb hv hs => ?_⟩
  · obtain ⟨b, ys, _, q⟩ := h
    exact F.len _ _ _ _ q
  · obtain ⟨b, ys, hbs, q⟩ := hs
    obtain ⟨hz, its, n, rv, ho⟩ : ObjOk P w H s.heap b (.lst ys) := e.hok b _ hbs
    have e' : Env0 P w K mg base A outer s (del H b) := ⟨e.frames, e.mod, fun c o q => ⟨(e.bs c o q).1, del_none (e.bs c o q).2⟩, e.bsz, e.funs, fun c hc => del_none (e.frf c hc), fun c o q => objOk_less hbs (e.hok c o (del_some q).1), e.bare⟩
    have nf : b ∉ frs outer := fun z => by rw [e.frf b z] at hbs; cases hbs
    refine codeAny_mono (F.run A outer s (del H b) args us vs _ E hr e' hb hv q) fun r s' hq => ?_
    cases r with
    | error x => exact hq
    | ok fl =>
      cases fl with
      | ret u =>
        obtain ⟨v, H', h1, h2, un, hok, rv', q'⟩ := hq
        have hb' : H' b = none := un.free b _ ho del_same (by simp)
        have kb : s'.heap.get? b = some _ := un.keep b _ ho del_same nf (by simp)
        refine ⟨v, upd H' b (.lst ys), h1, h2, ⟨fun c o g n => un.keep c o g (del_none n), fun c o g n => un.slot c o g (del_none n), fun c o g n x => ?_, fun c o g x => un.there c o g x, fun c xs g => ?_, fun c o u g => ?_, fun c ps g => ?_⟩, fun c o g => ?_, rv', q' hb'⟩
        · have cb : c ≠ b := fun z => by rw [z, hbs] at n; cases n
          rw [upd_ne cb]
          exact un.free c o g (del_none n) x
        · have cb : c ≠ b := fun z => by rw [z, hbs] at g; cases g
          rw [upd_ne cb]
          exact un.tups c xs (by rw [del_ne cb]; exact g)
        · have cb : c ≠ b := fun z => by rw [z, hbs] at g; cases g
          rw [upd_ne cb]
          exact un.frzs c o u (by rw [del_ne cb]; exact g)
        · have cb : c ≠ b := fun z => by rw [z, hbs] at g; cases g
          obtain ⟨more, g'⟩ := un.tbls c ps (by rw [del_ne cb]; exact g)
          exact ⟨more, by rw [upd_ne cb]; exact g'⟩
        · by_cases cb : c = b
          · subst cb
            rw [upd_same] at g
            cases g
            exact ⟨hz, its, n, rv, kb⟩
          · rw [upd_ne cb] at g
            exact objOk_more hb' (hok c o g)
      | next => exact hq
      | brk => exact hq
      | cont => exact hq
theorem Cal.frame {PP : Program} {w : World} {K : PySem.W.Frag} {mg : Str → Option Value} {base : Heap} {k : Nat} {f : Addr} {ps : List Str} {sp : Sp} (F : Cal PP w K mg base k f ps sp) : Cal PP w K mg base k f ps (frm sp) := by
  obtain ⟨fd, F, h1, h2⟩ := F.ex
  exact ⟨⟨fd, FnOk.frame F, h1, h2⟩⟩
theorem del_upd_none {G : Hp} {b : Addr} {o : HO} (h : G b = none) : del (upd G b o) b = G := by
  funext a
  unfold del upd
  by_cases e : a = b
  · rw [if_pos e, e, h]
  · rw [if_neg e, if_neg e]
theorem exD_mut {H H' : Hp} {p : Addr} {o : HO} (e : ExD H H') (h : H p = none) : ExD H (upd H' p o) := fun a u ha d => by
  rw [upd_ne (ne_of_none ha h)]
  exact e a u ha d
theorem exD_undel {G H : Hp} {b : Addr} (e : ExD G (del H b)) : ExD G H := e.ex (del_ex H b)
end Th
namespace Th
open PySem PySem.Spec PyProof.Rows L2
open TimHaul (Road Limit Truck Lot Trip Office before)
open Evl (Ex Ev EvL EvT EvA)
section
variable {PP : Program} {w : World} {K : PySem.W.Frag} {mg : Str → Option Value} {base : Heap}
def LoadAt (ls : List Nat) (H : Hp) (v : V) (x : Nat × Nat) : Prop := ∃ q l, v = .ref q ∧ H q = some (.tup [.int (x.1 : Nat), .ref l, .int (x.2 : Nat)]) ∧ H l = some (.lst (nv (TimHaul.picked ls x.1)))
theorem LoadAt.ex {ls : List Nat} {H H' : Hp} {v : V} {x : Nat × Nat} (h : LoadAt ls H v x) (e : Ex H H') : LoadAt ls H' v x := let ⟨q, l, h1, h2, h3⟩ := h; ⟨q, l, h1, e _ _ h2, e _ _ h3⟩
theorem LoadAt.mono {ls : List Nat} {H H' : Hp} {v : V} {x : Nat × Nat} (h : LoadAt ls H v x) (e : ExD H H') : LoadAt ls H' v x := let ⟨q, l, h1, h2, h3⟩ := h; ⟨q, l, h1, e _ _ h2 rfl, e _ _ h3 rfl⟩
theorem picked_mem {l : List Nat} {m i : Nat} (h : i ∈ TimHaul.picked l m) : i ∈ l := by
  unfold TimHaul.picked at h
  obtain ⟨x, hx, rfl⟩ := List.mem_map.mp h
  obtain ⟨a, b⟩ := x
  have := (List.mem_zipIdx (List.mem_filter.mp hx).1).2.2
  rw [this]
  exact List.getElem_mem _
theorem picked_len (l : List Nat) (m : Nat) : (TimHaul.picked l m).length ≤ l.length := by
  unfold TimHaul.picked
  rw [List.length_map]
  exact Nat.le_trans (List.length_filter_le _ _) (by rw [List.length_zipIdx]; exact Nat.le_refl _)
theorem picked_ne {l : List Nat} {m : Nat} (h0 : m ≠ 0) (h : m < 2 ^ l.length) : TimHaul.picked l m ≠ [] := by
  obtain ⟨i, hi⟩ := Nat.exists_testBit_of_ne_zero h0
  have hl : i < l.length := by
    rcases Nat.lt_or_ge i l.length with z | z
    · exact z
    · have g := Nat.ge_two_pow_of_testBit hi
      have : 2 ^ l.length ≤ 2 ^ i := Nat.pow_le_pow_right (by decide) z
      omega
  intro z
  have : l[i] ∈ TimHaul.picked l m := by
    unfold TimHaul.picked
    refine List.mem_map.mpr ⟨(l[i], i), List.mem_filter.mpr ⟨?_, hi⟩, rfl⟩
    exact List.mem_of_getElem? (i := i) (by rw [List.getElem?_zipIdx, List.getElem?_eq_getElem hl]; simp)
  rw [z] at this
  cases this
def optOf (s : Office) (l : List Nat) (x : Nat × Nat) (m : Nat) : Option (Nat × Nat) := if s.against (s.truck x.2) x.1 (TimHaul.picked l m) = 0 then some (m, s.metres (s.truck x.2) x.1 (TimHaul.picked l m)) else none
theorem options_eq (s : Office) (l : List Nat) (x : Nat × Nat) : s.options l x = (List.range (2 ^ l.length - 1)).filterMap fun i => optOf s l x (i + 1) := by
  have e : (List.range (2 ^ l.length)).drop 1 = (List.range (2 ^ l.length - 1)).map (· + 1) := by
    have p : 2 ^ l.length = (2 ^ l.length - 1) + 1 := by have := Nat.two_pow_pos l.length; omega
    rw [p, List.range_succ_eq_map]
    rfl
  unfold TimHaul.Office.options
  rw [e, List.filterMap_map]
  rfl
theorem opts_succ (s : Office) (l : List Nat) (x : Nat × Nat) (i : Nat) : (List.range (i + 1)).filterMap (fun i => optOf s l x (i + 1)) = (List.range i).filterMap (fun i => optOf s l x (i + 1)) ++ (optOf s l x (i + 1)).toList := by
  rw [List.range_succ, List.filterMap_append]
  cases h : optOf s l x (i + 1) with
  | none => simp [h]
  | some y => simp [h]
theorem opts_len (s : Office) (l : List Nat) (x : Nat × Nat) (i : Nat) : ((List.range i).filterMap (fun i => optOf s l x (i + 1))).length ≤ i := by
  exact Nat.le_trans (List.length_filterMap_le _ _) (by rw [List.length_range]; exact Nat.le_refl _)
def sp_loads_of (K : PySem.W.Frag) : Sp := fun vs H Q _ => ∃ (W : WA) (A : OA) (s : Office) (c d t : Nat) (ll : Addr) (ls : List Nat), vs = [.ref W.w, .int (d : Int), .int (t : Int), .ref ll] ∧ WaysAt K H W A s c ∧ c < 600000 ∧ t < s.trucks.length ∧ ls.length ≤ 8 ∧ (∀ i ∈ ls, i < s.lots.length) ∧ H ll = some (.lst (nv ls)) ∧
  ∀ p H' xs, NewD H p → ExD H H' → WaysAt K H' W A s (c + 2000) → H' p = some (.lst xs) → AllV (LoadAt ls H') xs (s.options ls (d, t)) → Q (.ref p) H'
theorem sc_loads_of : FnScope (["ways", "day", "truck", "left", "loads", "choice", "lots", "against", "metres", "roads"] : List Str) ["ways", "day", "truck", "left"] (defScope s_loads_of) := ⟨rfl, rfl, rfl, by decide +kernel, rfl, by decide +kernel, by decide +kernel⟩
theorem c_loads_of (T : Txt K mg) (C_chosen : Cal PP w K mg base 1 (He.ga K "chosen") ["things", "choice"] (sp_chosen K)) (C_look_at_load : Cal PP w K mg base 6 (He.ga K "look_at_load") ["ways", "truck", "day", "lots"] (sp_look_at_load K)) : Cal PP w K mg base 7 (He.ga K "loads_of") ["ways", "day", "truck", "left"] (sp_loads_of K) := by
  refine Cal.of T.f_loads_of sc_loads_of (fun vs H Q E h => ?_) (fun _ _ _ _ _ _ us hl => match us, hl with | [_, _, _, _], _ => rfl) (fun cdv A outer s H vs Q E hr h => ?_)
  · obtain ⟨W, A, s, c, d, t, ll, ls, rfl, wa, hc, ht, h8, hall, hl, k⟩ := h
    rfl
  · obtain ⟨W, A, s, c, d, t, ll, ls, rfl, wa, hc, ht, h8, hall, hl, k⟩ := h
    refine ⟨_, (pss_cons (ps_set (i := 4) sc_loads_of.nd rfl (Or.inl rfl) (pe_lst pa_nil))
      (pss_cons (ps_for PassesOwn.never rfl (pi_range2 (by rfl) T.n_range (pa_cons pe_int (pa_cons (pe_op op_shl pe_int (pe_callB cr_len (by rfl) T.n_len (by decide +kernel) (pa_cons (pv 3) pa_nil))) pa_nil))) (pg_name (i := 5) sc_loads_of.nd rfl (Or.inl rfl))
      (pss_cons (ps_set (i := 6) sc_loads_of.nd rfl (Or.inl rfl) (pe_cal C_chosen (hr.mono (by decide)) (by rfl) T.g_chosen (pa_cons (pv 3) (pa_cons (pv 5) pa_nil))))
      (pss_cons (ps_asg (pe_cal C_look_at_load.frame (hr.mono (by decide)) (by rfl) T.g_look_at_load (pa_cons (pv 0) (pa_cons (pv 2) (pa_cons (pv 1) (pa_cons (pv 6) pa_nil))))) (pg_tup rfl (pgs_cons (pg_name (i := 7) sc_loads_of.nd rfl (Or.inl rfl)) (pgs_cons (pg_name (i := 8) sc_loads_of.nd rfl (Or.inl rfl)) (pgs_cons (pg_name (i := 9) sc_loads_of.nd rfl (Or.inl rfl)) pgs_nil)))))
      (pss_one (ps_if (pt_cmpR op_eq (pv 7) pe_int (nomark _)) (pss_one (ps_expr (pe_bm PySem.F.plainAttrs_list PySem.F.slot_list_append PySem.F.type_list_append mt_append (pv 4) (pa_cons (pe_tup (pa_cons (pv 5) (pa_cons (pv 6) (pa_cons (pv 8) pa_nil)))) pa_nil)))) pss_nil)))))
      (pss_one (ps_ret (pv 4))))), ?_⟩
    have p256 : 2 ^ ls.length ≤ 256 := Nat.le_trans (Nat.pow_le_pow_right (by decide) h8) (by decide)
    have p0 := Nat.two_pow_pos ls.length
    refine Evl.q_asgL (Evl.el_lst Evl.ea_nil (Nat.zero_le _)) fun b H1 nb e1 h1 => ?_
    refine q_forK ?_
    have ea : EvA (tCons (tC (.int 1)) (tCons (tOp (rI CPow fun i j => V.int (i * 2 ^ j.toNat)) (tC (V.int 1)) (tCB (rLen K) (tCons (tVar 3) tNil))) tNil)) [some (.ref W.w), some (.int (d : Int)), some (.int (t : Int)), some (.ref ll), some (.ref b), none, none, none, none, none] H1 [.int 1, .int ((2 ^ ls.length : Nat) : Int)] := by
      refine ea_two Evl.ev_c (Evl.ev_is (Evl.ev_op Evl.ev_c (ev_lenL (Evl.ev_var rfl) (SqL.of (e1 _ _ hl))) (Evl.rv_I ?_)) ?_)
      · rw [nv_len]
        refine ⟨?_, ?_, ?_⟩ <;> omega
      · rw [nv_len]
        show V.int (1 * 2 ^ ((ls.length : Nat) : Int).toNat) = _
        rw [Int.one_mul, Int.toNat_natCast, Int.natCast_pow]
        rfl
    refine ea H1 (Ex.refl _) _ fun H2 e2 => ⟨_, _, rfl, by omega, ?_⟩
    rw [show (((2 ^ ls.length : Nat) : Int) - 1).toNat = 2 ^ ls.length - 1 by omega]
    refine loop_it walk_range (fun i σ H' => (∃ v5 v6 v7 v8 v9, σ = [some (.ref W.w), some (.int (d : Int)), some (.int (t : Int)), some (.ref ll), some (.ref b), v5, v6, v7, v8, v9]) ∧ ExD H (del H' b) ∧ WaysAt K (del H' b) W A s (c + 6 * i) ∧ ∃ xs, H' b = some (.lst xs) ∧ AllV (LoadAt ls (del H' b)) xs ((List.range i).filterMap fun i => optOf s ls (d, t) (i + 1))) ?_ (fun _ _ _ _ _ => trivial) (fun i x σ H' H3 hi p y => ?_) (fun σ H' p => ?_)
    · exact ⟨⟨none, none, none, none, none, rfl⟩, exD_of (del_of nb (e1.trans e2)), wa.ex (del_of nb (e1.trans e2)), [], e2 _ _ h1, AllV.nil⟩
    · obtain ⟨⟨v5, v6, v7, v8, v9, rfl⟩, ex, wa', xs, hb, hx⟩ := p
      obtain ⟨rfl, rfl⟩ := y
      have em : (1 : Int) + (i : Int) = ((i + 1 : Nat) : Int) := by omega
      dsimp only
      rw [em]
      have hl3 : H3 ll = some (.lst (nv ls)) := (del_some (ex _ _ hl rfl)).1
      have ec : EvL (tCall (sp_chosen K) [] E0 (tCons (tVar 3) (tCons (tVar 5) tNil))) [some (.ref W.w), some (.int (d : Int)), some (.int (t : Int)), some (.ref ll), some (.ref b), some (.int ((i + 1 : Nat) : Int)), v6, v7, v8, v9] H3 (nv (TimHaul.picked ls (i + 1))) := el_fn (vs := [.ref ll, .int ((i + 1 : Nat) : Int)]) (ea_two (Evl.ev_var rfl) (Evl.ev_var rfl)) fun H4 e4 Q4 q4 => ⟨ll, nv ls, i + 1, rfl, SqL.of (e4 _ _ hl3), by rw [nv_len]; omega, by rw [pickV_nv]; exact q4⟩
      refine Evl.q_asgL ec fun pl H4 np4 e4 h4 => ?_
      have hb4 := e4 _ _ hb
      have plb : pl ≠ b := fun z => by rw [z, hb] at np4; cases np4
      have ed : EvA (tCons (tVar 0) (tCons (tVar 2) (tCons (tVar 1) (tCons (tVar 6) tNil)))) [some (.ref W.w), some (.int (d : Int)), some (.int (t : Int)), some (.ref ll), some (.ref b), some (.int ((i + 1 : Nat) : Int)), some (.ref pl), v7, v8, v9] H4 [.ref W.w, .int (t : Int), .int (d : Int), .ref pl] := Evl.ea_cons (Evl.ev_var rfl) (Evl.ea_cons (Evl.ev_var rfl) (ea_two (Evl.ev_var rfl) (Evl.ev_var rfl)))
      refine q_asgG (k_call ed fun H5 e5 => ?_)
      have hb5 := e5 _ _ hb4
      have e35 := e4.trans e5
      have wa5 := wa'.ex (del_mono e35)
      have ex5 : ExD H (del H5 b) := ex.ex (del_mono e35)
      have hpl5 : del H5 b pl = some (.lst (nv (TimHaul.picked ls (i + 1)))) := by rw [del_ne plb]; exact e5 _ _ h4
      have lok : LotsOk s (TimHaul.picked ls (i + 1)) := ⟨picked_ne (by omega) (by omega), by have := picked_len ls (i + 1); omega, fun j m => hall j (picked_mem m)⟩
      refine ⟨b, xs, hb5, W, A, s, _, t, d, pl, _, rfl, wa5, by omega, ht, lok, hpl5, fun p l H6 nl x6 wa6 hp6 hl6 nb6 => ?_⟩
      have ex6 : ExD H H6 := ex5.trans x6
      have hpl6 := x6 _ _ hpl5 rfl
      have hx6 : AllV (LoadAt ls H6) xs ((List.range i).filterMap fun i => optOf s ls (d, t) (i + 1)) := hx.mono fun v o r => (r.ex (del_mono e35)).mono x6
      have pb : p ≠ b := fun z => by rw [z, nb6] at hp6; cases hp6
      refine ⟨p, _, rfl, SqT.of (by rw [upd_ne pb]; exact hp6), rfl, _, _, rfl, _, _, rfl, _, _, rfl, rfl, ?_⟩
      have hd7 : del (upd H6 b (.lst xs)) b = H6 := del_upd_none nb6
      have len : xs.length ≤ 300 := by
        have := hx.1
        have := opts_len s ls (d, t) i
        omega
      rw [opts_succ]
      refine Evl.s_when (b := decide (s.against (s.truck t) d (TimHaul.picked ls (i + 1)) = 0)) (Evl.et_is (Evl.et_test (ev_eqI (Evl.ev_var rfl) Evl.ev_c)) (decide_eq_decide.mpr (by omega))) (fun hz H7 e7 => ?_) (fun hz H7 e7 => ?_)
      · have hz' := of_decide_eq_true hz
        have eo : optOf s ls (d, t) (i + 1) = some (i + 1, s.metres (s.truck t) d (TimHaul.picked ls (i + 1))) := if_pos hz'
        have em : lookM s (s.truck t) d (TimHaul.picked ls (i + 1)) = s.metres (s.truck t) d (TimHaul.picked ls (i + 1)) := if_pos hz'
        have eb7 : Ex H6 (del H7 b) := by rw [← hd7]; exact del_mono e7
        refine Evl.s_appU (ys := [.int ((i + 1 : Nat) : Int), .ref pl, .int ((lookM s (s.truck t) d (TimHaul.picked ls (i + 1)) : Nat) : Int)]) (e7 _ _ upd_same) (Evl.ev_var rfl) (Evl.eu_tup (Evl.ea_cons (Evl.ev_var rfl) (ea_two (Evl.ev_var rfl) (Evl.ev_var rfl))) (by show 3 ≤ 100000; decide)) (by omega) fun q H8 nq e8 h8' => ?_
        have qb : q ≠ b := fun z => by rw [z, e7 _ _ upd_same] at nq; cases nq
        have e68 : Ex H6 (del H8 b) := eb7.trans (del_mono e8)
        refine ⟨⟨_, _, _, _, _, rfl⟩, ?_, ?_, _, upd_same, ?_⟩
        · rw [del_upd]; exact ex6.ex e68
        · rw [del_upd]; exact (wa6.ex e68).le (by omega)
        · rw [del_upd, eo]
          refine (hx6.mono fun v o r => r.ex e68).snoc ⟨q, pl, rfl, ?_, e68 _ _ hpl6⟩
          rw [del_ne qb, h8', em]
      · have hz' := of_decide_eq_false hz
        have eo : optOf s ls (d, t) (i + 1) = none := if_neg hz'
        have e67 : Ex H6 (del H7 b) := by rw [← hd7]; exact del_mono e7
        refine ⟨⟨_, _, _, _, _, rfl⟩, ex6.ex e67, (wa6.ex e67).le (by omega), xs, e7 _ _ upd_same, ?_⟩
        rw [eo]
        simpa using hx6.mono fun v o r => r.ex e67
    · obtain ⟨⟨v5, v6, v7, v8, v9, rfl⟩, ex, wa', xs, hb, hx⟩ := p
      refine Evl.s_ret (Evl.ev_var rfl) fun H3 e3 => ?_
      refine k b H3 xs (fun a o ha hd z => by rw [← z, nb] at ha; cases ha) ((exD_undel ex).ex e3) (((wa'.ex (del_ex _ _)).ex e3).le (by omega)) (e3 _ _ hb) ?_
      rw [options_eq]
      exact hx.mono fun v o r => (r.ex (del_ex _ _)).ex e3
end
end Th
namespace Th
open PySem PySem.Spec PyProof.Rows L2
open TimHaul (Road Limit Truck Lot Trip Office before)
open Evl (Ex Ev EvL EvT EvA)
section
variable {PP : Program} {w : World} {K : PySem.W.Frag} {mg : Str → Option Value} {base : Heap}
def sp_with_slot (K : PySem.W.Frag) : Sp := fun vs H Q _ => ∃ (pa la : Addr) (w d t B : Nat) (ls : List Nat) (os : List (Nat × Nat)) (T : Tab) (ps lv : List V), vs = [.ref pa, .int (w : Int), .int (d : Int), .int (t : Int), .ref la] ∧ H pa = some (.lst ps) ∧ AllV (DrvAt H) ps T ∧ H la = some (.lst lv) ∧ AllV (LoadAt ls H) lv os ∧ T.length ≤ 300 ∧ Bnd T B ∧ B ≤ 10000 ∧ ls.length ≤ 24 ∧ os.length ≤ 300 ∧
  ∀ p H' xs, H p = none → Ex H H' → H' p = some (.lst xs) → AllV (DrvAt H') xs (betAll (optPlan w (d, t) ls T) T os) → Q (.ref p) H'
theorem bit_part (m o : Nat) : decide (Builtin.bitAnd (m : Int) (o : Int) = (o : Int)) = TimHaul.part o m := by
  rw [bitAnd_pp (by omega) (by omega), Int.toNat_natCast, Int.toNat_natCast]
  unfold TimHaul.part
  rw [Bool.beq_eq_decide_eq, Nat.and_comm m o]
  exact decide_eq_decide.mpr (by omega)
theorem el_cat2 {σ : L2.St} {H : Hp} {ta tb : TE} {a b : Addr} {xs ys : List V} (ha : Ev ta σ H (.ref a)) (h1 : H a = some (.lst xs)) (hb : Ev tb σ H (.ref b)) (h2 : H b = some (.lst ys)) (hl : xs.length + ys.length ≤ 100000) : EvL (tOp rCat ta tb) σ H (xs ++ ys) := fun H1 e Q q =>
  ha H1 e _ fun H2 e2 => hb H2 (e.trans e2) _ fun H3 e3 => rcat (((e.trans e2).trans e3) _ _ h1) (((e.trans e2).trans e3) _ _ h2) hl fun z nz => q z _ (Evl.fresh_back (e2.trans e3) nz) ((e2.trans e3).trans (ex_upd nz)) upd_same
theorem drv_none {H : Hp} {v : V} {o : Option (List Nat)} (h : DrvAt H v o) : decide (v = V.non) = o.isNone := by
  cases o with
  | none => have z : v = .non := h; rw [z]; rfl
  | some r => obtain ⟨_, _, _, _, _, _, z, _⟩ := h; rw [z]; rfl
theorem sc_with_slot : FnScope (["plans", "what", "day", "truck", "loads", "better", "taken", "lots", "metres", "trip", "choice", "first", "second", "rest", "plan"] : List Str) ["plans", "what", "day", "truck", "loads"] (defScope s_with_slot) := ⟨rfl, rfl, rfl, by decide +kernel, rfl, by decide +kernel, by decide +kernel⟩
theorem c_with_slot (T : Txt K mg) (C_costs : Cal PP w K mg base 1 (He.ga K "costs") ["what", "metres"] (sp_costs K)) : Cal PP w K mg base 2 (He.ga K "with_slot") ["plans", "what", "day", "truck", "loads"] (sp_with_slot K) := by
  refine Cal.of T.f_with_slot sc_with_slot (fun vs H Q E h => ?_) (fun _ _ _ _ _ _ us hl => match us, hl with | [_, _, _, _, _], _ => rfl) (fun cdv A outer s H vs Q E hr h => ?_)
  · obtain ⟨pa, la, w', d, t, B, ls, os, T', ps, lv, rfl, hp, hT, hl, hL, hTl, hB, hB2, hls, hos, k⟩ := h
    rfl
  · obtain ⟨pa, la, w', d, t, B, ls, os, T', ps, lv, rfl, hp, hT, hl, hL, hTl, hB, hB2, hls, hos, k⟩ := h
    refine ⟨_, (pss_cons (ps_set (i := 5) sc_with_slot.nd rfl (Or.inl rfl) (pe_callTy cr_list (by rfl) T.n_list (by decide +kernel) (pa_cons (pv 0) pa_nil)))
      (pss_cons (ps_for PassesOwn.never rfl (pi_list (pv 4)) (pg_tup rfl (pgs_cons (pg_name (i := 6) sc_with_slot.nd rfl (Or.inl rfl)) (pgs_cons (pg_name (i := 7) sc_with_slot.nd rfl (Or.inl rfl)) (pgs_cons (pg_name (i := 8) sc_with_slot.nd rfl (Or.inl rfl)) pgs_nil))))
      (pss_cons (ps_asg (pe_cal C_costs (hr.mono (by decide)) (by rfl) T.g_costs (pa_cons (pv 1) (pa_cons (pv 8) pa_nil))) (pg_tup rfl (pgs_cons (pg_name (i := 11) sc_with_slot.nd rfl (Or.inl rfl)) (pgs_cons (pg_name (i := 12) sc_with_slot.nd rfl (Or.inl rfl)) pgs_nil))))
      (pss_cons (ps_set (i := 9) sc_with_slot.nd rfl (Or.inl rfl) (pe_op op_cat (pe_lst (pa_cons (pv 2) (pa_cons (pv 3) (pa_cons (pe_callB cr_len (by rfl) T.n_len (by decide +kernel) (pa_cons (pv 7) pa_nil)) pa_nil)))) (pv 7)))
      (pss_one (ps_for PassesOwn.never rfl (pi_range1 (by rfl) T.n_range (pa_cons (pe_callB cr_len (by rfl) T.n_len (by decide +kernel) (pa_cons (pv 0) pa_nil)) pa_nil)) (pg_name (i := 10) sc_with_slot.nd rfl (Or.inl rfl))
      (pss_one (ps_if (PW.pt (pw_and (pt_cmpR op_eq (pe_op op_and (pv 10) (pv 6)) (pv 6) (nomark _)) (pw_and1 (pt_cmpR op_notN (pe_ix ix_list (pv 0) (pe_op op_sub (pv 10) (pv 6)) (fun _ _ => rfl)) pe_non (nomark _))))) (pss_cons (ps_set (i := 13) sc_with_slot.nd rfl (Or.inl rfl) (pe_ix ix_list (pv 0) (pe_op op_sub (pv 10) (pv 6)) (fun _ _ => rfl)))
      (pss_cons (ps_set (i := 14) sc_with_slot.nd rfl (Or.inl rfl) (pe_tup (pa_cons (pe_op op_add (pv 11) (pe_ix ix_tup (pv 13) pe_int (fun _ _ => rfl))) (pa_cons (pe_op op_add (pv 12) (pe_ix ix_tup (pv 13) pe_int (fun _ _ => rfl))) (pa_cons (pe_op op_cat (pv 9) (pe_ix ix_tup (pv 13) pe_int (fun _ _ => rfl))) pa_nil)))))
      (pss_one (ps_if (PW.pt (pw_or (pt_cmpR op_isN (pe_ix ix_list (pv 5) (pv 10) (fun _ _ => rfl)) pe_non (nomark _)) (pw_or1 (pt_cmpR (op_ltD hr.units) (pv 14) (pe_ix ix_list (pv 5) (pv 10) (fun _ _ => rfl)) (nomark _))))) (pss_one (ps_asg (pv 14) (pg_sub (pv 5) (pv 10) set_list))) pss_nil)))) pss_nil)))))))
      (pss_one (ps_ret (pv 5))))), ?_⟩
    have hN : ps.length = T'.length := hT.1
    refine Evl.q_asgL (el_listOf (Evl.ev_var rfl) (SqL.of hp)) fun b H1 nb e1 h1 => ?_
    refine q_forK ⟨_, rfl, la, rfl, ⟨_, SqL.of (e1 _ _ hl)⟩, ?_⟩
    have hbH : ∀ {a : Addr} {o : HO}, H a = some o → a ≠ b := fun h => ne_of_none h nb
    have fin : ∀ i, i ≤ os.length → (betAll (optPlan w' (d, t) ls T') T' (os.take i)).length = T'.length := fun i _ => betAll_len _ _ _
    refine loop_it (walk_list (K := K) (a := la) (xs := lv)) (fun i σ H' => (∃ v6 v7 v8 v9 v10 v11 v12 v13 v14, σ = [some (.ref pa), some (.int (w' : Int)), some (.int (d : Int)), some (.int (t : Int)), some (.ref la), some (.ref b), v6, v7, v8, v9, v10, v11, v12, v13, v14]) ∧ Ex H H' ∧ ∃ ys, H' b = some (.lst ys) ∧ AllV (DrvAt (del H' b)) ys (betAll (optPlan w' (d, t) ls T') T' (os.take i))) ?_ (fun i σ H' _ p => SqL.of (p.2.1 _ _ hl)) (fun i v σ H0 H' _ p yy => ?_) (fun σ H' p => ?_)
    · exact ⟨⟨none, none, none, none, none, none, none, none, none, rfl⟩, e1, ps, h1, hT.mono fun v o r => r.ex (del_of nb e1)⟩
    · obtain ⟨⟨v6, v7, v8, v9, v10, v11, v12, v13, v14, rfl⟩, ex, ys, hb, hy⟩ := p
      obtain ⟨rfl, hv⟩ := yy
      have hi : i < os.length := by rw [← hL.1]; exact (List.getElem?_eq_some_iff.mp hv).1
      obtain ⟨v', hv', lo⟩ := hL.2 i _ (List.getElem?_eq_getElem hi)
      have evv : v = v' := Option.some.inj (hv.symm.trans hv')
      subst evv
      have eo : os[i]? = some os[i] := List.getElem?_eq_getElem hi
      have etk : os.take (i + 1) = os.take i ++ [os[i]] := take_snoc eo
      generalize os[i] = y at lo etk
      obtain ⟨o, c⟩ := y
      obtain ⟨q, l, rfl, hq, hl'⟩ := lo
      generalize hg : TimHaul.picked ls o = g at hl'
      have gl : g.length ≤ 24 := by rw [← hg]; exact Nat.le_trans (picked_len _ _) hls
      refine ⟨q, _, rfl, SqT.of (ex _ _ hq), rfl, _, _, rfl, _, _, rfl, _, _, rfl, rfl, ?_⟩
      have ec : EvA (tCons (tVar 1) (tCons (tVar 8) tNil)) [some (.ref pa), some (.int (w' : Int)), some (.int (d : Int)), some (.int (t : Int)), some (.ref la), some (.ref b), some (.int (o : Int)), some (.ref l), some (.int (c : Int)), v9, v10, v11, v12, v13, v14] H' [.int (w' : Int), .int (c : Int)] := ea_two (Evl.ev_var rfl) (Evl.ev_var rfl)
      refine q_asgG (k_call ec fun H2 e2 => ⟨w', c, rfl, fun p3 H3 np3 e3 h3 => ⟨p3, _, rfl, SqT.of h3, rfl, _, _, rfl, _, _, rfl, rfl, ?_⟩⟩)
      generalize ea' : (if w' = 0 then c else 1 : Nat) = ca at h3
      generalize eb' : (if w' = 0 then 1 else c : Nat) = cb at h3
      have e23 := e2.trans e3
      have hl3 := e23 _ _ (ex _ _ hl')
      refine Evl.q_asgL (el_is (el_catR (xs := [.int (d : Int), .int (t : Int), .int (g.length : Nat)]) (Evl.el_lst (Evl.ea_cons (Evl.ev_var rfl) (ea_two (Evl.ev_var rfl) (Evl.ev_is (ev_lenL (Evl.ev_var rfl) (SqL.of hl3)) (by rw [nv_len])))) (by show 3 ≤ 100000; decide)) (Evl.ev_var rfl) hl3 (by rw [nv_len]; show 3 + _ ≤ _; omega)) (show _ = nv (d :: t :: g.length :: g) from rfl)) fun pt H4 npt e4 h4 => ?_
      have e234 := e23.trans e4
      have hb4 := e234 _ _ hb
      have ptb : pt ≠ b := fun z => by rw [z, e23 _ _ hb] at npt; cases npt
      have h4d : del H4 b pt = some (.lst (nv (d :: t :: g.length :: g))) := by rw [del_ne ptb]; exact h4
      have exd4 : Ex H (del H4 b) := ex_del nb (ex.trans e234)
      have hy4 : AllV (DrvAt (del H4 b)) ys (betAll (optPlan w' (d, t) ls T') T' (os.take i)) := hy.mono fun v o r => r.ex (del_mono e234)
      generalize hTab : betAll (optPlan w' (d, t) ls T') T' (os.take i) = tab at hy4
      have tl : tab.length = T'.length := by rw [← hTab]; exact betAll_len _ _ _
      have en : EvA (tCons (tCB (rLen K) (tCons (tVar 0) tNil)) tNil) [some (.ref pa), some (.int (w' : Int)), some (.int (d : Int)), some (.int (t : Int)), some (.ref la), some (.ref b), some (.int (o : Int)), some (.ref l), some (.int (c : Int)), some (.ref pt), v10, some (.int (ca : Nat)), some (.int (cb : Nat)), v13, v14] H4 [.int (T'.length : Nat)] := ea_one (Evl.ev_is (ev_lenL (Evl.ev_var rfl) (SqL.of ((ex.trans e234) _ _ hp))) (by rw [hN]))
      refine s_forK (en H4 (Ex.refl _) _ fun H5 e5 => ⟨_, rfl, by omega, by omega, ?_⟩)
      rw [show ((T'.length : Nat) : Int).toNat = T'.length from rfl]
      have nextO : ∀ (σ : L2.St) (H' : Hp), (∃ v10 v13 v14, σ = [some (.ref pa), some (.int (w' : Int)), some (.int (d : Int)), some (.int (t : Int)), some (.ref la), some (.ref b), some (.int (o : Int)), some (.ref l), some (.int (c : Int)), some (.ref pt), v10, some (.int (ca : Nat)), some (.int (cb : Nat)), v13, v14]) → Ex (del H4 b) (del H' b) → ∀ ys, H' b = some (.lst ys) → AllV (DrvAt (del H' b)) ys (betJ (optPlan w' (d, t) ls T' (o, c)) tab T'.length) →
          ((∃ v6 v7 v8 v9 v10 v11 v12 v13 v14, σ = [some (.ref pa), some (.int (w' : Int)), some (.int (d : Int)), some (.int (t : Int)), some (.ref la), some (.ref b), v6, v7, v8, v9, v10, v11, v12, v13, v14]) ∧ Ex H H' ∧ ∃ ys, H' b = some (.lst ys) ∧ AllV (DrvAt (del H' b)) ys (betAll (optPlan w' (d, t) ls T') T' (os.take (i + 1)))) := by
        rintro σ H' ⟨v10, v13, v14, rfl⟩ e' ys hb' hy'
        refine ⟨⟨_, _, _, _, _, _, _, _, _, rfl⟩, (exd4.trans e').trans (del_ex _ _), ys, hb', ?_⟩
        rw [etk, betAll_snoc, hTab, tl]
        exact hy'
      refine loop_it walk_range (fun j σ H' => (∃ v10 v13 v14, σ = [some (.ref pa), some (.int (w' : Int)), some (.int (d : Int)), some (.int (t : Int)), some (.ref la), some (.ref b), some (.int (o : Int)), some (.ref l), some (.int (c : Int)), some (.ref pt), v10, some (.int (ca : Nat)), some (.int (cb : Nat)), v13, v14]) ∧ Ex (del H4 b) (del H' b) ∧ ∃ ys, H' b = some (.lst ys) ∧ AllV (DrvAt (del H' b)) ys (betJ (optPlan w' (d, t) ls T' (o, c)) tab j)) ?_ (fun _ _ _ _ _ => trivial) (fun j x σ H' H6 hj p y => ?_) (fun σ H' p => ?_)
      · refine ⟨⟨_, _, _, rfl⟩, del_mono e5, ys, e5 _ _ hb4, ?_⟩
        rw [betJ_zero]
        exact hy4.mono fun v o r => r.ex (del_mono e5)
      · obtain ⟨⟨v10', v13', v14', rfl⟩, e', ys', hb', hy'⟩ := p
        obtain ⟨rfl, rfl⟩ := y
        have e0 : (0 : Int) + (j : Int) = (j : Int) := Int.zero_add _
        dsimp only
        rw [e0]
        have exH6 : Ex H H6 := (exd4.trans e').trans (del_ex _ _)
        have hp6 := exH6 _ _ hp
        have jt : j < tab.length := by omega
        rw [betJ_succ jt]
        have same : at' (betJ (optPlan w' (d, t) ls T' (o, c)) tab j) j = at' tab j := by rw [betJ_at jt, if_neg (Nat.lt_irrefl j)]
        have jl : j < (betJ (optPlan w' (d, t) ls T' (o, c)) tab j).length := by rw [betJ_len]; exact jt
        have stay : ∀ H7, Ex H6 H7 → stpO (at' tab j) (optPlan w' (d, t) ls T' (o, c) j) = at' tab j → AllV (DrvAt (del H7 b)) ys' ((betJ (optPlan w' (d, t) ls T' (o, c)) tab j).set j (stpO (at' tab j) (optPlan w' (d, t) ls T' (o, c) j))) := fun H7 e7 h => by
          rw [h, ← same, set_same jl]
          exact hy'.mono fun v o r => r.ex (del_mono e7)
        have restAt : ∀ H7, Ex H6 H7 → TimHaul.part o j = true → ∃ v, DrvAt H v (at' T' (j - o)) ∧ ∀ v10 v13 v14, v10 = some (V.int (j : Int)) → Ev (tOp (rIxL K) (tVar 0) (tOp (rI0 fun i j => V.int (i - j)) (tVar 10) (tVar 6))) [some (.ref pa), some (.int (w' : Int)), some (.int (d : Int)), some (.int (t : Int)), some (.ref la), some (.ref b), some (.int (o : Int)), some (.ref l), some (.int (c : Int)), some (.ref pt), v10, some (.int (ca : Nat)), some (.int (cb : Nat)), v13, v14] H7 v := fun H7 e7 hpt => by
          have le := part_le hpt
          obtain ⟨v, hv, dv⟩ := hT.2 (j - o) _ (at_get (by omega))
          refine ⟨v, dv, fun v10 v13 v14 h => ?_⟩
          subst h
          have ei : (j : Int) - (o : Int) = ((j - o : Nat) : Int) := by omega
          exact Evl.ev_op (Evl.ev_var rfl) (Evl.ev_is (Evl.ev_op (Evl.ev_var rfl) (Evl.ev_var rfl) Evl.rv_I0) (congrArg V.int ei)) (Evl.rv_ixL (SqL.of (e7 _ _ hp6)) (atI_nat hv))
        refine Evl.s_if (b := TimHaul.part o j && (at' T' (j - o)).isSome) (Evl.et_and (Evl.et_is (Evl.et_test (Evl.ev_op (Evl.ev_op (Evl.ev_var rfl) (Evl.ev_var rfl) Evl.rv_I0) (Evl.ev_var rfl) (Evl.rv_eq rfl))) ?_) (fun hpt => ?_)) (fun hc H7 e7 => ?_) (fun hc H7 e7 => ?_)
        · rw [← bit_part]
          rw [dec_int, Bool.beq_eq_decide_eq]
        · obtain ⟨v, dv, hev⟩ := restAt H6 (Ex.refl _) hpt
          refine Evl.et_test (Evl.ev_op (hev _ _ _ rfl) Evl.ev_c (Evl.rv_val fun H1 _ Q q => ⟨rfl, ?_⟩))
          rw [drv_none dv, Option.not_isNone]
          exact q
        · obtain ⟨hc1, hc2⟩ := Bool.and_eq_true_iff.mp hc
          obtain ⟨v, dv, hev⟩ := restAt H7 e7 hc1
          obtain ⟨r0, hr0⟩ := Option.isSome_iff_exists.mp hc2
          rw [hr0] at dv
          obtain ⟨pr, lr, x0, y0, r, rfl, rfl, g1, g2⟩ := dv
          have eX : optPlan w' (d, t) ls T' (o, c) j = some ((x0 + ca) :: (y0 + cb) :: (d :: t :: g.length :: (g ++ r))) := by
            unfold optPlan
            rw [if_neg (by rw [hc1]; decide)]
            have z : T'.getD (j - o) none = some (x0 :: y0 :: r) := hr0
            rw [z]
            show some (TimHaul.Plan.with_ w' (d, t) (TimHaul.picked ls o) c (x0 :: y0 :: r)) = _
            unfold TimHaul.Plan.with_
            rw [hg, ← ea', ← eb']
            rfl
          have rl : r.length ≤ 10000 := by
            have := hB.at hr0
            simp at this
            omega
          refine Evl.q_asg (hev _ _ _ rfl) fun H8 e8 => ?_
          have ex8 : Ex H H8 := (exH6.trans e7).trans e8
          have g18 := ex8 _ _ g1
          have g28 := ex8 _ _ g2
          have hpt8 : H8 pt = some (.lst (nv (d :: t :: g.length :: g))) := (e7.trans e8) _ _ (del_some (e' _ _ h4d)).1
          have rest : ∀ H9, Ex H8 H9 → ∀ (k : Nat) v v14, ([.int (x0 : Nat), .int (y0 : Nat), .ref lr] : List V)[k]? = some v → Ev (tOp (rIxT K) (tVar 13) (tC (.int (k : Int)))) [some (.ref pa), some (.int (w' : Int)), some (.int (d : Int)), some (.int (t : Int)), some (.ref la), some (.ref b), some (.int (o : Int)), some (.ref l), some (.int (c : Int)), some (.ref pt), some (.int (j : Int)), some (.int (ca : Nat)), some (.int (cb : Nat)), some (.ref pr), v14] H9 v := fun H9 e9 k v v14 hk => Evl.ev_op (Evl.ev_var rfl) Evl.ev_c (Evl.rv_ixT (SqT.of (e9 _ _ g18)) (atI_nat hk))
          refine q_asgK (k_tup (k_cons (k_ev (Evl.ev_op (Evl.ev_var rfl) (rest H8 (Ex.refl _) 0 _ _ rfl) Evl.rv_I0) fun H9 e9 => k_cons (k_ev (Evl.ev_op (Evl.ev_var rfl) (rest H9 e9 1 _ _ rfl) Evl.rv_I0) fun Ha ea => k_cons (k_evL (el_cat2 (Evl.ev_var rfl) ((e9.trans ea) _ _ hpt8) (rest Ha (e9.trans ea) 2 _ _ rfl) ((e9.trans ea) _ _ g28) (by rw [nv_len, nv_len]; show g.length + 3 + r.length ≤ _; omega)) fun p2 Hb np2 ebb hp2 => k_nil ⟨by show 3 ≤ sizeLine; decide, fun p3' np3' => ?_⟩)))))
          have e8b : Ex H8 Hb := (e9.trans ea).trans ebb
          have hb8 : H8 b = some (.lst ys') := (e7.trans e8) _ _ hb'
          have p2b : p2 ≠ b := fun z => by rw [z, (e9.trans ea) _ _ hb8] at np2; cases np2
          have p3b : p3' ≠ b := fun z => by rw [z, e8b _ _ hb8] at np3'; cases np3'
          have ec1 : (ca : Int) + (x0 : Int) = ((x0 + ca : Nat) : Int) := by omega
          have ec2 : (cb : Int) + (y0 : Int) = ((y0 + cb : Nat) : Int) := by omega
          rw [ec1, ec2]
          have xH : Ex H6 (upd Hb p3' (.tup [.int ((x0 + ca : Nat) : Int), .int ((y0 + cb : Nat) : Int), .ref p2])) := ((e7.trans e8).trans e8b).trans (ex_upd np3')
          have rD : DrvAt (del (upd Hb p3' (.tup [.int ((x0 + ca : Nat) : Int), .int ((y0 + cb : Nat) : Int), .ref p2])) b) (.ref p3') (some ((x0 + ca) :: (y0 + cb) :: (d :: t :: g.length :: (g ++ r)))) := by
            refine ⟨p3', p2, _, _, _, rfl, rfl, by rw [del_ne p3b]; exact upd_same, ?_⟩
            rw [del_ne p2b, upd_ne (ne_of_none hp2 np3'), hp2]
            simp [nv]
          generalize upd Hb p3' (.tup [.int ((x0 + ca : Nat) : Int), .int ((y0 + cb : Nat) : Int), .ref p2]) = Hc at xH rD
          have rDc : DrvAt Hc (.ref p3') (some ((x0 + ca) :: (y0 + cb) :: (d :: t :: g.length :: (g ++ r)))) := rD.ex (del_ex _ _)
          have hbc := xH _ _ hb'
          obtain ⟨v2, hv2, dv2⟩ := hy'.2 j _ (at_get jl)
          rw [same] at dv2
          have dv2c : DrvAt Hc v2 (at' tab j) := (dv2.ex (del_ex _ _)).ex xH
          have E2 : Ev (tOp (rIxL K) (tVar 5) (tVar 10)) [some (.ref pa), some (.int (w' : Int)), some (.int (d : Int)), some (.int (t : Int)), some (.ref la), some (.ref b), some (.int (o : Int)), some (.ref l), some (.int (c : Int)), some (.ref pt), some (.int (j : Int)), some (.int (ca : Nat)), some (.int (cb : Nat)), some (.ref pr), some (.ref p3')] Hc v2 := Evl.ev_op (Evl.ev_var rfl) (Evl.ev_var rfl) (Evl.rv_ixL (SqL.of hbc) (atI_nat hv2))
          have stays : ∀ Hd, Ex Hc Hd → Ex (del H4 b) (del Hd b) := fun Hd ed => (e'.trans (del_mono xH)).trans (del_mono ed)
          refine Evl.s_when (b := decide (v2 = .non) || (match at' tab j with
            | none => true
            | some e => TimHaul.before ((x0 + ca) :: (y0 + cb) :: (d :: t :: g.length :: (g ++ r))) e)) ?_ (fun hz Hd ed => ?_) (fun hz Hd ed => ?_)
          · refine Evl.et_or (Evl.et_test (Evl.ev_op E2 Evl.ev_c (Evl.rv_val fun H1 _ Q q => ⟨rfl, q⟩))) (fun hv => ?_)
            cases q2 : at' tab j with
            | none =>
              rw [q2] at dv2c
              have z : v2 = .non := dv2c
              rw [z] at hv
              cases hv
            | some e =>
              dsimp only
              refine Evl.et_test (Evl.ev_op (Evl.ev_var rfl) E2 (Evl.rv_val fun He ee Q q => ?_))
              have z := dv2c.ex ee
              rw [q2] at z
              obtain ⟨_, _, a', b', r', rfl, _⟩ := id z
              refine ⟨_, _, (rDc.ex ee).dp, z.dp, alike_tup _ _ _ _ _ _, (by intro z; cases z), Nat.le_trans (depth_tup _ _ _) (by decide), ?_⟩
              show Q (.bl (PySem.W.dataLt (dTup _ _ _) (dTup a' b' r'))) He
              rw [lt_tup]
              exact q
          · refine ⟨_, rfl, _, rfl, _, rfl, b, ys', (j : Int), j, rfl, rfl, ed _ _ hbc, Evl.ixN_nat (by rw [hy'.1]; exact jl), ?_⟩
            refine ⟨⟨_, _, _, rfl⟩, by rw [del_upd]; exact stays Hd ed, _, upd_same, ?_⟩
            rw [del_upd, eX]
            have es : stpO (at' tab j) (some ((x0 + ca) :: (y0 + cb) :: (d :: t :: g.length :: (g ++ r)))) = some ((x0 + ca) :: (y0 + cb) :: (d :: t :: g.length :: (g ++ r))) := by
              unfold stpO stp
              cases q2 : at' tab j with
              | none => rfl
              | some e =>
                dsimp only
                rw [q2] at hz dv2c
                obtain ⟨_, _, _, _, _, _, zv, _⟩ := dv2c
                rw [zv] at hz
                rw [if_pos (by simpa using hz)]
            rw [es]
            exact (hy'.mono fun v o r => r.ex (del_mono (xH.trans ed))).set (rD.ex (del_mono ed))
          · refine ⟨⟨_, _, _, rfl⟩, stays Hd ed, ys', ed _ _ hbc, stay Hd (xH.trans ed) ?_⟩
            rw [eX]
            unfold stpO stp
            cases q2 : at' tab j with
            | none => rw [q2] at hz; simp at hz
            | some e =>
              dsimp only
              rw [q2] at hz
              rw [if_neg (by simp at hz; rw [hz.2]; decide)]
        · refine ⟨⟨_, _, _, rfl⟩, e'.trans (del_mono e7), ys', e7 _ _ hb', stay H7 e7 ?_⟩
          have eN : optPlan w' (d, t) ls T' (o, c) j = none := by
            unfold optPlan
            cases hpt : TimHaul.part o j with
            | false => exact if_pos rfl
            | true =>
              refine (if_neg (by decide)).trans ?_
              rw [hpt, Bool.true_and] at hc
              have z : T'.getD (j - o) none = none := by
                cases q : at' T' (j - o) with
                | none => exact q
                | some x => rw [q] at hc; cases hc
              show (T'.getD (j - o) none).map _ = none
              rw [z]
              rfl
          rw [eN]
          rfl
      · obtain ⟨hσ, e', ys', hb', hy'⟩ := p
        exact nextO σ H' hσ e' ys' hb' hy'
    · obtain ⟨⟨v6, v7, v8, v9, v10, v11, v12, v13, v14, rfl⟩, ex, ys, hb, hy⟩ := p
      refine Evl.s_ret (Evl.ev_var rfl) fun H3 e3 => k b H3 ys nb (ex.trans e3) (e3 _ _ hb) ?_
      rw [hL.1, List.take_length] at hy
      exact hy.mono fun v o r => (r.ex (del_ex _ _)).ex e3
end
end Th
namespace Th
open PySem PySem.Spec PyProof.Rows L2
open TimHaul (Road Limit Truck Lot Trip Office before)
open Evl (Ex Ev EvL EvT EvA)
section
variable {PP : Program} {w : World} {K : PySem.W.Frag} {mg : Str → Option Value} {base : Heap}
def sp_best_plan (K : PySem.W.Frag) : Sp := fun vs H Q _ => ∃ (A : OA) (s : Office) (w d e : Nat) (ll : Addr) (ls : List Nat), vs = [.ref A.a, .int (w : Int), .int (d : Int), .int (e : Int), .ref ll] ∧ OffR K H A s ∧ Wf s ∧ d ≤ 99999 ∧ e ≤ 99999 ∧ e < d + 5 ∧ ls.length ≤ 8 ∧ (∀ i ∈ ls, i < s.lots.length) ∧ H ll = some (.lst (nv ls)) ∧
  ∀ v H', ExD H H' → DrvAt H' v (at' (s.plans w ls (s.slots d e)).toList (2 ^ ls.length - 1)) → (∀ r, at' (s.plans w ls (s.slots d e)).toList (2 ^ ls.length - 1) = some r → r.length ≤ 1000) → Q v H'
theorem slots_mem {s : Office} {d e : Nat} {x : Nat × Nat} (h : x ∈ s.slots d e) : d ≤ x.1 ∧ x.1 ≤ e ∧ x.2 < s.trucks.length := by
  rw [slots_eq] at h
  obtain ⟨i, hi, hx⟩ := List.mem_flatMap.mp h
  unfold slotsDay at hx
  obtain ⟨k, hk, rfl⟩ := List.mem_map.mp hx
  have := List.mem_range.mp hi
  have := List.mem_range.mp (List.mem_filter.mp hk).1
  refine ⟨?_, ?_, this⟩ <;> (dsimp only; omega)
theorem slots_le {s : Office} {d e : Nat} (h3 : s.trucks.length ≤ 3) (h : e < d + 5) : (s.slots d e).length ≤ 15 := by
  rw [slots_eq]
  have a1 := slots_len s d (e + 1 - d)
  have : (e + 1 - d) * s.trucks.length ≤ 5 * 3 := Nat.mul_le_mul (by omega) h3
  omega
theorem sc_best_plan : FnScope (["office", "what", "first", "last", "left", "ways", "plans", "day", "truck"] : List Str) ["office", "what", "first", "last", "left"] (defScope s_best_plan) := ⟨rfl, rfl, rfl, by decide +kernel, rfl, by decide +kernel, by decide +kernel⟩
theorem c_best_plan (T : Txt K mg) (C_Ways_init : Cal PP w K mg base 1 (He.ma K (He.ga K "Ways") "__init__") ["self", "office"] (sp_Ways_init K)) (C_free_slots : Cal PP w K mg base 3 (He.ga K "free_slots") ["office", "first", "last"] (sp_free_slots K)) (C_with_slot : Cal PP w K mg base 2 (He.ga K "with_slot") ["plans", "what", "day", "truck", "loads"] (sp_with_slot K)) (C_loads_of : Cal PP w K mg base 7 (He.ga K "loads_of") ["ways", "day", "truck", "left"] (sp_loads_of K)) : Cal PP w K mg base 8 (He.ga K "best_plan") ["office", "what", "first", "last", "left"] (sp_best_plan K) := by
  refine Cal.of T.f_best_plan sc_best_plan (fun vs H Q E h => ?_) (fun _ _ _ _ _ _ us hl => match us, hl with | [_, _, _, _, _], _ => rfl) (fun cdv A outer s H vs Q E hr h => ?_)
  · obtain ⟨A, s, w', d, e, ll, ls, rfl, O, wf, hd, he, hde, h8, hall, hl, k⟩ := h
    rfl
  · obtain ⟨A, s, w', d, e, ll, ls, rfl, O, wf, hd, he, hde, h8, hall, hl, k⟩ := h
    refine ⟨_, (pss_cons (ps_set (i := 5) sc_best_plan.nd rfl (Or.inl rfl) (pe_cmake T.k_Ways C_Ways_init (hr.mono (by decide)) (by rfl) T.g_Ways (pa_cons (pv 0) pa_nil)))
      (pss_cons (ps_set (i := 6) sc_best_plan.nd rfl (Or.inl rfl) (pe_op op_rep (pe_lst (pa_cons pe_non pa_nil)) (pe_op op_shl pe_int (pe_callB cr_len (by rfl) T.n_len (by decide +kernel) (pa_cons (pv 4) pa_nil)))))
      (pss_cons (ps_asg (pe_tup (pa_cons pe_int (pa_cons pe_int (pa_cons (pe_lst pa_nil) pa_nil)))) (pg_sub (pv 6) pe_int set_list))
      (pss_cons (ps_for PassesOwn.never rfl (pi_reversed (by rfl) T.n_reversed (pa_cons (pe_cal C_free_slots (hr.mono (by decide)) (by rfl) T.g_free_slots (pa_cons (pv 0) (pa_cons (pv 2) (pa_cons (pv 3) pa_nil)))) pa_nil)) (pg_tup rfl (pgs_cons (pg_name (i := 7) sc_best_plan.nd rfl (Or.inl rfl)) (pgs_cons (pg_name (i := 8) sc_best_plan.nd rfl (Or.inl rfl)) pgs_nil)))
      (pss_one (ps_set (i := 6) sc_best_plan.nd rfl (Or.inl rfl) (pe_cal C_with_slot (hr.mono (by decide)) (by rfl) T.g_with_slot (pa_cons (pv 6) (pa_cons (pv 1) (pa_cons (pv 7) (pa_cons (pv 8) (pa_cons (pe_cal C_loads_of (hr.mono (by decide)) (by rfl) T.g_loads_of (pa_cons (pv 5) (pa_cons (pv 7) (pa_cons (pv 8) (pa_cons (pv 4) pa_nil))))) pa_nil)))))))))
      (pss_one (ps_ret (pe_ix ix_list (pv 6) (pe_op op_sub (pe_callB cr_len (by rfl) T.n_len (by decide +kernel) (pa_cons (pv 6) pa_nil)) pe_int) (fun _ _ => rfl)))))))), ?_⟩
    have p256 : 2 ^ ls.length ≤ 256 := Nat.le_trans (Nat.pow_le_pow_right (by decide) h8) (by decide)
    have p0 := Nat.two_pow_pos ls.length
    refine q_asgK (ways_made O wf (Evl.ev_var rfl) fun W H1 e1 wa => ?_)
    -- plans = [None] * (1 << len(left))
    refine ⟨by show 1 ≤ sizeLine; decide, fun pz nz => ?_⟩
    have x0 := ex_upd (o := .lst [V.non]) nz
    have en : Ev (tOp (rI CPow fun i j => V.int (i * 2 ^ j.toNat)) (tC (V.int 1)) (tCB (rLen K) (tCons (tVar 4) tNil))) [some (.ref A.a), some (.int (w' : Int)), some (.int (d : Int)), some (.int (e : Int)), some (.ref ll), some (.ref W.w), none, none, none] (upd H1 pz (.lst [V.non])) (.int ((2 ^ ls.length : Nat) : Int)) := by
      refine Evl.ev_is (Evl.ev_op Evl.ev_c (ev_lenL (Evl.ev_var rfl) (SqL.of (x0 _ _ (e1 _ _ hl)))) (Evl.rv_I ?_)) ?_
      · rw [nv_len]
        refine ⟨?_, ?_, ?_⟩ <;> omega
      · rw [nv_len]
        show V.int (1 * 2 ^ ((ls.length : Nat) : Int).toNat) = _
        rw [Int.one_mul, Int.toNat_natCast, Int.natCast_pow]
        rfl
    refine en _ (Ex.refl _) _ fun H2 e2 => ?_
    refine ⟨pz, ((2 ^ ls.length : Nat) : Int), _, rfl, rfl, e2 _ _ upd_same, by omega, by omega, by show 1 * _ ≤ sizeLine; rw [sizeLine_eq]; omega, fun p np => ?_⟩
    have eH : Ex H1 H2 := x0.trans e2
    have npH : H1 p = none := Evl.fresh_back eH np
    rw [show (((2 ^ ls.length : Nat) : Int)).toNat = 2 ^ ls.length from rfl, rep_none]
    generalize hN : 2 ^ ls.length = N at *
    -- plans[0] = (0, 0, [])
    refine ⟨Nat.zero_le _, fun q nq => ⟨by show 3 ≤ sizeLine; decide, fun r nr => ?_⟩⟩
    generalize hG : upd (upd (upd H2 p (.lst (List.replicate N V.non))) q (.lst [])) r (.tup [.int 0, .int 0, .ref q]) = H3
    have npq : p ≠ q := fun z => by rw [z, upd_same] at nq; cases nq
    have npr : p ≠ r := fun z => by
      rw [← z, upd_ne npq, upd_same] at nr
      cases nr
    have nqr : q ≠ r := fun z => by
      rw [← z, upd_same] at nr
      cases nr
    have hp2 : H3 p = some (.lst (List.replicate N V.non)) := by rw [← hG, upd_ne npr, upd_ne npq, upd_same]
    have hq2 : H3 q = some (.lst (nv [])) := by rw [← hG, upd_ne nqr, upd_same]; rfl
    have hr2 : H3 r = some (.tup [.int ((0 : Nat) : Int), .int ((0 : Nat) : Int), .ref q]) := by rw [← hG, upd_same]; rfl
    have e3 : Ex H1 H3 := by
      rw [← hG]
      exact ((eH.trans (ex_upd np)).trans (ex_upd nq)).trans (ex_upd nr)
    refine ⟨_, rfl, p, _, (0 : Int), 0, rfl, rfl, hp2, Evl.ixN_nat (by rw [List.length_replicate]; exact p0), ?_⟩
    have R0 : AllV (DrvAt (upd H3 p (.lst ((List.replicate N V.non).set 0 (.ref r))))) ((List.replicate N V.non).set 0 (.ref r)) (init0 N 0) := by
      rw [← init0_set p0]
      refine AllV.set ⟨by simp, fun i o hi => ?_⟩ ⟨r, q, 0, 0, [], rfl, rfl, by rw [upd_ne (Ne.symm npr)]; exact hr2, by rw [upd_ne (Ne.symm npq)]; exact hq2⟩
      rw [List.getElem?_replicate] at hi ⊢
      split at hi
      · cases hi
        exact ⟨.non, by rw [if_pos (by assumption)], rfl⟩
      · cases hi
    have eX : Ex H1 (upd H3 p (.lst ((List.replicate N V.non).set 0 (.ref r)))) := e3.mut npH
    have hpX : upd H3 p (.lst ((List.replicate N V.non).set 0 (.ref r))) p = some (.lst ((List.replicate N V.non).set 0 (.ref r))) := upd_same
    generalize upd H3 p (.lst ((List.replicate N V.non).set 0 (.ref r))) = H4 at R0 eX hpX
    generalize (List.replicate N V.non).set 0 (.ref r) = ps0 at R0 hpX
    have wa4 := wa.ex eX
    dsimp only
    refine q_forK ?_
    have ef : EvA (tCons (tVar 0) (tCons (tVar 2) (tCons (tVar 3) tNil))) [some (.ref A.a), some (.int (w' : Int)), some (.int (d : Int)), some (.int (e : Int)), some (.ref ll), some (.ref W.w), some (.ref p), none, none] H4 [.ref A.a, .int (d : Int), .int (e : Int)] := Evl.ea_cons (Evl.ev_var rfl) (ea_two (Evl.ev_var rfl) (Evl.ev_var rfl))
    refine k_cons (k_call ef fun H5 e5 => ?_)
    refine ⟨A, s, d, e, rfl, wa4.off.ex e5, wf, hd, he, hde, fun pl H6 sv npl e6 h6 hS => k_nil ⟨pl, sv, rfl, SqL.of h6, ?_⟩⟩
    have e46 := e5.trans e6
    have x6 : ExD H H6 := exD_of ((e1.trans eX).trans e46)
    have sl := slots_le (s := s) (d := d) wf.t3 hde
    have svl := hS.1
    have tab0 : init0 N 0 = (s.plans w' ls []).toList := by rw [plans_nil, hN]; rfl
    refine loop_it walk_rev (fun i σ H' => (∃ pp v7 v8, σ = [some (.ref A.a), some (.int (w' : Int)), some (.int (d : Int)), some (.int (e : Int)), some (.ref ll), some (.ref W.w), some (.ref pp), v7, v8] ∧ ∃ xs, H' pp = some (.lst xs) ∧ AllV (DrvAt H') xs (s.plans w' ls ((s.slots d e).drop ((s.slots d e).length - i))).toList) ∧ ExD H6 H' ∧ WaysAt K H' W A s (2000 * i) ∧ Bnd (s.plans w' ls ((s.slots d e).drop ((s.slots d e).length - i))).toList (2 + 13 * i)) ?_ (fun i σ H' _ p => SqL.of (p.2.1 _ _ h6 rfl)) (fun i v σ H0 H' hi p yy => ?_) (fun σ H' p => ?_)
    · refine ⟨⟨p, none, none, rfl, ps0, e46 _ _ hpX, ?_⟩, ExD.refl _, wa4.ex e46, ?_⟩
      · rw [Nat.sub_zero, List.drop_length, ← tab0]
        exact R0.mono fun v o r => r.ex e46
      · rw [Nat.sub_zero, List.drop_length, ← tab0]
        exact init0_bnd
    · obtain ⟨⟨pp, v7, v8, rfl, xs, hpp, hx⟩, ex, wa', hB⟩ := p
      obtain ⟨rfl, hv⟩ := yy
      have hj : sv.length - 1 - i < (s.slots d e).length := by omega
      obtain ⟨v', hv', q1, rfl, hq1⟩ := hS.2 (sv.length - 1 - i) _ (List.getElem?_eq_getElem hj)
      have evv : v = .ref q1 := Option.some.inj (hv.symm.trans hv')
      subst evv
      have xm : (s.slots d e)[sv.length - 1 - i] ∈ s.slots d e := List.getElem_mem _
      have dr : (s.slots d e).drop ((s.slots d e).length - (i + 1)) = (s.slots d e)[sv.length - 1 - i] :: (s.slots d e).drop ((s.slots d e).length - i) := by
        have a1 : (s.slots d e).length - (i + 1) = sv.length - 1 - i := by omega
        have a2 : (s.slots d e).length - i = sv.length - 1 - i + 1 := by omega
        rw [a1, a2]
        exact List.drop_eq_getElem_cons hj
      obtain ⟨m1, m2, m3⟩ := slots_mem xm
      generalize (s.slots d e)[sv.length - 1 - i] = x at hq1 dr m1 m2 m3
      generalize hrest : (s.slots d e).drop ((s.slots d e).length - i) = rest at hx hB dr
      obtain ⟨dx, tx⟩ := x
      refine ⟨q1, _, rfl, SqT.of (ex _ _ hq1 rfl), rfl, _, _, rfl, _, _, rfl, rfl, ?_⟩
      have el : EvA (tCons (tVar 5) (tCons (tVar 7) (tCons (tVar 8) (tCons (tVar 4) tNil)))) [some (.ref A.a), some (.int (w' : Int)), some (.int (d : Int)), some (.int (e : Int)), some (.ref ll), some (.ref W.w), some (.ref pp), some (.int (dx : Nat)), some (.int (tx : Nat))] H' [.ref W.w, .int (dx : Nat), .int (tx : Nat), .ref ll] := Evl.ea_cons (Evl.ev_var rfl) (Evl.ea_cons (Evl.ev_var rfl) (ea_two (Evl.ev_var rfl) (Evl.ev_var rfl)))
      refine s_asgK (k_callK (k_cons (k_ev (Evl.ev_var rfl) fun H7 e7 => k_cons (k_ev (Evl.ev_var rfl) fun H8 e8 => k_cons (k_ev (Evl.ev_var rfl) fun H9 e9 => k_cons (k_ev (Evl.ev_var rfl) fun Ha ea => k_cons (k_call (el.mono (((e7.trans e8).trans e9).trans ea)) fun Hb eb => ?_)))))))
      have e7b := ((((e7.trans e8).trans e9).trans ea).trans eb)
      have hll : Hb ll = some (.lst (nv ls)) := e7b _ _ (ex _ _ (e46 _ _ (eX _ _ (e1 _ _ hl))) rfl)
      refine ⟨W, A, s, _, dx, tx, ll, ls, rfl, wa'.ex e7b, by omega, m3, h8, hall, hll, fun la Hc lv nla xc wac hlc hL => k_nil ?_⟩
      have xbc : ExD H' Hc := (exD_of e7b).trans xc
      refine ⟨pp, la, w', dx, tx, 2 + 13 * i, ls, s.options ls (dx, tx), (s.plans w' ls rest).toList, xs, lv, rfl, xbc _ _ hpp rfl, hx.mono fun v o r => r.mono xbc, hlc, hL, by rw [plans_len, hN]; omega, hB, by omega, by omega, ?_, fun pn Hd xn npn ed hpn hxn => ?_⟩
      · rw [options_eq]
        have := opts_len s ls (dx, tx) (2 ^ ls.length - 1)
        omega
      · have tabE : betAll (optPlan w' (dx, tx) ls (s.plans w' ls rest).toList) (s.plans w' ls rest).toList (s.options ls (dx, tx)) = (s.plans w' ls ((dx, tx) :: rest)).toList := (plans_cons s w' ls (dx, tx) rest rfl (plans_len _ _ _ _)).symm
        refine ⟨⟨pn, _, _, rfl, xn, hpn, ?_⟩, (ex.trans xbc).ex ed, (wac.ex ed).le (by omega), ?_⟩
        · rw [dr, ← tabE]; exact hxn
        · rw [dr, ← tabE]
          exact (betAll_bnd hB h8).mono (by omega)
    · obtain ⟨⟨pp, v7, v8, rfl, xs, hpp, hx⟩, ex, wa', hB⟩ := p
      rw [svl, Nat.sub_self, List.drop_zero] at hx hB
      have hxl : xs.length = N := by rw [hx.1, plans_len, hN]
      have en : Ev (tOp (rI0 fun i j => V.int (i - j)) (tCB (rLen K) (tCons (tVar 6) tNil)) (tC (.int 1))) [some (.ref A.a), some (.int (w' : Int)), some (.int (d : Int)), some (.int (e : Int)), some (.ref ll), some (.ref W.w), some (.ref pp), v7, v8] H' (.int ((N - 1 : Nat) : Int)) := Evl.ev_is (Evl.ev_op (ev_lenL (Evl.ev_var rfl) (SqL.of hpp)) Evl.ev_c Evl.rv_I0) (congrArg V.int (by omega))
      have lt : N - 1 < (s.plans w' ls (s.slots d e)).toList.length := by rw [plans_len, hN]; omega
      obtain ⟨v, hv, dv⟩ := hx.2 (N - 1) _ (at_get lt)
      refine Evl.s_ret (Evl.ev_op (Evl.ev_var rfl) en (Evl.rv_ixL (SqL.of hpp) (atI_nat hv))) fun H7 e7 => k v H7 ((x6.trans ex).ex e7) (dv.ex e7) fun r hr => Nat.le_trans (hB.at hr) (by omega)
end
end Th
namespace Th
open PySem PySem.Spec PyProof.Rows L2
open TimHaul (Road Limit Truck Lot Trip Office before)
open Evl (Ex Ev EvL EvT EvA)
section
variable {PP : Program} {w : World} {K : PySem.W.Frag} {mg : Str → Option Value} {base : Heap}
theorem plan_eq (s : Office) (w d e : Nat) : s.plan w d e = at' (s.plans w s.left (s.slots d e)).toList (2 ^ s.left.length - 1) := by
  unfold TimHaul.Office.plan
  show _ = (s.plans w s.left (s.slots d e)).toList.getD _ none
  simp [Array.getD_eq_getD_getElem?, List.getD_eq_getElem?_getD]
def sp_tell_plan (K : PySem.W.Frag) : Sp := fun vs H Q _ => ∃ (G : Hp) (A : OA) (s : Office) (rn : Addr) (w d e : Nat), vs = [.ref A.a, .ref rn] ∧ OffM K G H A s ∧ H rn = some (.lst (nv [w, d, e])) ∧ WrtihaSpec.right (.plan w d e) = true ∧ Done K (.plan w d e) G H A s Q
theorem sc_tell_plan : FnScope (["office", "numbers", "what", "first", "last", "left", "plan"] : List Str) ["office", "numbers"] (defScope s_tell_plan) := ⟨rfl, rfl, rfl, by decide +kernel, rfl, by decide +kernel, by decide +kernel⟩
theorem c_tell_plan (T : Txt K mg) (C_Office_lots_left : Cal PP w K mg base 2 (He.ma K (He.ga K "Office") "lots_left") ["self"] (sp_Office_lots_left K)) (C_best_plan : Cal PP w K mg base 8 (He.ga K "best_plan") ["office", "what", "first", "last", "left"] (sp_best_plan K)) : Cal PP w K mg base 9 (He.ga K "tell_plan") ["office", "numbers"] (sp_tell_plan K) := by
  refine Cal.of T.f_tell_plan sc_tell_plan (fun vs H Q E h => ?_) (fun _ _ _ _ _ _ us hl => match us, hl with | [_, _], _ => rfl) (fun cdv A outer s H vs Q E hr h => ?_)
  · obtain ⟨G, A, s, rn, w', d, e, rfl, O, hn, hg, k⟩ := h
    rfl
  · obtain ⟨G, A, s, rn, w', d, e, rfl, O, hn, hg, k⟩ := h
    refine ⟨_, (pss_cons (ps_asg (pv 1) (pg_unl rfl (pgs_cons (pg_name (i := 2) sc_tell_plan.nd rfl (Or.inl rfl)) (pgs_cons (pg_name (i := 3) sc_tell_plan.nd rfl (Or.inl rfl)) (pgs_cons (pg_name (i := 4) sc_tell_plan.nd rfl (Or.inl rfl)) pgs_nil)))))
      (pss_cons (ps_set (i := 5) sc_tell_plan.nd rfl (Or.inl rfl) (pe_cmeth0 (pv 0) T.c_Office T.m_Office_lots_left C_Office_lots_left (hr.mono (by decide))))
      (pss_cons (ps_if (pt_cmpR op_gt (pe_callB cr_len (by rfl) T.n_len (by decide +kernel) (pa_cons (pv 5) pa_nil)) (pe_gint T.i_MOST_PLANNED (by rfl)) (nomark _)) (pss_one (ps_ret (pe_lst (pa_cons (pe_gint T.i_CANNOT_BE (by rfl)) pa_nil)))) pss_nil)
      (pss_cons (ps_set (i := 6) sc_tell_plan.nd rfl (Or.inl rfl) (pe_cal C_best_plan (hr.mono (by decide)) (by rfl) T.g_best_plan (pa_cons (pv 0) (pa_cons (pv 2) (pa_cons (pv 3) (pa_cons (pv 4) (pa_cons (pv 5) pa_nil)))))))
      (pss_cons (ps_if (pt_cmpR op_isN (pv 6) pe_non (nomark _)) (pss_one (ps_ret (pe_lst (pa_cons (pe_gint T.i_CANNOT_BE (by rfl)) pa_nil)))) pss_nil)
      (pss_one (ps_ret (pe_op op_cat (pe_lst (pa_cons pe_int (pa_cons (pe_ix ix_tup (pv 6) pe_int (fun _ _ => rfl)) (pa_cons (pe_ix ix_tup (pv 6) pe_int (fun _ _ => rfl)) pa_nil)))) (pe_ix ix_tup (pv 6) pe_int (fun _ _ => rfl)))))))))), ?_⟩
    obtain ⟨d1, d2, d3, d4⟩ := span_of (Bool.and_eq_true_iff.mp hg).2
    refine ⟨_, rfl, rn, _, rfl, SqL.of hn, rfl, _, _, rfl, _, _, rfl, _, _, rfl, rfl, ?_⟩
    refine Evl.q_asgL (el_left O.offR O.wf (Evl.ev_var rfl)) fun pl H1 np e1 h1 => ?_
    have O1 := O.query (exD_of e1)
    refine Evl.q_when (b := decide (8 < s.left.length)) (Evl.et_is (Evl.et_test (Evl.ev_op (ev_lenL (Evl.ev_var rfl) (SqL.of h1)) Evl.ev_c Evl.rv_I0)) (decide_eq_decide.mpr (by rw [nv_len]; omega))) (fun hc H2 e2 => ?_) (fun hc H2 e2 => ?_)
    · refine s_no rfl (exD_of (e1.trans e2)) k O ?_
      show (s, if TimHaul.SMALL < s.left.length then _ else _) = _
      rw [if_pos (show TimHaul.SMALL < s.left.length from of_decide_eq_true hc)]
    have h8 : ¬ 8 < s.left.length := of_decide_eq_false hc
    have ea : EvA (tCons (tVar 0) (tCons (tVar 2) (tCons (tVar 3) (tCons (tVar 4) (tCons (tVar 5) tNil))))) [some (.ref A.a), some (.ref rn), some (.int (w' : Int)), some (.int (d : Int)), some (.int (e : Int)), some (.ref pl), none] H2 [.ref A.a, .int (w' : Int), .int (d : Int), .int (e : Int), .ref pl] := Evl.ea_cons (Evl.ev_var rfl) (Evl.ea_cons (Evl.ev_var rfl) (Evl.ea_cons (Evl.ev_var rfl) (ea_two (Evl.ev_var rfl) (Evl.ev_var rfl))))
    refine q_asgK (k_call ea fun H3 e3 => ?_)
    have e13 := (e1.trans e2).trans e3
    refine ⟨A, s, w', d, e, pl, s.left, rfl, O.offR.ex e13, O.wf, d1, d2, d4, by omega, fun i m => left_lt m, (e2.trans e3) _ _ h1, fun v H4 x4 dv hlen => ?_⟩
    rw [← plan_eq] at dv hlen
    have X4 : ExD H H4 := (exD_of e13).trans x4
    have hs : ∀ x, (match s.plan w' d e with
        | none => WrtihaSpec.no (-4)
        | some p => WrtihaSpec.tells p) = x → WrtihaSpec.does s (.plan w' d e) = (s, x) := fun x hx => by
      show (s, if TimHaul.SMALL < s.left.length then _ else _) = _
      rw [if_neg (show ¬ TimHaul.SMALL < s.left.length from h8)]
      exact congrArg (Prod.mk s) hx
    refine Evl.q_when (b := decide (v = .non)) (Evl.et_test (Evl.ev_op (Evl.ev_var rfl) Evl.ev_c (Evl.rv_val fun H1 _ Q q => ⟨rfl, q⟩))) (fun hv H5 e5 => ?_) (fun hv H5 e5 => ?_)
    · refine s_no rfl (X4.ex e5) k O (hs _ ?_)
      cases q : s.plan w' d e with
      | none => rfl
      | some r =>
        rw [q] at dv
        obtain ⟨p, l, x, y, r', _, h3, _⟩ := dv
        rw [h3] at hv
        cases hv
    · cases q : s.plan w' d e with
      | none =>
        rw [q] at dv
        have z : v = .non := dv
        rw [z] at hv
        cases hv
      | some r =>
        have hl := hlen r q
        rw [q] at dv
        obtain ⟨p, l, x, y, r', rfl, rfl, h3, h4⟩ := dv
        have g3 := e5 _ _ h3
        have g4 := e5 _ _ h4
        refine s_tells (Q := Q) (l := x :: y :: r') rfl (X4.ex e5) k O (hs _ (by rw [q])) ?_
        exact el_catR (xs := [.int 0, .int (x : Int), .int (y : Int)]) (Evl.el_lst (Evl.ea_cons Evl.ev_c (ea_two (Evl.ev_op (Evl.ev_var rfl) Evl.ev_c (Evl.rv_ixT (SqT.of g3) rfl)) (Evl.ev_op (Evl.ev_var rfl) Evl.ev_c (Evl.rv_ixT (SqT.of g3) rfl)))) (by show 3 ≤ 100000; decide)) (Evl.ev_op (Evl.ev_var rfl) Evl.ev_c (Evl.rv_ixT (SqT.of g3) rfl)) g4 (by rw [List.length_map]; have : r'.length + 2 ≤ 1000 := hl; show 3 + _ ≤ _; omega)
end
end Th
namespace Th
open PySem PySem.Spec PyProof.Rows L2
open TimHaul (Road Limit Truck Lot Trip Office before)
open Evl (Ex Ev EvL EvT EvA)
section
variable {PP : Program} {w : World} {K : PySem.W.Frag} {mg : Str → Option Value} {base : Heap}
def stuckAt (s : Office) (i : Nat) (x : Nat × Nat) : Bool := s.against (s.truck x.2) x.1 [i] != 0
def sp_is_stuck (K : PySem.W.Frag) : Sp := fun vs H Q _ => ∃ (W : WA) (A : OA) (s : Office) (c i : Nat) (sa : Addr) (sv : List V) (sl : List (Nat × Nat)), vs = [.ref W.w, .int (i : Int), .ref sa] ∧ WaysAt K H W A s c ∧ c < 500000 ∧ i < s.lots.length ∧ H sa = some (.lst sv) ∧ AllV (PairAt H) sv sl ∧ (∀ x ∈ sl, x.2 < s.trucks.length) ∧ sl.length ≤ 20 ∧
  ∀ H', ExD H H' → WaysAt K H' W A s (c + 200) → Q (.bl (sl.all (stuckAt s i))) H'
theorem sc_is_stuck : FnScope (["ways", "lot", "slots", "day", "truck", "against", "metres", "roads"] : List Str) ["ways", "lot", "slots"] (defScope s_is_stuck) := ⟨rfl, rfl, rfl, by decide +kernel, rfl, by decide +kernel, by decide +kernel⟩
theorem c_is_stuck (T : Txt K mg) (C_look_at_load : Cal PP w K mg base 6 (He.ga K "look_at_load") ["ways", "truck", "day", "lots"] (sp_look_at_load K)) : Cal PP w K mg base 7 (He.ga K "is_stuck") ["ways", "lot", "slots"] (sp_is_stuck K) := by
  refine Cal.of T.f_is_stuck sc_is_stuck (fun vs H Q E h => ?_) (fun _ _ _ _ _ _ us hl => match us, hl with | [_, _, _], _ => rfl) (fun cdv A outer s H vs Q E hr h => ?_)
  · obtain ⟨W, A, s, c, i, sa, sv, sl, rfl, wa, hc, hi, hsa, hS, ht, h20, k⟩ := h
    rfl
  · obtain ⟨W, A, s, c, i, sa, sv, sl, rfl, wa, hc, hi, hsa, hS, ht, h20, k⟩ := h
    refine ⟨_, (pss_cons (ps_for PassesOwn.never rfl (pi_list (pv 2)) (pg_tup rfl (pgs_cons (pg_name (i := 3) sc_is_stuck.nd rfl (Or.inl rfl)) (pgs_cons (pg_name (i := 4) sc_is_stuck.nd rfl (Or.inl rfl)) pgs_nil)))
      (pss_cons (ps_asg (pe_cal C_look_at_load (hr.mono (by decide)) (by rfl) T.g_look_at_load (pa_cons (pv 0) (pa_cons (pv 4) (pa_cons (pv 3) (pa_cons (pe_lst (pa_cons (pv 1) pa_nil)) pa_nil))))) (pg_tup rfl (pgs_cons (pg_name (i := 5) sc_is_stuck.nd rfl (Or.inl rfl)) (pgs_cons (pg_name (i := 6) sc_is_stuck.nd rfl (Or.inl rfl)) (pgs_cons (pg_name (i := 7) sc_is_stuck.nd rfl (Or.inl rfl)) pgs_nil)))))
      (pss_one (ps_if (pt_cmpR op_eq (pv 5) pe_int (nomark _)) (pss_one (ps_ret pe_bl)) pss_nil))))
      (pss_one (ps_ret pe_bl))), ?_⟩
    refine q_forK ⟨_, rfl, sa, rfl, ⟨_, SqL.of hsa⟩, ?_⟩
    refine loop_it (walk_list (K := K) (a := sa) (xs := sv)) (fun j σ H' => (∃ v3 v4 v5 v6 v7, σ = [some (.ref W.w), some (.int (i : Int)), some (.ref sa), v3, v4, v5, v6, v7]) ∧ ExD H H' ∧ WaysAt K H' W A s (c + 6 * j) ∧ (sl.take j).all (stuckAt s i) = true) ?_ (fun j σ H' _ p => SqL.of (p.2.1 _ _ hsa rfl)) (fun j v σ H0 H' hj p yy => ?_) (fun σ H' p => ?_)
    · exact ⟨⟨none, none, none, none, none, rfl⟩, ExD.refl _, wa, rfl⟩
    · obtain ⟨⟨v3, v4, v5, v6, v7, rfl⟩, ex, wa', hall⟩ := p
      obtain ⟨rfl, hv⟩ := yy
      have hj' : j < sl.length := by rw [← hS.1]; exact hj
      obtain ⟨v', hv', q1, rfl, hq1⟩ := hS.2 j _ (List.getElem?_eq_getElem hj')
      have evv : v = .ref q1 := Option.some.inj (hv.symm.trans hv')
      subst evv
      have etk : sl.take (j + 1) = sl.take j ++ [sl[j]] := take_snoc (List.getElem?_eq_getElem hj')
      have hx := ht _ (List.getElem_mem hj')
      have split := split_at' (List.getElem?_eq_getElem hj')
      generalize sl[j] = x at hq1 etk hx split
      obtain ⟨dx, tx⟩ := x
      refine ⟨q1, _, rfl, SqT.of (ex _ _ hq1 rfl), rfl, _, _, rfl, _, _, rfl, rfl, ?_⟩
      refine q_asgG (k_callK (k_cons (k_ev (Evl.ev_var rfl) fun H1 e1 => k_cons (k_ev (Evl.ev_var rfl) fun H2 e2 => k_cons (k_ev (Evl.ev_var rfl) fun H3 e3 => k_cons (k_evL (Evl.el_lst (ea_one (Evl.ev_var rfl)) (by show 1 ≤ 100000; decide)) fun pl H4 np e4 h4 => k_nil ?_))))))
      have e14 := ((e1.trans e2).trans e3).trans e4
      have lok : LotsOk s [i] := ⟨(by intro z; cases z), (by show 1 ≤ 24; decide), fun a m => by rw [List.mem_singleton.mp m]; exact hi⟩
      refine ⟨W, A, s, _, tx, dx, pl, [i], rfl, wa'.ex e14, by omega, hx, lok, h4, fun p l H5 nl x5 wa5 hp5 hl5 => ?_⟩
      refine ⟨p, _, rfl, SqT.of hp5, rfl, _, _, rfl, _, _, rfl, _, _, rfl, rfl, ?_⟩
      have X5 : ExD H H5 := (ex.ex e14).trans x5
      refine Evl.s_when (b := decide (s.against (s.truck tx) dx [i] = 0)) (Evl.et_is (Evl.et_test (ev_eqI (Evl.ev_var rfl) Evl.ev_c)) (decide_eq_decide.mpr (by omega))) (fun hz H6 e6 => ?_) (fun hz H6 e6 => ?_)
      · refine Evl.s_ret Evl.ev_c fun H7 e7 => ?_
        have z := k H7 (X5.ex (e6.trans e7)) ((wa5.ex (e6.trans e7)).le (by omega))
        have f : sl.all (stuckAt s i) = false := by
          rw [split, List.all_append, List.all_cons]
          have : stuckAt s i (dx, tx) = false := by
            unfold stuckAt
            rw [of_decide_eq_true hz]
            rfl
          rw [this]
          simp
        rw [f] at z
        exact z
      · refine ⟨⟨_, _, _, _, _, rfl⟩, X5.ex e6, (wa5.ex e6).le (by omega), ?_⟩
        rw [etk, List.all_append, hall]
        have : stuckAt s i (dx, tx) = true := by
          unfold stuckAt
          exact bne_iff_ne.mpr (of_decide_eq_false hz)
        simp [this]
    · obtain ⟨⟨v3, v4, v5, v6, v7, rfl⟩, ex, wa', hall⟩ := p
      rw [hS.1, List.take_length] at hall
      refine Evl.s_ret Evl.ev_c fun H7 e7 => ?_
      have z := k H7 (ex.ex e7) ((wa'.ex e7).le (by rw [hS.1]; omega))
      rw [hall] at z
      exact z
end
end Th
namespace Th
open PySem PySem.Spec PyProof.Rows L2
open TimHaul (Road Limit Truck Lot Trip Office before)
open Evl (Ex Ev EvL EvT EvA)
section
variable {PP : Program} {w : World} {K : PySem.W.Frag} {mg : Str → Option Value} {base : Heap}
def sp_tell_stuck (K : PySem.W.Frag) : Sp := fun vs H Q _ => ∃ (G : Hp) (A : OA) (s : Office) (rn : Addr) (d e : Nat), vs = [.ref A.a, .ref rn] ∧ OffM K G H A s ∧ H rn = some (.lst (nv [d, e])) ∧ WrtihaSpec.right (.stuck d e) = true ∧ Done K (.stuck d e) G H A s Q
theorem k_lcNL {K : PySem.W.Frag} {σ : L2.St} {H : Hp} {Q : VK} {tl te : TE} {g : TG} {t : TT} {vs : List Nat} {xs : List V} (h : EvL tl σ H xs) (k : ∀ a H1, H a = none → Ex H H1 → H1 a = some (.lst xs) → ∀ D, H1 D = none → ∃ Pv : Nat → Hp → Prop, Pv 0 (upd H1 D (.lst [])) ∧ (∀ i H, i ≤ xs.length → Pv i H → SqL K H a xs) ∧
    (∀ i x H, xs[i]? = some x → Pv i H → g x (wipe σ vs) H fun σ2 H2 => wipe σ2 vs = wipe σ vs ∧ t σ2 H2 fun b H3 => if b = true then te σ2 H3 fun y H4 => ∃ acc, H4 D = some (.lst acc) ∧ acc.length < sizeLine ∧ Pv (i + 1) (upd H4 D (.lst (acc ++ [y]))) else Pv (i + 1) H3) ∧ (∀ H, Pv xs.length H → Q (.ref D) H)) : tLc (iList K tl) g t te vs σ H Q :=
  h H (Ex.refl H) _ fun a H1 na e1 h1 => ⟨a, rfl, ⟨_, SqL.of h1⟩, fun D nD => by
    obtain ⟨Pv, p0, p1, p2, p3⟩ := k a H1 na e1 h1 D nD
    exact lc_it (Qd := fun H => Q (.ref D) H) (walk_list (K := K) (a := a) (xs := xs)) Pv p0 p1 (fun i x H H' hi p y => by
      obtain ⟨rfl, hx⟩ := y
      exact p2 i x _ hx p) p3⟩
theorem sc_tell_stuck : FnScope (["office", "numbers", "first", "last", "ways", "slots", "lot"] : List Str) ["office", "numbers"] (defScope s_tell_stuck) := ⟨rfl, rfl, rfl, by decide +kernel, rfl, by decide +kernel, by decide +kernel⟩
theorem c_tell_stuck (T : Txt K mg) (C_Ways_init : Cal PP w K mg base 1 (He.ma K (He.ga K "Ways") "__init__") ["self", "office"] (sp_Ways_init K)) (C_free_slots : Cal PP w K mg base 3 (He.ga K "free_slots") ["office", "first", "last"] (sp_free_slots K)) (C_is_stuck : Cal PP w K mg base 7 (He.ga K "is_stuck") ["ways", "lot", "slots"] (sp_is_stuck K)) (C_Office_lots_left : Cal PP w K mg base 2 (He.ma K (He.ga K "Office") "lots_left") ["self"] (sp_Office_lots_left K)) : Cal PP w K mg base 8 (He.ga K "tell_stuck") ["office", "numbers"] (sp_tell_stuck K) := by
  refine Cal.of T.f_tell_stuck sc_tell_stuck (fun vs H Q E h => ?_) (fun _ _ _ _ _ _ us hl => match us, hl with | [_, _], _ => rfl) (fun cdv A outer s H vs Q E hr h => ?_)
  · obtain ⟨G, A, s, rn, d, e, rfl, O, hn, hg, k⟩ := h
    rfl
  · obtain ⟨G, A, s, rn, d, e, rfl, O, hn, hg, k⟩ := h
    refine ⟨_, (pss_cons (ps_asg (pv 1) (pg_unl rfl (pgs_cons (pg_name (i := 2) sc_tell_stuck.nd rfl (Or.inl rfl)) (pgs_cons (pg_name (i := 3) sc_tell_stuck.nd rfl (Or.inl rfl)) pgs_nil))))
      (pss_cons (ps_set (i := 4) sc_tell_stuck.nd rfl (Or.inr rfl) (pe_cmake T.k_Ways C_Ways_init (hr.mono (by decide)) (by rfl) T.g_Ways (pa_cons (pv 0) pa_nil)))
      (pss_cons (ps_set (i := 5) sc_tell_stuck.nd rfl (Or.inr rfl) (pe_cal C_free_slots (hr.mono (by decide)) (by rfl) T.g_free_slots (pa_cons (pv 0) (pa_cons (pv 2) (pa_cons (pv 3) pa_nil)))))
      (pss_one (ps_ret (pe_op op_cat (pe_lst (pa_cons pe_int pa_nil)) (pe_lc (own := [("lot", 6)]) (g := (gName 6)) (tt := (tB (tCall (frm (sp_is_stuck K)) [] E0 (tCons (tVar 4) (tCons (tVar 6) (tCons (tVar 5) tNil)))))) (te := (tVar 6)) rfl sc_tell_stuck.nd (pi_list (pe_cmeth0 (pv 0) T.c_Office T.m_Office_lots_left C_Office_lots_left (hr.mono (by decide)))) (blkOk_by (own := [("lot", 6)]) (N := (["office", "numbers", "first", "last", "ways", "slots", "lot"] : List Str)) (sc := defScope s_tell_stuck) (by decide +kernel)) (fun _ _ _ _ _ => (pg_name (i := 6) sc_tell_stuck.nd rfl (Or.inl rfl))) (fun _ _ _ _ _ => pts_one (pt_val (pe_cal C_is_stuck.frame (hr.mono (by decide)) (by rfl) T.g_is_stuck (pa_cons (pv 4) (pa_cons (pv 6) (pa_cons (pv 5) pa_nil)))))) (fun _ _ _ _ _ => (pv 6))))))))), ?_⟩
    obtain ⟨d1, d2, d3, d4⟩ := span_of hg
    refine ⟨_, rfl, rn, _, rfl, SqL.of hn, rfl, _, _, rfl, _, _, rfl, rfl, ?_⟩
    refine q_asgK (ways_made O.offR O.wf (Evl.ev_var rfl) fun W H1 e1 wa => ?_)
    have ef : EvA (tCons (tVar 0) (tCons (tVar 2) (tCons (tVar 3) tNil))) [some (.ref A.a), some (.ref rn), some (.int (d : Int)), some (.int (e : Int)), some (.ref W.w), none, none] H1 [.ref A.a, .int (d : Int), .int (e : Int)] := Evl.ea_cons (Evl.ev_var rfl) (ea_two (Evl.ev_var rfl) (Evl.ev_var rfl))
    refine q_asgK (k_call ef fun H2 e2 => ?_)
    refine ⟨A, s, d, e, rfl, wa.off.ex e2, O.wf, d1, d2, d4, fun ps H3 sv nps e3 h3 hS => ?_⟩
    have e13 := (e1.trans e2).trans e3
    have wa3 := wa.ex (e2.trans e3)
    have sl := slots_le (s := s) (d := d) O.wf.t3 d4
    have hs : WrtihaSpec.does s (.stuck d e) = (s, WrtihaSpec.tells (s.stuck d e)) := rfl
    have ll := left_len s
    have l24 := O.wf.lo24
    refine s_retG (Q := Q) rfl (k_op (k_evL (Evl.el_lst (ea_one Evl.ev_c) (by show 1 ≤ 100000; decide)) fun p0 H4 np0 e4 h4 => ?_))
    have wa4 := wa3.ex e4
    refine k_lcNL (K := K) (el_left wa4.off O.wf (Evl.ev_var rfl)) fun pl H5 npl e5 h5 D nD => ?_
    have e15 := (e13.trans e4).trans e5
    have wa5 := wa4.ex e5
    have h35 := (e4.trans e5) _ _ h3
    have h45 := e5 _ _ h4
    have hS5 : AllV (PairAt H5) sv (s.slots d e) := hS.mono fun v o r => r.ex (e4.trans e5)
    have nDH : H D = none := Evl.fresh_back e15 nD
    refine ⟨fun i H' => ExD H5 (del H' D) ∧ WaysAt K (del H' D) W A s (200 * i) ∧ H' D = some (.lst (nv ((s.left.take i).filter fun i => (s.slots d e).all (stuckAt s i)))), ?_, fun i H' _ p => SqL.of (del_some (p.1 _ _ h5 rfl)).1, fun i x H' hx p => ?_, fun H' p => ?_⟩
    · exact ⟨by rw [del_upd]; exact exD_of (ex_del nD (Ex.refl _)), by rw [del_upd]; exact wa5.ex (ex_del nD (Ex.refl _)), upd_same⟩
    · obtain ⟨ex, wa', hD⟩ := p
      obtain ⟨j, hj, rfl⟩ := nv_get hx
      have jm : j < s.lots.length := left_lt (List.mem_of_getElem? hj)
      have i24 : i < 24 := by
        have := (List.getElem?_eq_some_iff.mp hj).1
        omega
      have acl : ((s.left.take i).filter fun i => (s.slots d e).all (stuckAt s i)).length ≤ 24 := Nat.le_trans (List.length_filter_le _ _) (by rw [List.length_take]; omega)
      have etk : (s.left.take (i + 1)).filter (fun i => (s.slots d e).all (stuckAt s i)) = ((s.left.take i).filter fun i => (s.slots d e).all (stuckAt s i)) ++ (if (s.slots d e).all (stuckAt s j) = true then [j] else []) := by
        rw [take_snoc hj, List.filter_append]
        congr 1
        cases h : (s.slots d e).all (stuckAt s j) <;> simp [h]
      dsimp only
      rw [etk]
      refine ⟨rfl, k_callK (k_cons (k_ev (Evl.ev_var rfl) fun H6 e6 => k_cons (k_ev (Evl.ev_var rfl) fun H7 e7 => k_cons (k_ev (Evl.ev_var rfl) fun H8 e8 => k_nil ?_))))⟩
      have e68 := (e6.trans e7).trans e8
      have ex8 : ExD H5 (del H8 D) := ex.ex (del_mono e68)
      refine ⟨D, _, e68 _ _ hD, W, A, s, _, j, ps, sv, s.slots d e, rfl, wa'.ex (del_mono e68), by omega, jm, ex8 _ _ h35 rfl, hS5.mono fun v o r => r.mono ex8, fun x m => (slots_mem m).2.2, by omega, fun H9 x9 wa9 nD9 => ?_⟩
      refine ⟨_, rfl, ?_⟩
      have hd9 : ∀ o, del (upd H9 D o) D = H9 := fun o => del_upd_none nD9
      cases hb : (s.slots d e).all (stuckAt s j) with
      | true =>
        refine ite_t rfl ⟨_, rfl, _, upd_same, by rw [nv_len]; exact Evl.sz_lt (by omega), ?_⟩
        rw [upd_upd]
        refine ⟨by rw [hd9]; exact ex8.trans x9, by rw [hd9]; exact wa9.le (by omega), ?_⟩
        rw [upd_same, if_pos rfl]
        simp [nv]
      | false =>
        refine ite_f rfl ?_
        refine ⟨by rw [hd9]; exact ex8.trans x9, by rw [hd9]; exact wa9.le (by omega), ?_⟩
        rw [upd_same, if_neg (by decide), List.append_nil]
    · obtain ⟨ex, wa', hD⟩ := p
      rw [nv_len, List.take_length] at hD
      have hp0' := (del_some (ex _ _ h45 rfl)).1
      refine rcat hp0' hD (by rw [nv_len]; have := List.length_filter_le (fun i => (s.slots d e).all (stuckAt s i)) s.left; show 1 + _ ≤ _; omega) fun z nz => ?_
      have X : ExD H H' := (exD_of e15).trans (exD_undel ex)
      refine k.query O hs (X.ex (ex_upd nz)) (NewD.of X nz) ?_
      rw [upd_same]
      show _ = some (HO.lst (ansV (WrtihaSpec.tells (s.left.filter fun i => (s.slots d e).all fun x => s.against (s.truck x.2) x.1 [i] != 0))))
      unfold ansV WrtihaSpec.tells nv stuckAt
      simp
end
end Th
namespace Th
open PySem PySem.Spec PyProof.Rows L2
open TimHaul (Road Limit Truck Lot Trip Office before)
open Evl (Ex Ev EvL EvT EvA)
section
variable {PP : Program} {w : World} {K : PySem.W.Frag} {mg : Str → Option Value} {base : Heap}
def fO (v0 v1 v2 v3 v4 v5 : V) : List (Str × V) := [("places", v0), ("roads", v1), ("limits", v2), ("trucks", v3), ("lots", v4), ("trips", v5)]
theorem fO_roads (v0 v1 v2 v3 v4 v5 x : V) : putF "roads" x (fO v0 v1 v2 v3 v4 v5) = fO v0 x v2 v3 v4 v5 := by
  unfold fO
  rw [put_past (by decide +kernel), put_here]
theorem fO_limits (v0 v1 v2 v3 v4 v5 x : V) : putF "limits" x (fO v0 v1 v2 v3 v4 v5) = fO v0 v1 x v3 v4 v5 := by
  unfold fO
  rw [put_past (by decide +kernel), put_past (by decide +kernel), put_here]
theorem fO_trucks (v0 v1 v2 v3 v4 v5 x : V) : putF "trucks" x (fO v0 v1 v2 v3 v4 v5) = fO v0 v1 v2 x v4 v5 := by
  unfold fO
  rw [put_past (by decide +kernel), put_past (by decide +kernel), put_past (by decide +kernel), put_here]
theorem fO_lots (v0 v1 v2 v3 v4 v5 x : V) : putF "lots" x (fO v0 v1 v2 v3 v4 v5) = fO v0 v1 v2 v3 x v5 := by
  unfold fO
  rw [put_past (by decide +kernel), put_past (by decide +kernel), put_past (by decide +kernel), put_past (by decide +kernel), put_here]
theorem fO_trips (v0 v1 v2 v3 v4 v5 x : V) : putF "trips" x (fO v0 v1 v2 v3 v4 v5) = fO v0 v1 v2 v3 v4 x := by
  unfold fO
  rw [put_past (by decide +kernel), put_past (by decide +kernel), put_past (by decide +kernel), put_past (by decide +kernel), put_past (by decide +kernel), put_here]
def sp_Office_without (K : PySem.W.Frag) : Sp := fun vs H Q _ => ∃ (A : OA) (s : Office) (r : Nat), vs = [.ref A.a, .int (r : Int)] ∧ OffR K H A s ∧ r < s.roads.length ∧ s.roads.length ≤ 32 ∧ s.limits.length ≤ 100 ∧
  ∀ A' H', Ex H H' → OffR K H' A' (s.without r) → Q (.ref A'.a) H'
/-- a part of it is copied -/
theorem copy_step {K : PySem.W.Frag} {H H' : Hp} {p dx lx : Addr} {fs fs' : List (Str × V)} {X : Str} {xs : List V} {D : Ends} {σ : L2.St} {ta : TE} (ex : Ex H (del H' p)) (hp : H' p = some (.ins (He.ga K "Office") dx fs)) (hH : H p = none) (hσ : σ[2]? = some (some (.ref p))) (hc : Cls K (He.ga K "Office")) (hn : NoAttr K (He.ga K "Office") X) (hl : fs.length < 1000) (hput : ∀ q, putF X (.ref q) fs = fs' → True)
    (ha : ∀ H'', Ex H H'' → Ev ta σ H'' (.ref lx)) (hx : H lx = some (.lst xs))
    (k : ∀ q H'', H q = none → q ≠ p → Ex H (del H'' p) → (∀ b o, b ≠ p → H' b = some o → H'' b = some o) → H'' q = some (.lst xs) → H'' p = some (.ins (He.ga K "Office") dx (putF X (.ref q) fs)) → D.nx σ H'') : sFld K (tVar 2) (tCB (rListOf K) (tCons ta tNil)) X D σ H' := by
  have ex' : Ex H H' := ex.trans (del_ex _ _)
  refine k_evL (te := tCB (rListOf K) (tCons ta tNil)) (el_listOf (ha H' ex') (SqL.of (ex' _ _ hx))) fun q H1 nq e1 h1 => ?_
  have qp : q ≠ p := fun z => by rw [z, hp] at nq; cases nq
  refine ⟨_, hσ, p, _, dx, fs, rfl, e1 _ _ hp, hc, hn, hl, ?_⟩
  refine k q _ (Evl.fresh_back ex' nq) qp ?_ (fun b o hb hbo => ?_) ?_ upd_same
  · rw [del_upd]; exact ex.trans (del_mono e1)
  · rw [upd_ne hb]; exact e1 _ _ hbo
  · rw [upd_ne qp]; exact h1
theorem sc_Office_without : FnScope (["self", "road", "other", "shut"] : List Str) ["self", "road"] (defScope s_Office_without) := ⟨rfl, rfl, rfl, by decide +kernel, rfl, by decide +kernel, by decide +kernel⟩
theorem c_Office_without (T : Txt K mg) (C_Office_init : Cal PP w K mg base 1 (He.ma K (He.ga K "Office") "__init__") ["self", "places"] (sp_Office_init K)) (C_Road_init : Cal PP w K mg base 1 (He.ma K (He.ga K "Road") "__init__") ["self", "a", "b", "metres", "kilograms"] (sp_Road_init K)) : Cal PP w K mg base 3 (He.ma K (He.ga K "Office") "without") ["self", "road"] (sp_Office_without K) := by
  refine Cal.of T.f_Office_without sc_Office_without (fun vs H Q E h => ?_) (fun _ _ _ _ _ _ us hl => match us, hl with | [_, _], _ => rfl) (fun cdv A outer s H vs Q E hr h => ?_)
  · obtain ⟨A, s, r, rfl, O, hr1, h32, h100, k⟩ := h
    rfl
  · obtain ⟨A, s, r, rfl, O, hr1, h32, h100, k⟩ := h
    refine ⟨_, (pss_cons (ps_set (i := 2) sc_Office_without.nd rfl (Or.inl rfl) (pe_cmake T.k_Office C_Office_init (hr.mono (by decide)) (by rfl) T.g_Office (pa_cons (pe_fld (pv 0) rfl) pa_nil)))
      (pss_cons (ps_fld (pv 2) (pe_callTy cr_list (by rfl) T.n_list (by decide +kernel) (pa_cons (pe_fld (pv 0) rfl) pa_nil)) rfl)
      (pss_cons (ps_set (i := 3) sc_Office_without.nd rfl (Or.inl rfl) (pe_ix ix_list (pe_fld (pv 0) rfl) (pv 1) (fun _ _ => rfl)))
      (pss_cons (ps_asg (pe_cmake T.k_Road C_Road_init (hr.mono (by decide)) (by rfl) T.g_Road (pa_cons (pe_fld (pv 3) rfl) (pa_cons (pe_fld (pv 3) rfl) (pa_cons (pe_fld (pv 3) rfl) (pa_cons pe_int pa_nil))))) (pg_sub (pe_fld (pv 2) rfl) (pv 1) set_list))
      (pss_cons (ps_fld (pv 2) (pe_callTy cr_list (by rfl) T.n_list (by decide +kernel) (pa_cons (pe_fld (pv 0) rfl) pa_nil)) rfl)
      (pss_cons (ps_fld (pv 2) (pe_callTy cr_list (by rfl) T.n_list (by decide +kernel) (pa_cons (pe_fld (pv 0) rfl) pa_nil)) rfl)
      (pss_cons (ps_fld (pv 2) (pe_callTy cr_list (by rfl) T.n_list (by decide +kernel) (pa_cons (pe_fld (pv 0) rfl) pa_nil)) rfl)
      (pss_cons (ps_fld (pv 2) (pe_callTy cr_list (by rfl) T.n_list (by decide +kernel) (pa_cons (pe_fld (pv 0) rfl) pa_nil)) rfl)
      (pss_one (ps_ret (pv 2))))))))))), ?_⟩
    have mk : ∀ (Q : VK), (∀ p dx lr ll lt lo lp H', H p = none → Ex H (del H' p) → H' p = some (.ins (He.ga K "Office") dx (fO (.int (s.n : Int)) (.ref lr) (.ref ll) (.ref lt) (.ref lo) (.ref lp))) → Q (.ref p) H') → tMake (He.ga K "Office") (sp_Office_init K) [] E0 (tCons (tFld K (tVar 0) "places") tNil) [some (.ref A.a), some (.int (r : Int)), none, none] H Q := fun Q q => by
      refine (ea_one (evO_places T O (Evl.ev_var rfl)) : EvA _ _ H [.int (s.n : Int)]) H (Ex.refl _) _ fun H1 e1 => fun x dx nx nd ne => ?_
      have n2 : upd H1 dx (.own x) x = none := by rw [upd_ne (Ne.symm ne)]; exact nx
      refine ⟨x, dx, s.n, rfl, upd_same, fun lr ll lt lo lp H' nds new ex hob => ⟨rfl, q x dx lr ll lt lo lp H' (Evl.fresh_back e1 nx) ?_ hob⟩⟩
      have e2 : Ex H (del (upd (upd H1 dx (.own x)) x (.ins (He.ga K "Office") dx [])) x) := by
        rw [del_upd]
        exact ex_del (Evl.fresh_back e1 nx) (e1.trans (ex_upd nd))
      exact e2.trans ex
    refine q_asgK (mk _ fun p dx lr ll lt lo lp H1 np ex1 hp1 => ?_)
    have fld : ∀ {v w : Option V} {H'' : Hp} {X : Str} {l : Addr}, Ex H H'' → NoAttr K (He.ga K "Office") X → (fOffice s.n A).lookup X = some (.ref l) → Ev (tFld K (tVar 0) X) [some (.ref A.a), some (.int (r : Int)), v, w] H'' (.ref l) := fun e na hl => ev_fld (Evl.ev_var rfl) (e _ _ O.obj) T.c_Office na hl
    dsimp only
    refine q_go (copy_step (lx := A.lr) (fs' := []) ex1 hp1 np rfl T.c_Office T.a_Office_roads (by show 6 < 1000; decide) (fun _ _ => trivial) (fun H'' e => fld e T.a_Office_roads (lOffice_roads _ _)) O.lr fun q1 H2 nq1 qp1 ex2 ke2 h2 hp2 => ?_)
    rw [fO_roads] at hp2
    have O2 := O.ex (ex2.trans (del_ex _ _))
    obtain ⟨rd, hrd⟩ : ∃ rd, s.roads[r]? = some rd := ⟨_, List.getElem?_eq_getElem hr1⟩
    obtain ⟨pr, dr, hpr, hI⟩ := O2.roadp hrd
    dsimp only
    refine Evl.q_asg (ev_atL (evO_roads T O2 (Evl.ev_var rfl)) (Evl.ev_var rfl) O2.lr hpr) fun H3 e3 => ?_
    have hI3 := e3 _ _ hI
    have er : EvA (tCons (tFld K (tVar 3) "a") (tCons (tFld K (tVar 3) "b") (tCons (tFld K (tVar 3) "metres") (tCons (tC (.int 0)) tNil)))) [some (.ref A.a), some (.int (r : Int)), some (.ref p), some (.ref pr)] H3 [.int (rd.a : Int), .int (rd.b : Int), .int (rd.metres : Int), .int ((0 : Nat) : Int)] := Evl.ea_cons (ev_fld (Evl.ev_var rfl) hI3 T.c_Road T.a_Road_a (lRoad_a _)) (Evl.ea_cons (ev_fld (Evl.ev_var rfl) hI3 T.c_Road T.a_Road_b (lRoad_b _)) (ea_two (ev_fld (Evl.ev_var rfl) hI3 T.c_Road T.a_Road_metres (lRoad_metres _)) Evl.ev_c))
    refine q_asgG (k_make (fs := fRoad { rd with bears := 0 }) (fun p dx H Q E h1 h2 => ⟨p, dx, _, _, _, _, rfl, h1, h2⟩) er fun pn H4 npn e4 hpn => ?_)
    obtain ⟨dn, hpn⟩ := hpn
    have e24 := e3.trans e4
    have hp4 := e24 _ _ hp2
    have h24 := e24 _ _ h2
    have ex4 : Ex H (del H4 p) := ex2.trans (del_mono e24)
    have pnp : pn ≠ p := fun z => by rw [z, e3 _ _ hp2] at npn; cases npn
    have q1pn : q1 ≠ pn := fun z => by rw [← z, e3 _ _ h2] at npn; cases npn
    have ef : Ev (tFld K (tVar 2) "roads") [some (.ref A.a), some (.int (r : Int)), some (.ref p), some (.ref pr)] H4 (.ref q1) := ev_fld (Evl.ev_var rfl) hp4 T.c_Office T.a_Office_roads (by
      unfold fO
      rw [lk_past (by decide +kernel), lk_here])
    refine k_ev ef fun H5 e5 => ?_
    refine ⟨_, rfl, q1, _, (r : Int), r, rfl, rfl, e5 _ _ h24, Evl.ixN_nat (by rw [List.length_map, O.roads.1]; exact hr1), ?_⟩
    have nq1' : del H5 p q1 = some (.lst (A.rr.map V.ref)) := by rw [del_ne qp1]; exact e5 _ _ h24
    have ex5 : Ex H (del H5 p) := ex4.trans (del_mono e5)
    have ex6 : Ex H (del (upd H5 q1 (.lst ((A.rr.map V.ref).set r (.ref pn)))) p) := fun b o hb => by
      have z := ex5 b o hb
      have bp : b ≠ p := ne_of_none hb np
      have bq : b ≠ q1 := ne_of_none hb nq1
      rw [del_ne bp] at z ⊢
      rw [upd_ne bq]
      exact z
    have hp6 : upd H5 q1 (.lst ((A.rr.map V.ref).set r (.ref pn))) p = some (.ins (He.ga K "Office") dx (fO (.int (s.n : Int)) (.ref q1) (.ref ll) (.ref lt) (.ref lo) (.ref lp))) := by rw [upd_ne (Ne.symm qp1)]; exact e5 _ _ hp4
    have hq6 : upd H5 q1 (.lst ((A.rr.map V.ref).set r (.ref pn))) q1 = some (.lst ((A.rr.map V.ref).set r (.ref pn))) := upd_same
    have hn6 : upd H5 q1 (.lst ((A.rr.map V.ref).set r (.ref pn))) pn = some (.ins (He.ga K "Road") dn (fRoad { rd with bears := 0 })) := by rw [upd_ne (Ne.symm q1pn)]; exact e5 _ _ hpn
    generalize upd H5 q1 (.lst ((A.rr.map V.ref).set r (.ref pn))) = H6 at ex6 hp6 hq6 hn6
    dsimp only
    refine q_go (copy_step (lx := A.ll) (fs' := []) ex6 hp6 np rfl T.c_Office T.a_Office_limits (by show 6 < 1000; decide) (fun _ _ => trivial) (fun H'' e => fld e T.a_Office_limits (lOffice_limits _ _)) O.ll fun q2 H7 nq2 qp2 ex7 ke7 h7 hp7 => ?_)
    rw [fO_limits] at hp7
    dsimp only
    refine q_go (copy_step (lx := A.lt) (fs' := []) ex7 hp7 np rfl T.c_Office T.a_Office_trucks (by show 6 < 1000; decide) (fun _ _ => trivial) (fun H'' e => fld e T.a_Office_trucks (lOffice_trucks _ _)) O.lt fun q3 H8 nq3 qp3 ex8 ke8 h8 hp8 => ?_)
    rw [fO_trucks] at hp8
    dsimp only
    refine q_go (copy_step (lx := A.lo) (fs' := []) ex8 hp8 np rfl T.c_Office T.a_Office_lots (by show 6 < 1000; decide) (fun _ _ => trivial) (fun H'' e => fld e T.a_Office_lots (lOffice_lots _ _)) O.lo fun q4 H9 nq4 qp4 ex9 ke9 h9 hp9 => ?_)
    rw [fO_lots] at hp9
    dsimp only
    refine q_go (copy_step (lx := A.lp) (fs' := []) ex9 hp9 np rfl T.c_Office T.a_Office_trips (by show 6 < 1000; decide) (fun _ _ => trivial) (fun H'' e => fld e T.a_Office_trips (lOffice_trips _ _)) O.lp fun q5 Ha nq5 qp5 exa kea ha hpa => ?_)
    rw [fO_trips] at hpa
    refine Evl.s_ret (Evl.ev_var rfl) fun Hb eb => ?_
    have exb : Ex H Hb := (exa.trans (del_ex _ _)).trans eb
    have to9 : ∀ b o, b ≠ p → H7 b = some o → Hb b = some o := fun b o hb h => eb _ _ (kea b o hb (ke9 b o hb (ke8 b o hb h)))
    have Ob := O.ex exb
    refine k ⟨p, dx, q1, q2, q3, q4, q5, A.rr.set r pn, A.rl, A.rt, A.ro, A.rp⟩ Hb exb ⟨eb _ _ hpa, ?_, to9 _ _ qp2 h7, eb _ _ (kea _ _ qp3 (ke9 _ _ qp3 h8)), eb _ _ (kea _ _ qp4 h9), eb _ _ ha, ?_, Ob.limits, Ob.trucks, Ob.lots, Ob.trips⟩
    · show Hb q1 = some (.lst ((A.rr.set r pn).map V.ref))
      rw [List.map_set]
      exact to9 _ _ qp1 (ke7 _ _ qp1 hq6)
    · have z : (s.without r).roads = s.roads.set r { rd with bears := 0 } := by
        refine List.ext_getElem? fun j => ?_
        rw [without_get, List.getElem?_set]
        by_cases e : r = j
        · subst e
          rw [if_pos rfl, if_pos hr1, hrd]
          simp
        · rw [if_neg e]
          cases s.roads[j]? with
          | none => rfl
          | some x => simp [Ne.symm e]
      rw [z]
      refine ⟨by rw [List.length_set, List.length_set]; exact Ob.roads.1, fun j x hj => ?_⟩
      rw [List.getElem?_set] at hj ⊢
      by_cases e : r = j
      · subst e
        rw [if_pos rfl, if_pos hr1] at hj
        cases hj
        exact ⟨pn, by rw [if_pos rfl, if_pos (by rw [O.roads.1]; exact hr1)], dn, to9 _ _ pnp (ke7 _ _ pnp hn6)⟩
      · rw [if_neg e] at hj ⊢
        exact Ob.roads.2 j x hj
end
end Th
namespace Th
open PySem PySem.Spec PyProof.Rows L2
open TimHaul (Road Limit Truck Lot Trip Office before)
open Evl (Ex Ev EvL EvT EvA)
section
variable {PP : Program} {w : World} {K : PySem.W.Frag} {mg : Str → Option Value} {base : Heap}
def sp_tell_without (K : PySem.W.Frag) : Sp := fun vs H Q _ => ∃ (G : Hp) (A : OA) (s : Office) (rn : Addr) (r d e : Nat), vs = [.ref A.a, .ref rn] ∧ OffM K G H A s ∧ H rn = some (.lst (nv [r, d, e])) ∧ WrtihaSpec.right (.without r d e) = true ∧ Done K (.without r d e) G H A s Q
theorem without_wf {s : Office} (w : Wf s) (r : Nat) : Wf (s.without r) := wf_without w r (fun k x h => ⟨without_ok w.roads r k x h, by
  rw [without_get] at h
  cases q : s.roads[k]? with
  | none => rw [q] at h; cases h
  | some y =>
    rw [q] at h
    have e : (if k = r then { y with bears := 0 } else y) = x := Option.some.inj h
    rw [← e]
    split
    · exact Nat.zero_le _
    · exact w.bears y (List.mem_of_getElem? q)⟩) (without_len s r)
theorem sc_tell_without : FnScope (["office", "numbers", "road", "first", "last", "left", "plan"] : List Str) ["office", "numbers"] (defScope s_tell_without) := ⟨rfl, rfl, rfl, by decide +kernel, rfl, by decide +kernel, by decide +kernel⟩
theorem c_tell_without (T : Txt K mg) (C_Office_has_road : Cal PP w K mg base 1 (He.ma K (He.ga K "Office") "has_road") ["self", "road"] (sp_Office_has_road K)) (C_Office_lots_left : Cal PP w K mg base 2 (He.ma K (He.ga K "Office") "lots_left") ["self"] (sp_Office_lots_left K)) (C_best_plan : Cal PP w K mg base 8 (He.ga K "best_plan") ["office", "what", "first", "last", "left"] (sp_best_plan K)) (C_Office_without : Cal PP w K mg base 3 (He.ma K (He.ga K "Office") "without") ["self", "road"] (sp_Office_without K)) : Cal PP w K mg base 9 (He.ga K "tell_without") ["office", "numbers"] (sp_tell_without K) := by
  refine Cal.of T.f_tell_without sc_tell_without (fun vs H Q E h => ?_) (fun _ _ _ _ _ _ us hl => match us, hl with | [_, _], _ => rfl) (fun cdv A outer s H vs Q E hr h => ?_)
  · obtain ⟨G, A, s, rn, r, d, e, rfl, O, hn, hg, k⟩ := h
    rfl
  · obtain ⟨G, A, s, rn, r, d, e, rfl, O, hn, hg, k⟩ := h
    refine ⟨_, (pss_cons (ps_asg (pv 1) (pg_unl rfl (pgs_cons (pg_name (i := 2) sc_tell_without.nd rfl (Or.inl rfl)) (pgs_cons (pg_name (i := 3) sc_tell_without.nd rfl (Or.inl rfl)) (pgs_cons (pg_name (i := 4) sc_tell_without.nd rfl (Or.inl rfl)) pgs_nil)))))
      (pss_cons (ps_if (pt_not (pt_val (pe_cmeth (pv 0) T.c_Office T.m_Office_has_road C_Office_has_road (hr.mono (by decide)) (pa_cons (pv 2) pa_nil)))) (pss_one (ps_ret (pe_lst (pa_cons (pe_gint T.i_NOT_THERE (by rfl)) pa_nil)))) pss_nil)
      (pss_cons (ps_set (i := 5) sc_tell_without.nd rfl (Or.inl rfl) (pe_cmeth0 (pv 0) T.c_Office T.m_Office_lots_left C_Office_lots_left (hr.mono (by decide))))
      (pss_cons (ps_if (pt_cmpR op_gt (pe_callB cr_len (by rfl) T.n_len (by decide +kernel) (pa_cons (pv 5) pa_nil)) (pe_gint T.i_MOST_PLANNED (by rfl)) (nomark _)) (pss_one (ps_ret (pe_lst (pa_cons (pe_gint T.i_CANNOT_BE (by rfl)) pa_nil)))) pss_nil)
      (pss_cons (ps_set (i := 6) sc_tell_without.nd rfl (Or.inl rfl) (pe_cal C_best_plan (hr.mono (by decide)) (by rfl) T.g_best_plan (pa_cons (pe_cmeth (pv 0) T.c_Office T.m_Office_without C_Office_without (hr.mono (by decide)) (pa_cons (pv 2) pa_nil)) (pa_cons pe_int (pa_cons (pv 3) (pa_cons (pv 4) (pa_cons (pv 5) pa_nil)))))))
      (pss_cons (ps_if (pt_cmpR op_isN (pv 6) pe_non (nomark _)) (pss_one (ps_ret (pe_lst (pa_cons (pe_gint T.i_CANNOT_BE (by rfl)) pa_nil)))) pss_nil)
      (pss_one (ps_ret (pe_lst (pa_cons pe_int (pa_cons (pe_ix ix_tup (pv 6) pe_int (fun _ _ => rfl)) pa_nil))))))))))), ?_⟩
    obtain ⟨d1, d2, d3, d4⟩ := span_of (Bool.and_eq_true_iff.mp hg).2
    refine ⟨_, rfl, rn, _, rfl, SqL.of hn, rfl, _, _, rfl, _, _, rfl, _, _, rfl, rfl, ?_⟩
    refine Evl.q_when (Evl.et_not (Evl.et_B (ev_has_road O.offR (Evl.ev_var rfl) (Evl.ev_var rfl)))) (fun hc H1 e1 => ?_) (fun hc H1 e1 => ?_)
    · refine s_no rfl (exD_of e1) k O ?_
      show (s, if s.roads.length ≤ r then _ else _) = _
      rw [if_pos (by simp at hc; omega)]
    have hp : ¬ (s.roads.length ≤ r) := by simp at hc; omega
    have O1 := O.query (exD_of e1)
    refine Evl.q_asgL (el_left O1.offR O.wf (Evl.ev_var rfl)) fun pl H2 np e2 h2 => ?_
    have e12 := e1.trans e2
    refine Evl.q_when (b := decide (8 < s.left.length)) (Evl.et_is (Evl.et_test (Evl.ev_op (ev_lenL (Evl.ev_var rfl) (SqL.of h2)) Evl.ev_c Evl.rv_I0)) (decide_eq_decide.mpr (by rw [nv_len]; omega))) (fun hc H3 e3 => ?_) (fun hc H3 e3 => ?_)
    · refine s_no rfl (exD_of (e12.trans e3)) k O ?_
      show (s, if s.roads.length ≤ r then _ else if TimHaul.SMALL < s.left.length then _ else _) = _
      rw [if_neg hp, if_pos (show TimHaul.SMALL < s.left.length from of_decide_eq_true hc)]
    have h8 : ¬ 8 < s.left.length := of_decide_eq_false hc
    have e13 := e12.trans e3
    have O3 := O.offR.ex e13
    refine q_asgK (k_callK (k_cons (k_meth (vs := [.int (r : Int)]) (Evl.ev_var rfl) O3.obj (lOffice_without _ _) (ea_one (Evl.ev_var rfl)) fun H4 e4 => ?_)))
    refine ⟨A, s, r, rfl, O3.ex e4, by omega, O.wf.r32, by have := O.wf.l16; omega, fun A' H5 e5 O5 => ?_⟩
    refine k_cons (k_ev Evl.ev_c fun H6 e6 => k_cons (k_ev (Evl.ev_var rfl) fun H7 e7 => k_cons (k_ev (Evl.ev_var rfl) fun H8 e8 => k_cons (k_ev (Evl.ev_var rfl) fun H9 e9 => k_nil ?_))))
    have e59 := ((e6.trans e7).trans e8).trans e9
    have e39 := (e4.trans e5).trans e59
    refine ⟨A', s.without r, 0, d, e, pl, s.left, rfl, O5.ex e59, without_wf O.wf r, d1, d2, d4, by omega, fun i m => left_lt m, (e3.trans e39) _ _ h2, fun v Ha xa dv hlen => ?_⟩
    have ple : (s.without r).plan 0 d e = at' ((s.without r).plans 0 s.left ((s.without r).slots d e)).toList (2 ^ s.left.length - 1) := plan_eq (s.without r) 0 d e
    rw [← ple] at dv hlen
    have Xa : ExD H Ha := (exD_of (e13.trans e39)).trans xa
    have hs : ∀ x, (match (s.without r).plan 0 d e with
        | none => WrtihaSpec.no (-4)
        | some p => WrtihaSpec.tells [p.headD 0]) = x → WrtihaSpec.does s (.without r d e) = (s, x) := fun x hx => by
      show (s, if s.roads.length ≤ r then _ else if TimHaul.SMALL < s.left.length then _ else _) = _
      rw [if_neg hp, if_neg (show ¬ TimHaul.SMALL < s.left.length from h8)]
      exact congrArg (Prod.mk s) hx
    refine Evl.q_when (b := decide (v = .non)) (Evl.et_test (Evl.ev_op (Evl.ev_var rfl) Evl.ev_c (Evl.rv_val fun H1 _ Q q => ⟨rfl, q⟩))) (fun hv Hb eb => ?_) (fun hv Hb eb => ?_)
    · refine s_no rfl (Xa.ex eb) k O (hs _ ?_)
      cases q : (s.without r).plan 0 d e with
      | none => rfl
      | some r =>
        rw [q] at dv
        obtain ⟨p, l, x, y, r', _, h3, _⟩ := dv
        rw [h3] at hv
        cases hv
    · cases q : (s.without r).plan 0 d e with
      | none =>
        rw [q] at dv
        have z : v = .non := dv
        rw [z] at hv
        cases hv
      | some rr =>
        rw [q] at dv
        obtain ⟨p, l, x, y, r', rfl, rfl, h3, h4⟩ := dv
        refine s_tells (Q := Q) (l := [x]) rfl (Xa.ex eb) k O (hs _ (by rw [q]; rfl)) ?_
        exact Evl.el_lst (ea_two Evl.ev_c (Evl.ev_op (Evl.ev_var rfl) Evl.ev_c (Evl.rv_ixT (SqT.of (eb _ _ h3)) rfl))) (by show 2 ≤ 100000; decide)
end
end Th
namespace Th
open PySem PySem.Spec PyProof.Rows L2
open TimHaul (Road Limit Truck Lot Trip Office before)
open Evl (Ex Ev EvL EvT EvA)
section
variable {PP : Program} {w : World} {K : PySem.W.Frag} {mg : Str → Option Value} {base : Heap}
def sp_Office_has_lots (K : PySem.W.Frag) : Sp := fun vs H Q _ => ∃ (A : OA) (s : Office) (l : Addr) (ls : List Nat), vs = [.ref A.a, .ref l] ∧ OffR K H A s ∧ SqL K H l (nv ls) ∧ ls.length ≤ 40 ∧
  ∀ H', Ex H H' → Q (.bl (ls.all fun i => decide (i < s.lots.length))) H'
theorem sc_Office_has_lots : FnScope (["self", "lots", "lot"] : List Str) ["self", "lots"] (defScope s_Office_has_lots) := ⟨rfl, rfl, rfl, by decide +kernel, rfl, by decide +kernel, by decide +kernel⟩
theorem c_Office_has_lots (T : Txt K mg) : Cal PP w K mg base 1 (He.ma K (He.ga K "Office") "has_lots") ["self", "lots"] (sp_Office_has_lots K) := by
  refine Cal.of T.f_Office_has_lots sc_Office_has_lots (fun vs H Q E h => ?_) (fun _ _ _ _ _ _ us hl => match us, hl with | [_, _], _ => rfl) (fun cdv A outer s H vs Q E hr h => ?_)
  · obtain ⟨A, s, l, ls, rfl, O, hl, hz, k⟩ := h
    rfl
  · obtain ⟨A, s, l, ls, rfl, O, hl, hz, k⟩ := h
    refine ⟨_, (pss_one (ps_ret (pe_callB (cr_all rfl) (by rfl) T.n_all (by decide +kernel) (pa_cons (pe_lc (own := [("lot", 2)]) (g := (gName 2)) (tt := tYes) (te := (tOp rLt (tVar 2) (tCB (rLen K) (tCons (tFld K (tVar 0) "lots") tNil)))) rfl sc_Office_has_lots.nd (pi_list (pv 1)) (blkOk_by (own := [("lot", 2)]) (N := (["self", "lots", "lot"] : List Str)) (sc := defScope s_Office_has_lots) (by decide +kernel)) (fun _ _ _ _ _ => (pg_name (i := 2) sc_Office_has_lots.nd rfl (Or.inl rfl))) (fun _ _ _ _ _ => pts_nil) (fun _ _ _ _ _ => (pe_cmpR op_lt (pv 2) (pe_callB cr_len (by rfl) T.n_len (by decide +kernel) (pa_cons (pe_fld (pv 0) rfl) pa_nil)) (nomark _)))) pa_nil)))), ?_⟩
    refine Evl.s_ret (ev_allN (bs := ls.map (fun i => decide (i < s.lots.length))) (el_is (el_list (K := K) (a := l) (ls := ls) (r := fun n : Nat => V.int (n : Int)) (fun _ => true) (fun i => .bl (decide (i < s.lots.length))) (Evl.ev_var rfl) hl (by omega) (by intro _; rfl) (fun _ _ _ _ => et_yes) (fun y _ H1 e1 _ => ?_)) ?_)) ?_
    · refine Evl.ev_is (Evl.ev_op (Evl.ev_var rfl) (evO_nlots T (O.ex e1) (Evl.ev_var rfl)) Evl.rv_I0) ?_
      exact congrArg V.bl (decide_eq_decide.mpr (by omega))
    · rw [filter_yes, List.map_map]
      rfl
    · rw [List.all_map]
      exact k
end
end Th
namespace Th
open PySem PySem.Spec PyProof.Rows L2
open TimHaul (Road Limit Truck Lot Trip Office before)
open Evl (Ex Ev EvL EvT EvA)
section
variable {PP : Program} {w : World} {K : PySem.W.Frag} {mg : Str → Option Value} {base : Heap}
def sp_Office_has_truck (K : PySem.W.Frag) : Sp := fun vs H Q _ => ∃ (A : OA) (s : Office) (i : Nat), vs = [.ref A.a, .int (i : Int)] ∧ OffR K H A s ∧ Q (.bl (decide (i < s.trucks.length))) H
theorem ev_has_truck {K : PySem.W.Frag} {σ : L2.St} {H : Hp} {A : OA} {s : Office} {ta tb : TE} {i : Nat} (O : OffR K H A s) (h : Ev ta σ H (.ref A.a)) (hi : Ev tb σ H (.int (i : Int))) : Ev (tMeth (He.ga K "Office") "has_truck" (sp_Office_has_truck K) [] E0 ta (tCons tb tNil)) σ H (.bl (decide (i < s.trucks.length))) :=
  ev_meth h O.obj (lOffice_has_truck _ _) (ea_one hi) fun H1 e Q q => ⟨A, s, i, rfl, O.ex e, q H1 (Ex.refl _)⟩
theorem sc_Office_has_truck : FnScope (["self", "truck"] : List Str) ["self", "truck"] (defScope s_Office_has_truck) := ⟨rfl, rfl, rfl, by decide +kernel, rfl, by decide +kernel, by decide +kernel⟩
theorem c_Office_has_truck (T : Txt K mg) : Cal PP w K mg base 1 (He.ma K (He.ga K "Office") "has_truck") ["self", "truck"] (sp_Office_has_truck K) := by
  refine Cal.of T.f_Office_has_truck sc_Office_has_truck (fun vs H Q E h => ?_) (fun _ _ _ _ _ _ us hl => match us, hl with | [_, _], _ => rfl) (fun cdv A outer s H vs Q E hr h => ?_)
  · obtain ⟨A, s, i, rfl, O, k⟩ := h
    rfl
  · obtain ⟨A, s, i, rfl, O, k⟩ := h
    refine ⟨_, (pss_one (ps_ret (pe_cmpR op_lt (pv 1) (pe_callB cr_len (by rfl) T.n_len (by decide +kernel) (pa_cons (pe_fld (pv 0) rfl) pa_nil)) (nomark _)))), ?_⟩
    refine ⟨_, rfl, _, rfl, A.a, _, A.dx, _, _, rfl, O.obj, T.c_Office, T.a_Office_trucks, lOffice_trucks _ _, A.lt, _, rfl, .inl (SqL.of O.lt), _, _, rfl, rfl, ?_⟩
    have e : decide ((i : Int) < (((A.rt.map V.ref).length : Nat) : Int)) = decide (i < s.trucks.length) := by
      rw [List.length_map, O.trucks.1]
      exact decide_eq_decide.mpr (by omega)
    show Q (.bl _) H
    rw [e]
    exact k
end
end Th
namespace Th
open PySem PySem.Spec PyProof.Rows L2
open TimHaul (Road Limit Truck Lot Trip Office before)
open Evl (Ex Ev EvL EvT EvA)
section
variable {PP : Program} {w : World} {K : PySem.W.Frag} {mg : Str → Option Value} {base : Heap}
theorem inV_nat (l : List Nat) (i : Nat) : inV (.int (i : Int)) (nv l) = l.contains i := by
  unfold inV nv
  rw [List.any_map, Bool.eq_iff_iff, List.any_eq_true, List.contains_iff_mem]
  constructor
  · rintro ⟨x, hx, e⟩
    have : ((x : Int) == (i : Int)) = true := e
    have : (x : Int) = (i : Int) := eq_of_beq this
    have : x = i := by omega
    rw [← this]; exact hx
  · intro h
    exact ⟨i, h, by show ((i : Int) == (i : Int)) = true; exact beq_self_eq_true _⟩
theorem flat_nv (l : List Nat) : (nv l).all flatV = true := by
  unfold nv
  rw [List.all_map]
  exact List.all_eq_true.mpr fun _ _ => rfl
theorem nodup_cast (l : List Nat) : (l.map fun n : Nat => (n : Int)).Nodup ↔ l.Nodup := by
  unfold List.Nodup
  rw [List.pairwise_map]
  constructor
  · exact fun h => h.imp fun h e => h (by rw [e])
  · exact fun h => h.imp fun {a b} h e => h (by omega)
def leftOk (s : Office) (ls : List Nat) : Bool := decide ls.Nodup && ls.all fun i => s.left.contains i
def sp_are_left (K : PySem.W.Frag) : Sp := fun vs H Q _ => ∃ (A : OA) (s : Office) (ll : Addr) (ls : List Nat), vs = [.ref A.a, .ref ll] ∧ OffR K H A s ∧ Wf s ∧ H ll = some (.lst (nv ls)) ∧ ls.length ≤ 40 ∧
  ∀ H', Ex H H' → Q (.bl (leftOk s ls)) H'
/-- left, as the specification has it -/
theorem leftOk_eq {s : Office} {ls : List Nat} (h : ∀ i ∈ ls, i < s.lots.length) : leftOk s ls = true ↔ ¬ (decide ls.Nodup = false ∨ ls.any s.goes = true) := by
  unfold leftOk
  rw [Bool.and_eq_true, decide_eq_true_eq, decide_eq_false_iff_not, List.all_eq_true]
  have key : (∀ i ∈ ls, s.left.contains i = true) ↔ ¬ ls.any s.goes = true := by
    rw [List.any_eq_true]
    constructor
    · rintro g ⟨i, hi, hg⟩
      have := List.contains_iff_mem.mp (g i hi)
      unfold TimHaul.Office.left at this
      have := (List.mem_filter.mp this).2
      rw [hg] at this
      cases this
    · intro g i hi
      refine List.contains_iff_mem.mpr ?_
      unfold TimHaul.Office.left
      refine List.mem_filter.mpr ⟨List.mem_range.mpr (h i hi), ?_⟩
      cases q : s.goes i with
      | false => rfl
      | true => exact absurd ⟨i, hi, q⟩ g
  rw [key]
  constructor
  · rintro ⟨a, b⟩ (z | z)
    · exact z a
    · exact b z
  · intro z
    refine ⟨?_, fun y => z (.inr y)⟩
    by_cases a : ls.Nodup
    · exact a
    · exact absurd (.inl a) z
theorem sc_are_left : FnScope (["office", "lots", "left", "lot"] : List Str) ["office", "lots"] (defScope s_are_left) := ⟨rfl, rfl, rfl, by decide +kernel, rfl, by decide +kernel, by decide +kernel⟩
theorem c_are_left (T : Txt K mg) (C_Office_lots_left : Cal PP w K mg base 2 (He.ma K (He.ga K "Office") "lots_left") ["self"] (sp_Office_lots_left K)) : Cal PP w K mg base 3 (He.ga K "are_left") ["office", "lots"] (sp_are_left K) := by
  refine Cal.of T.f_are_left sc_are_left (fun vs H Q E h => ?_) (fun _ _ _ _ _ _ us hl => match us, hl with | [_, _], _ => rfl) (fun cdv A outer s H vs Q E hr h => ?_)
  · obtain ⟨A, s, ll, ls, rfl, O, wf, hl, h40, k⟩ := h
    rfl
  · obtain ⟨A, s, ll, ls, rfl, O, wf, hl, h40, k⟩ := h
    refine ⟨_, (pss_cons (ps_set (i := 2) sc_are_left.nd rfl (Or.inr rfl) (pe_cmeth0 (pv 0) T.c_Office T.m_Office_lots_left C_Office_lots_left (hr.mono (by decide))))
      (pss_one (ps_ret (pe_and (pe_cmpR op_eq (pe_lenSetA (by rfl) T.n_len (by rfl) T.n_set (pv 1)) (pe_callB cr_len (by rfl) T.n_len (by decide +kernel) (pa_cons (pv 1) pa_nil)) (nomark _)) (pe_one (pe_callB (cr_all rfl) (by rfl) T.n_all (by decide +kernel) (pa_cons (pe_lc (own := [("lot", 3)]) (g := (gName 3)) (tt := tYes) (te := (tOp (rIn K false) (tVar 3) (tVar 2))) rfl sc_are_left.nd (pi_list (pv 1)) (blkOk_by (own := [("lot", 3)]) (N := (["office", "lots", "left", "lot"] : List Str)) (sc := defScope s_are_left) (by decide +kernel)) (fun _ _ _ _ _ => (pg_name (i := 3) sc_are_left.nd rfl (Or.inl rfl))) (fun _ _ _ _ _ => pts_nil) (fun _ _ _ _ _ => (pe_cmpR op_in_seq (pv 3) (pv 2) (by rfl)))) pa_nil))))))), ?_⟩
    refine Evl.q_asgL (el_left O wf (Evl.ev_var rfl)) fun pl H1 np e1 h1 => ?_
    have hl1 := e1 _ _ hl
    have eset : Ev (tLenSetA K (tVar 1)) [some (.ref A.a), some (.ref ll), some (.ref pl), none] H1 (.int ((dedup (ls.map fun n : Nat => (n : Int))).length : Nat)) := fun H2 e2 Q2 q2 => ⟨_, rfl, ll, ls.map fun n : Nat => (n : Int), rfl, SqL.of (by rw [e2 _ _ hl1, nv_ints]), by rw [List.length_map]; omega, q2 H2 (Ex.refl _)⟩
    refine Evl.s_ret (Evl.ev_is (Evl.ev_andV (ev_eqI eset (ev_lenL (Evl.ev_var rfl) (SqL.of hl1))) fun _ => ev_allN (bs := ls.map fun i => s.left.contains i) (el_is (el_list (K := K) (a := ll) (ls := ls) (r := fun n : Nat => V.int (n : Int)) (fun _ => true) (fun i => .bl (s.left.contains i)) (Evl.ev_var rfl) (SqL.of hl1) (by omega) (by intro _; rfl) (fun _ _ _ _ => et_yes) (fun y hy H2 e2 _ => ?_)) ?_)) (congrArg V.bl ?_)) fun H2 e2 => k H2 (e1.trans e2)
    · refine Evl.ev_is (Evl.ev_op (Evl.ev_var rfl) (Evl.ev_var rfl) (Evl.rv_isL (SqL.of (e2 _ _ h1)) rfl (flat_nv _))) (congrArg V.bl (inV_nat _ _))
    · rw [filter_yes, List.map_map]; rfl
    · unfold leftOk
      rw [List.all_map]
      congr 1
      refine decide_eq_decide.mpr ?_
      have z := dedup_nodup (ls.map fun n : Nat => (n : Int))
      rw [List.length_map] at z
      rw [nv_len, ← nodup_cast, ← z]
      omega
end
end Th
namespace Th
open PySem PySem.Spec PyProof.Rows L2
open TimHaul (Road Limit Truck Lot Trip Office before)
open Evl (Ex Ev EvL EvT EvA)
section
variable {PP : Program} {w : World} {K : PySem.W.Frag} {mg : Str → Option Value} {base : Heap}
theorem ev_has_lots {K : PySem.W.Frag} {σ : L2.St} {H : Hp} {A : OA} {s : Office} {ta tb : TE} {ll : Addr} {ls : List Nat} (O : OffR K H A s) (h : Ev ta σ H (.ref A.a)) (hi : Ev tb σ H (.ref ll)) (hl : H ll = some (.lst (nv ls))) (hz : ls.length ≤ 40) : Ev (tMeth (He.ga K "Office") "has_lots" (sp_Office_has_lots K) [] E0 ta (tCons tb tNil)) σ H (.bl (ls.all fun i => decide (i < s.lots.length))) :=
  ev_meth h O.obj (lOffice_has_lots _ _) (ea_one hi) fun H1 e Q q => ⟨A, s, ll, ls, rfl, O.ex e, SqL.of (e _ _ hl), hz, q⟩
theorem lots_there {s : Office} {ls : List Nat} : (ls.all fun i => decide (i < s.lots.length)) = !(ls.any fun (i : Nat) => decide (s.lots.length ≤ i)) := by
  rw [List.not_any_eq_all_not]
  congr 1
  funext i
  rw [Bool.eq_iff_iff]
  simp
theorem isLots_of {ls : List Nat} (h : WrtihaSpec.isLots ls = true) : ls ≠ [] ∧ ls.length ≤ 24 := by
  obtain ⟨h1, _⟩ := Bool.and_eq_true_iff.mp h
  obtain ⟨h2, h3⟩ := Bool.and_eq_true_iff.mp h1
  have a := of_decide_eq_true h2
  have b := of_decide_eq_true h3
  exact ⟨fun z => by rw [z] at a; simp at a, b⟩
def sp_load (K : PySem.W.Frag) : Sp := fun vs H Q _ => ∃ (G : Hp) (A : OA) (s : Office) (rn ll : Addr) (t d : Nat) (ls : List Nat), vs = [.ref A.a, .ref rn, .ref ll] ∧ OffM K G H A s ∧ H rn = some (.lst (nv [t, d])) ∧ H ll = some (.lst (nv ls)) ∧ WrtihaSpec.right (.load t d ls) = true ∧ Done K (.load t d ls) G H A s Q
theorem sc_load : FnScope (["office", "numbers", "lots", "truck", "day", "against", "metres", "roads"] : List Str) ["office", "numbers", "lots"] (defScope s_load) := ⟨rfl, rfl, rfl, by decide +kernel, rfl, by decide +kernel, by decide +kernel⟩
theorem c_load (T : Txt K mg) (C_Office_has_lots : Cal PP w K mg base 1 (He.ma K (He.ga K "Office") "has_lots") ["self", "lots"] (sp_Office_has_lots K)) (C_Office_has_truck : Cal PP w K mg base 1 (He.ma K (He.ga K "Office") "has_truck") ["self", "truck"] (sp_Office_has_truck K)) (C_are_left : Cal PP w K mg base 3 (He.ga K "are_left") ["office", "lots"] (sp_are_left K)) (C_look_at_load : Cal PP w K mg base 6 (He.ga K "look_at_load") ["ways", "truck", "day", "lots"] (sp_look_at_load K)) (C_Ways_init : Cal PP w K mg base 1 (He.ma K (He.ga K "Ways") "__init__") ["self", "office"] (sp_Ways_init K)) : Cal PP w K mg base 7 (He.ga K "load") ["office", "numbers", "lots"] (sp_load K) := by
  refine Cal.of T.f_load sc_load (fun vs H Q E h => ?_) (fun _ _ _ _ _ _ us hl => match us, hl with | [_, _, _], _ => rfl) (fun cdv A outer s H vs Q E hr h => ?_)
  · obtain ⟨G, A, s, rn, ll, t, d, ls, rfl, O, hn, hl, hg, k⟩ := h
    rfl
  · obtain ⟨G, A, s, rn, ll, t, d, ls, rfl, O, hn, hl, hg, k⟩ := h
    refine ⟨_, (pss_cons (ps_asg (pv 1) (pg_unl rfl (pgs_cons (pg_name (i := 3) sc_load.nd rfl (Or.inl rfl)) (pgs_cons (pg_name (i := 4) sc_load.nd rfl (Or.inl rfl)) pgs_nil))))
      (pss_cons (ps_if (PW.pt (pw_or (pt_not (pt_val (pe_cmeth (pv 0) T.c_Office T.m_Office_has_truck C_Office_has_truck (hr.mono (by decide)) (pa_cons (pv 3) pa_nil)))) (pw_or1 (pt_not (pt_val (pe_cmeth (pv 0) T.c_Office T.m_Office_has_lots C_Office_has_lots (hr.mono (by decide)) (pa_cons (pv 2) pa_nil))))))) (pss_one (ps_ret (pe_lst (pa_cons (pe_gint T.i_NOT_THERE (by rfl)) pa_nil)))) pss_nil)
      (pss_cons (ps_if (pt_not (pt_val (pe_cal C_are_left (hr.mono (by decide)) (by rfl) T.g_are_left (pa_cons (pv 0) (pa_cons (pv 2) pa_nil))))) (pss_one (ps_ret (pe_lst (pa_cons (pe_gint T.i_USED_UP (by rfl)) pa_nil)))) pss_nil)
      (pss_cons (ps_asg (pe_cal C_look_at_load (hr.mono (by decide)) (by rfl) T.g_look_at_load (pa_cons (pe_cmake T.k_Ways C_Ways_init (hr.mono (by decide)) (by rfl) T.g_Ways (pa_cons (pv 0) pa_nil)) (pa_cons (pv 3) (pa_cons (pv 4) (pa_cons (pv 2) pa_nil))))) (pg_tup rfl (pgs_cons (pg_name (i := 5) sc_load.nd rfl (Or.inl rfl)) (pgs_cons (pg_name (i := 6) sc_load.nd rfl (Or.inl rfl)) (pgs_cons (pg_name (i := 7) sc_load.nd rfl (Or.inl rfl)) pgs_nil)))))
      (pss_cons (ps_if (pt_cmpR op_gt (pv 5) pe_int (nomark _)) (pss_one (ps_ret (pe_lst (pa_cons (pv 5) pa_nil)))) pss_nil)
      (pss_one (ps_ret (pe_lst (pa_cons pe_int (pa_cons (pv 6) pa_nil)))))))))), ?_⟩
    obtain ⟨lne, l24⟩ := isLots_of (Bool.and_eq_true_iff.mp (Bool.and_eq_true_iff.mp hg).2).2
    refine ⟨_, rfl, rn, _, rfl, SqL.of hn, rfl, _, _, rfl, _, _, rfl, rfl, ?_⟩
    refine Evl.q_when (b := !decide (t < s.trucks.length) || !(ls.all fun i => decide (i < s.lots.length))) (Evl.et_or (Evl.et_not (Evl.et_B (ev_has_truck O.offR (Evl.ev_var rfl) (Evl.ev_var rfl)))) fun _ => Evl.et_not (Evl.et_B (ev_has_lots O.offR (Evl.ev_var rfl) (Evl.ev_var rfl) hl (by omega)))) (fun hc H1 e1 => ?_) (fun hc H1 e1 => ?_)
    · refine s_no rfl (exD_of e1) k O ?_
      show (s, if s.trucks.length ≤ t ∨ ls.any (fun (i : Nat) => decide (s.lots.length ≤ i)) = true then _ else _) = _
      rw [if_pos]
      rw [lots_there, Bool.not_not] at hc
      rcases Bool.or_eq_true_iff.mp hc with z | z
      · left; simp at z; omega
      · right; exact z
    have hp : ¬ (s.trucks.length ≤ t ∨ ls.any (fun (i : Nat) => decide (s.lots.length ≤ i)) = true) := by
      rw [lots_there, Bool.not_not] at hc
      obtain ⟨z1, z2⟩ := Bool.or_eq_false_iff.mp hc
      rintro (y | y)
      · simp at z1; omega
      · rw [y] at z2; cases z2
    have ht : t < s.trucks.length := by omega
    have hall : ∀ i ∈ ls, i < s.lots.length := fun i m => by
      have z := (Bool.or_eq_false_iff.mp hc).2
      have y : (ls.all fun i => decide (i < s.lots.length)) = true := by simpa using z
      exact of_decide_eq_true (List.all_eq_true.mp y i m)
    have O1 := O.query (exD_of e1)
    refine Evl.q_when (Evl.et_not (Evl.et_B (ev_fn (vs := [.ref A.a, .ref ll]) (v := .bl (leftOk s ls)) (ea_two (Evl.ev_var rfl) (Evl.ev_var rfl)) fun H2 e2 Q2 q2 => ⟨A, s, ll, ls, rfl, O1.offR.ex e2, O.wf, (e1.trans e2) _ _ hl, by omega, q2⟩))) (fun hc2 H2 e2 => ?_) (fun hc2 H2 e2 => ?_)
    · refine s_no rfl (exD_of (e1.trans e2)) k O ?_
      show (s, if s.trucks.length ≤ t ∨ ls.any (fun (i : Nat) => decide (s.lots.length ≤ i)) = true then _ else if decide ls.Nodup = false ∨ ls.any s.goes = true then _ else _) = _
      rw [if_neg hp, if_pos]
      by_cases z : decide ls.Nodup = false ∨ ls.any s.goes = true
      · exact z
      · rw [(leftOk_eq hall).mpr z] at hc2
        cases hc2
    have hok : ¬ (decide ls.Nodup = false ∨ ls.any s.goes = true) := (leftOk_eq hall).mp (by simpa using hc2)
    have e12 := e1.trans e2
    have lok : LotsOk s ls := ⟨lne, l24, hall⟩
    refine q_asgG (k_callK (k_cons (ways_made (O.offR.ex e12) O.wf (Evl.ev_var rfl) fun W H3 e3 wa => k_cons (k_ev (Evl.ev_var rfl) fun H4 e4 => k_cons (k_ev (Evl.ev_var rfl) fun H5 e5 => k_cons (k_ev (Evl.ev_var rfl) fun H6 e6 => k_nil ?_))))))
    have e36 := (e4.trans e5).trans e6
    have e16 := (e12.trans e3).trans e36
    refine ⟨W, A, s, 0, t, d, ll, ls, rfl, wa.ex e36, by decide, ht, lok, e16 _ _ hl, fun p l H7 nl x7 wa7 hp7 hl7 => ?_⟩
    have X7 : ExD H H7 := (exD_of e16).trans x7
    refine ⟨p, _, rfl, SqT.of hp7, rfl, _, _, rfl, _, _, rfl, _, _, rfl, rfl, ?_⟩
    have hs : ∀ x, (if s.against (s.truck t) d ls = 0 then WrtihaSpec.tells [s.metres (s.truck t) d ls] else ⟨(s.against (s.truck t) d ls : Nat), []⟩) = x → WrtihaSpec.does s (.load t d ls) = (s, x) := fun x hx => by
      show (s, if s.trucks.length ≤ t ∨ ls.any (fun (i : Nat) => decide (s.lots.length ≤ i)) = true then _ else if decide ls.Nodup = false ∨ ls.any s.goes = true then _ else _) = _
      rw [if_neg hp, if_neg hok]
      exact congrArg (Prod.mk s) hx
    refine Evl.q_when (b := decide (0 < s.against (s.truck t) d ls)) (Evl.et_is (Evl.et_test (Evl.ev_op (Evl.ev_var rfl) Evl.ev_c Evl.rv_I0)) (decide_eq_decide.mpr (by omega))) (fun hz H8 e8 => ?_) (fun hz H8 e8 => ?_)
    · have hz' := of_decide_eq_true hz
      refine Evl.s_retL (Evl.el_lst (ea_one (Evl.ev_var rfl)) (by show 1 ≤ 100000; decide)) fun q H9 nq e9 h9 => ?_
      exact k.query O (hs _ (if_neg (by omega))) (X7.ex (e8.trans e9)) (NewD.of (X7.ex e8) nq) h9
    · have hz' : s.against (s.truck t) d ls = 0 := by have := of_decide_eq_false hz; omega
      refine s_tells (Q := Q) (l := [lookM s (s.truck t) d ls]) rfl (X7.ex e8) k O (hs _ ?_) (Evl.el_lst (ea_two Evl.ev_c (Evl.ev_var rfl)) (by show 2 ≤ 100000; decide))
      rw [if_pos hz']
      unfold lookM
      rw [if_pos hz']
end
end Th
namespace Th
open PySem PySem.Spec PyProof.Rows L2
open TimHaul (Road Limit Truck Lot Trip Office before)
open Evl (Ex Ev EvL EvT EvA)
section
variable {PP : Program} {w : World} {K : PySem.W.Frag} {mg : Str → Option Value} {base : Heap}
def sp_Trip_init (K : PySem.W.Frag) : Sp := fun vs H Q _ => ∃ (p dx : Addr) (v0 v1 v2 v3 v4 : V), vs = [.ref p, v0, v1, v2, v3, v4] ∧ H p = some (.ins (He.ga K "Trip") dx []) ∧ Q .non (upd H p (.ins (He.ga K "Trip") dx [("truck", v0), ("day", v1), ("lots", v2), ("metres", v3), ("roads", v4), ("scaled", .int 0), ("called_off", .bl false)]))
theorem sc_Trip_init : FnScope (["self", "truck", "day", "lots", "metres", "roads"] : List Str) ["self", "truck", "day", "lots", "metres", "roads"] (defScope s_Trip_init) := ⟨rfl, rfl, rfl, by decide +kernel, rfl, by decide +kernel, by decide +kernel⟩
theorem c_Trip_init (T : Txt K mg) : Cal PP w K mg base 1 (He.ma K (He.ga K "Trip") "__init__") ["self", "truck", "day", "lots", "metres", "roads"] (sp_Trip_init K) := by
  refine Cal.of T.f_Trip_init sc_Trip_init (fun vs H Q E h => ?_) (fun _ _ _ _ _ _ us hl => match us, hl with | [_, _, _, _, _, _], _ => rfl) (fun cdv A outer s H vs Q E hr h => ?_)
  · obtain ⟨p, dx, v0, v1, v2, v3, v4, rfl, hp, k⟩ := h
    rfl
  · obtain ⟨p, dx, v0, v1, v2, v3, v4, rfl, hp, k⟩ := h
    refine ⟨_, (pss_cons (ps_fld (pv 0) (pv 1) rfl)
      (pss_cons (ps_fld (pv 0) (pv 2) rfl)
      (pss_cons (ps_fld (pv 0) (pv 3) rfl)
      (pss_cons (ps_fld (pv 0) (pv 4) rfl)
      (pss_cons (ps_fld (pv 0) (pv 5) rfl)
      (pss_cons (ps_fld (pv 0) pe_int rfl)
      (pss_one (ps_fld (pv 0) pe_bl rfl)))))))), ?_⟩
    refine ⟨_, rfl, _, rfl, p, _, dx, _, rfl, hp, T.c_Trip, T.a_Trip_truck, (by show 0 < 1000; decide), ?_⟩
    refine ⟨_, rfl, _, rfl, p, _, dx, _, rfl, upd_same, T.c_Trip, T.a_Trip_day, (by show 1 < 1000; decide), ?_⟩
    refine ⟨_, rfl, _, rfl, p, _, dx, _, rfl, upd_same, T.c_Trip, T.a_Trip_lots, (by show 2 < 1000; decide), ?_⟩
    refine ⟨_, rfl, _, rfl, p, _, dx, _, rfl, upd_same, T.c_Trip, T.a_Trip_metres, (by show 3 < 1000; decide), ?_⟩
    refine ⟨_, rfl, _, rfl, p, _, dx, _, rfl, upd_same, T.c_Trip, T.a_Trip_roads, (by show 4 < 1000; decide), ?_⟩
    refine ⟨_, rfl, p, _, dx, _, rfl, upd_same, T.c_Trip, T.a_Trip_scaled, (by show 5 < 1000; decide), ?_⟩
    refine ⟨_, rfl, p, _, dx, _, rfl, upd_same, T.c_Trip, T.a_Trip_called_off, (by show 6 < 1000; decide), ?_⟩
    show Q .non _
    rw [upd_upd, upd_upd, upd_upd, upd_upd, upd_upd, upd_upd, pTrip]
    exact k
end
end Th
namespace Th
open PySem PySem.Spec PyProof.Rows L2
open TimHaul (Road Limit Truck Lot Trip Office before)
open Evl (Ex Ev EvL EvT EvA)
section
variable {PP : Program} {w : World} {K : PySem.W.Frag} {mg : Str → Option Value} {base : Heap}
def sp_book (K : PySem.W.Frag) : Sp := fun vs H Q _ => ∃ (G : Hp) (A : OA) (s : Office) (rn ll : Addr) (t d : Nat) (ls : List Nat), vs = [.ref A.a, .ref rn, .ref ll] ∧ OffM K G H A s ∧ H rn = some (.lst (nv [t, d])) ∧ H ll = some (.lst (nv ls)) ∧ WrtihaSpec.right (.book t d ls) = true ∧ Done K (.book t d ls) G H A s Q
theorem trip_full (s : Office) (k : Nat) (t : Truck) (d : Nat) (l : List Nat) : (s.trip k t d l).full = (((s.legs t d l).getD 1 none).getD []).drop 2 := rfl
theorem trip_ok {s : Office} (w : Wf s) {t d : Nat} {ls : List Nat} (ht : t < s.trucks.length) (lok : LotsOk s ls) : TripOk s (s.trip t (s.truck t) d ls) := by
  obtain ⟨h1, h2, h3⟩ := lok
  have hd : ls.headD 0 ∈ ls := by
    cases ls with
    | nil => exact absurd rfl h1
    | cons x l => exact List.mem_cons_self
  have lo := w.lots _ (lot_mem (h3 _ hd))
  have e : (s.trip t (s.truck t) d ls).full = ((s.drive (s.lot (ls.headD 0)).place (s.lot (ls.headD 0)).mill d ((s.truck t).tare + s.kg ls)).getD []).drop 2 := rfl
  refine ⟨ht, h1, h2, h3, ?_, ?_, fun z => by cases z⟩
  · rw [e]
    cases q : s.drive (s.lot (ls.headD 0)).place (s.lot (ls.headD 0)).mill d ((s.truck t).tare + s.kg ls) with
    | none => exact Nat.zero_le _
    | some r => obtain ⟨_, _, _, fl, _⟩ := drive_facts w lo.1 q; exact fl
  · rw [e]
    cases q : s.drive (s.lot (ls.headD 0)).place (s.lot (ls.headD 0)).mill d ((s.truck t).tare + s.kg ls) with
    | none => intro k hk; cases hk
    | some r => obtain ⟨_, _, _, _, F⟩ := drive_facts w lo.1 q; exact fun k hk => roadsFor_lt (F k hk)
theorem sc_book : FnScope (["office", "numbers", "lots", "truck", "day", "against", "metres", "roads"] : List Str) ["office", "numbers", "lots"] (defScope s_book) := ⟨rfl, rfl, rfl, by decide +kernel, rfl, by decide +kernel, by decide +kernel⟩
theorem c_book (T : Txt K mg) (C_Office_has_lots : Cal PP w K mg base 1 (He.ma K (He.ga K "Office") "has_lots") ["self", "lots"] (sp_Office_has_lots K)) (C_Office_has_truck : Cal PP w K mg base 1 (He.ma K (He.ga K "Office") "has_truck") ["self", "truck"] (sp_Office_has_truck K)) (C_Office_is_free : Cal PP w K mg base 2 (He.ma K (He.ga K "Office") "is_free") ["self", "truck", "day"] (sp_Office_is_free K)) (C_are_left : Cal PP w K mg base 3 (He.ga K "are_left") ["office", "lots"] (sp_are_left K)) (C_look_at_load : Cal PP w K mg base 6 (He.ga K "look_at_load") ["ways", "truck", "day", "lots"] (sp_look_at_load K)) (C_Ways_init : Cal PP w K mg base 1 (He.ma K (He.ga K "Ways") "__init__") ["self", "office"] (sp_Ways_init K)) (C_Trip_init : Cal PP w K mg base 1 (He.ma K (He.ga K "Trip") "__init__") ["self", "truck", "day", "lots", "metres", "roads"] (sp_Trip_init K)) : Cal PP w K mg base 7 (He.ga K "book") ["office", "numbers", "lots"] (sp_book K) := by
  refine Cal.of T.f_book sc_book (fun vs H Q E h => ?_) (fun _ _ _ _ _ _ us hl => match us, hl with | [_, _, _], _ => rfl) (fun cdv A outer s H vs Q E hr h => ?_)
  · obtain ⟨G, A, s, rn, ll, t, d, ls, rfl, O, hn, hl, hg, k⟩ := h
    rfl
  · obtain ⟨G, A, s, rn, ll, t, d, ls, rfl, O, hn, hl, hg, k⟩ := h
    refine ⟨_, (pss_cons (ps_asg (pv 1) (pg_unl rfl (pgs_cons (pg_name (i := 3) sc_book.nd rfl (Or.inl rfl)) (pgs_cons (pg_name (i := 4) sc_book.nd rfl (Or.inl rfl)) pgs_nil))))
      (pss_cons (ps_if (PW.pt (pw_or (pt_not (pt_val (pe_cmeth (pv 0) T.c_Office T.m_Office_has_truck C_Office_has_truck (hr.mono (by decide)) (pa_cons (pv 3) pa_nil)))) (pw_or1 (pt_not (pt_val (pe_cmeth (pv 0) T.c_Office T.m_Office_has_lots C_Office_has_lots (hr.mono (by decide)) (pa_cons (pv 2) pa_nil))))))) (pss_one (ps_ret (pe_lst (pa_cons (pe_gint T.i_NOT_THERE (by rfl)) pa_nil)))) pss_nil)
      (pss_cons (ps_if (PW.pt (pw_or (pt_not (pt_val (pe_cal C_are_left (hr.mono (by decide)) (by rfl) T.g_are_left (pa_cons (pv 0) (pa_cons (pv 2) pa_nil))))) (pw_or1 (pt_not (pt_val (pe_cmeth (pv 0) T.c_Office T.m_Office_is_free C_Office_is_free (hr.mono (by decide)) (pa_cons (pv 3) (pa_cons (pv 4) pa_nil)))))))) (pss_one (ps_ret (pe_lst (pa_cons (pe_gint T.i_USED_UP (by rfl)) pa_nil)))) pss_nil)
      (pss_cons (ps_asg (pe_cal C_look_at_load (hr.mono (by decide)) (by rfl) T.g_look_at_load (pa_cons (pe_cmake T.k_Ways C_Ways_init (hr.mono (by decide)) (by rfl) T.g_Ways (pa_cons (pv 0) pa_nil)) (pa_cons (pv 3) (pa_cons (pv 4) (pa_cons (pv 2) pa_nil))))) (pg_tup rfl (pgs_cons (pg_name (i := 5) sc_book.nd rfl (Or.inl rfl)) (pgs_cons (pg_name (i := 6) sc_book.nd rfl (Or.inl rfl)) (pgs_cons (pg_name (i := 7) sc_book.nd rfl (Or.inl rfl)) pgs_nil)))))
      (pss_cons (ps_if (pt_cmpR op_gt (pv 5) pe_int (nomark _)) (pss_one (ps_ret (pe_lst (pa_cons (pe_gint T.i_CANNOT_BE (by rfl)) pa_nil)))) pss_nil)
      (pss_cons (ps_if (pt_cmpR op_eq (pe_callB cr_len (by rfl) T.n_len (by decide +kernel) (pa_cons (pe_fld (pv 0) rfl) pa_nil)) (pe_gint T.i_MOST_TRIPS (by rfl)) (nomark _)) (pss_one (ps_ret (pe_lst (pa_cons (pe_gint T.i_FULL (by rfl)) pa_nil)))) pss_nil)
      (pss_cons (ps_expr (pe_bm PySem.F.plainAttrs_list PySem.F.slot_list_append PySem.F.type_list_append mt_append (pe_fld (pv 0) rfl) (pa_cons (pe_cmake T.k_Trip C_Trip_init (hr.mono (by decide)) (by rfl) T.g_Trip (pa_cons (pv 3) (pa_cons (pv 4) (pa_cons (pe_callTy cr_list (by rfl) T.n_list (by decide +kernel) (pa_cons (pv 2) pa_nil)) (pa_cons (pv 6) (pa_cons (pv 7) pa_nil)))))) pa_nil)))
      (pss_one (ps_ret (pe_lst (pa_cons pe_int (pa_cons (pe_op op_sub (pe_callB cr_len (by rfl) T.n_len (by decide +kernel) (pa_cons (pe_fld (pv 0) rfl) pa_nil)) pe_int) (pa_cons (pv 6) pa_nil))))))))))))), ?_⟩
    obtain ⟨lne, l24⟩ := isLots_of (Bool.and_eq_true_iff.mp (Bool.and_eq_true_iff.mp hg).2).2
    refine ⟨_, rfl, rn, _, rfl, SqL.of hn, rfl, _, _, rfl, _, _, rfl, rfl, ?_⟩
    refine Evl.q_when (b := !decide (t < s.trucks.length) || !(ls.all fun i => decide (i < s.lots.length))) (Evl.et_or (Evl.et_not (Evl.et_B (ev_has_truck O.offR (Evl.ev_var rfl) (Evl.ev_var rfl)))) fun _ => Evl.et_not (Evl.et_B (ev_has_lots O.offR (Evl.ev_var rfl) (Evl.ev_var rfl) hl (by omega)))) (fun hc H1 e1 => ?_) (fun hc H1 e1 => ?_)
    · refine s_no rfl (exD_of e1) k O ?_
      show (if s.trucks.length ≤ t ∨ ls.any (fun (i : Nat) => decide (s.lots.length ≤ i)) = true then _ else _) = _
      rw [if_pos]
      rw [lots_there, Bool.not_not] at hc
      rcases Bool.or_eq_true_iff.mp hc with z | z
      · left; simp at z; omega
      · right; exact z
    have hp : ¬ (s.trucks.length ≤ t ∨ ls.any (fun (i : Nat) => decide (s.lots.length ≤ i)) = true) := by
      rw [lots_there, Bool.not_not] at hc
      obtain ⟨z1, z2⟩ := Bool.or_eq_false_iff.mp hc
      rintro (y | y)
      · simp at z1; omega
      · rw [y] at z2; cases z2
    have ht : t < s.trucks.length := by omega
    have hall : ∀ i ∈ ls, i < s.lots.length := fun i m => by
      have z := (Bool.or_eq_false_iff.mp hc).2
      have y : (ls.all fun i => decide (i < s.lots.length)) = true := by simpa using z
      exact of_decide_eq_true (List.all_eq_true.mp y i m)
    have O1 := O.query (exD_of e1)
    refine Evl.q_when (b := !leftOk s ls || !!s.busy t d) (Evl.et_or (Evl.et_not (Evl.et_B (ev_fn (vs := [.ref A.a, .ref ll]) (v := .bl (leftOk s ls)) (ea_two (Evl.ev_var rfl) (Evl.ev_var rfl)) fun H2 e2 Q2 q2 => ⟨A, s, ll, ls, rfl, O1.offR.ex e2, O.wf, (e1.trans e2) _ _ hl, by omega, q2⟩))) fun _ => Evl.et_not (Evl.et_B (ev_meth (vs' := [.int (t : Nat), .int (d : Nat)]) (z := .bl (!s.busy t d)) (Evl.ev_var rfl) O1.offR.obj (lOffice_is_free _ _) (ea_two (Evl.ev_var rfl) (Evl.ev_var rfl)) fun H6 e6 Q6 q6 => ⟨A, s, t, d, rfl, O1.offR.ex e6, O.wf.p24, q6⟩))) (fun hc2 H2 e2 => ?_) (fun hc2 H2 e2 => ?_)
    · refine s_no rfl (exD_of (e1.trans e2)) k O ?_
      show (if s.trucks.length ≤ t ∨ ls.any (fun (i : Nat) => decide (s.lots.length ≤ i)) = true then _ else if decide ls.Nodup = false ∨ (ls.any s.goes = true ∨ s.busy t d = true) then _ else _) = _
      rw [if_neg hp, if_pos]
      rcases Bool.or_eq_true_iff.mp hc2 with z | z
      · by_cases y : decide ls.Nodup = false ∨ ls.any s.goes = true
        · rcases y with y | y
          · exact .inl y
          · exact .inr (.inl y)
        · rw [(leftOk_eq hall).mpr y] at z
          cases z
      · exact .inr (.inr (by simpa using z))
    have hok : ¬ (decide ls.Nodup = false ∨ (ls.any s.goes = true ∨ s.busy t d = true)) := by
      obtain ⟨z1, z2⟩ := Bool.or_eq_false_iff.mp hc2
      have y := (leftOk_eq hall).mp (by simpa using z1)
      rintro (x | x | x)
      · exact y (.inl x)
      · exact y (.inr x)
      · rw [x] at z2; cases z2
    have e12 := e1.trans e2
    have lok : LotsOk s ls := ⟨lne, l24, hall⟩
    refine q_asgG (k_callK (k_cons (ways_made (O.offR.ex e12) O.wf (Evl.ev_var rfl) fun W H3 e3 wa => k_cons (k_ev (Evl.ev_var rfl) fun H4 e4 => k_cons (k_ev (Evl.ev_var rfl) fun H5 e5 => k_cons (k_ev (Evl.ev_var rfl) fun H6 e6 => k_nil ?_))))))
    have e36 := (e4.trans e5).trans e6
    have e16 := (e12.trans e3).trans e36
    refine ⟨W, A, s, 0, t, d, ll, ls, rfl, wa.ex e36, by decide, ht, lok, e16 _ _ hl, fun p l H7 nl x7 wa7 hp7 hl7 => ?_⟩
    have X7 : ExD H H7 := (exD_of e16).trans x7
    have nlH : NewD H l := nl.back (exD_of e16)
    refine ⟨p, _, rfl, SqT.of hp7, rfl, _, _, rfl, _, _, rfl, _, _, rfl, rfl, ?_⟩
    refine Evl.q_when (b := decide (0 < s.against (s.truck t) d ls)) (Evl.et_is (Evl.et_test (Evl.ev_op (Evl.ev_var rfl) Evl.ev_c Evl.rv_I0)) (decide_eq_decide.mpr (by omega))) (fun hz H8 e8 => ?_) (fun hz H8 e8 => ?_)
    · have hz' := of_decide_eq_true hz
      refine s_no rfl (X7.ex e8) k O ?_
      show (if s.trucks.length ≤ t ∨ ls.any (fun (i : Nat) => decide (s.lots.length ≤ i)) = true then _ else if decide ls.Nodup = false ∨ (ls.any s.goes = true ∨ s.busy t d = true) then _ else if s.against (s.truck t) d ls ≠ 0 then _ else _) = _
      rw [if_neg hp, if_neg hok, if_pos (by omega)]
    have hz' : s.against (s.truck t) d ls = 0 := by have := of_decide_eq_false hz; omega
    have X8 := X7.ex e8
    have O8 := O.query X8
    refine Evl.q_when (b := decide (s.trips.length = 24)) (Evl.et_is (Evl.et_test (ev_eqI (evO_ntrips T O8.offR (Evl.ev_var rfl)) Evl.ev_c)) (decide_eq_decide.mpr (by omega))) (fun hf H9 e9 => ?_) (fun hf H9 e9 => ?_)
    · refine s_no rfl (X8.ex e9) k O ?_
      show (if s.trucks.length ≤ t ∨ ls.any (fun (i : Nat) => decide (s.lots.length ≤ i)) = true then _ else if decide ls.Nodup = false ∨ (ls.any s.goes = true ∨ s.busy t d = true) then _ else if s.against (s.truck t) d ls ≠ 0 then _ else if TimHaul.TRIPS ≤ s.trips.length then _ else _) = _
      rw [if_neg hp, if_neg hok, if_neg (by omega), if_pos (by have := of_decide_eq_true hf; show 24 ≤ _; omega)]
    have hl24 : s.trips.length < 24 := by
      have := of_decide_eq_false hf
      have := O.wf.p24
      omega
    have X9 := X8.ex e9
    have O9 := O.query X9
    have hl9 := (e8.trans e9) _ _ hl7
    have hll9 := X9 _ _ hl rfl
    have eM : lookM s (s.truck t) d ls = s.metres (s.truck t) d ls := if_pos hz'
    have eR : lookR s (s.truck t) d ls = (s.trip t (s.truck t) d ls).full := if_pos hz'
    rw [eR] at hl9
    rw [eM]
    -- what was there ahead of the booking, but the new row
    have hlG : G l = none := by
      cases q : G l with
      | none => rfl
      | some o => exact absurd rfl (nlH l o (O.ex _ _ q) (O.nod _ _ q))
    have hlM : l ∉ muts A := fun m => by
      cases q : H l with
      | none => exact muts_some O.off m q
      | some o =>
        cases hd : isD o with
        | false => exact nlH l o q hd rfl
        | true =>
          have z : l = A.lr ∨ l = A.ll ∨ l = A.lt ∨ l = A.lo ∨ l = A.lp ∨ l ∈ A.rp := by simpa [muts] using m
          rcases z with z | z | z | z | z | z
          · rw [z, O.off.lr] at q; cases q; cases hd
          · rw [z, O.off.ll] at q; cases q; cases hd
          · rw [z, O.off.lt] at q; cases q; cases hd
          · rw [z, O.off.lo] at q; cases q; cases hd
          · rw [z, O.off.lp] at q; cases q; cases hd
          · obtain ⟨i, hi⟩ := List.getElem?_of_mem z
            have hll : i < s.trips.length := by rw [← O.off.trips.1]; exact (List.getElem?_eq_some_iff.mp hi).1
            obtain ⟨b, hb, q'⟩ := O.off.trips.2 i _ (List.getElem?_eq_getElem hll)
            rw [hi] at hb
            cases hb
            cases q2 : s.trips[i] with
            | none => rw [q2] at q'; obtain ⟨_, _, _, _, q'⟩ := q'; rw [q] at q'; cases q'; cases hd
            | some t => rw [q2] at q'; obtain ⟨_, _, _, q', _⟩ := q'; rw [q] at q'; cases q'; cases hd
    have XL : ExD H (del H9 l) := fun a o ha hd => by
      rw [del_ne (Ne.symm (nlH a o ha hd))]
      exact X9 a o ha hd
    have OL := O9.less hlG hlM
    have kL := k.ex XL
    refine q_appK O9.off.lp (evO_trips T O9.offR (Evl.ev_var rfl)) fun Ha ea => ?_
    refine k_mk (k_cons (k_ev (Evl.ev_var rfl) fun Hb eb => k_cons (k_ev (Evl.ev_var rfl) fun Hc ec => k_cons (k_evL (el_listOf (Evl.ev_var rfl) (SqL.of (((ea.trans eb).trans ec) _ _ hll9))) fun la Hd nla ed hla => k_cons (k_ev (Evl.ev_var rfl) fun Hx ee => k_cons (k_ev (Evl.ev_var rfl) fun Hf ef => k_nil ?_))))))
    have e9c := (ea.trans eb).trans ec
    have edf := (ed.trans ee).trans ef
    have e9f := e9c.trans edf
    refine mk_go (fs := fTrip (s.trip t (s.truck t) d ls) la l false) (fun p dx H Q E h1 h2 => ⟨p, dx, _, _, _, _, _, rfl, h1, h2⟩) fun pn Hg npn eg hpn => ?_
    have e9g := e9f.trans eg
    have nlp : H9 pn = none := Evl.fresh_back e9f npn
    have nla9 : H9 la = none := Evl.fresh_back e9c nla
    have wf : Wf { s with trips := s.trips ++ [some (s.trip t (s.truck t) d ls)] } := O.wf.trip (trip_ok O.wf ht lok) hl24
    obtain ⟨G', st, O6⟩ := OL.addTrip (H2 := Hg) ((del_ex _ _).trans e9g) (del_none nlp) (la := la) (ra := l) hpn (((ee.trans ef).trans eg) _ _ hla) (e9g _ _ hl9) (del_none nla9) del_same wf
    refine app_go (e9g _ _ O9.off.lp) (by rw [List.length_map, O9.off.trips.1]; omega) ?_
    refine s_done (Q := Q) (l := [s.trips.length, s.metres (s.truck t) d ls]) rfl kL st O6 (dom_upd ((del_ex _ _).trans e9g)) ?_ ?_
    · show (if s.trucks.length ≤ t ∨ ls.any (fun (i : Nat) => decide (s.lots.length ≤ i)) = true then _ else if decide ls.Nodup = false ∨ (ls.any s.goes = true ∨ s.busy t d = true) then _ else if s.against (s.truck t) d ls ≠ 0 then _ else if TimHaul.TRIPS ≤ s.trips.length then _ else _) = _
      rw [if_neg hp, if_neg hok, if_neg (by omega), if_neg (by show ¬ 24 ≤ _; omega)]
    · refine Evl.el_lst (Evl.ea_cons Evl.ev_c (ea_two (Evl.ev_is (Evl.ev_op (evO_ntrips T O6.offR (Evl.ev_var rfl)) Evl.ev_c Evl.rv_I0) (congrArg V.int ?_)) (Evl.ev_var rfl))) (by show 3 ≤ 100000; decide)
      show (((s.trips ++ [_]).length : Nat) : Int) - 1 = _
      rw [List.length_append]
      show ((s.trips.length + 1 : Nat) : Int) - 1 = _
      omega
end
end Th
namespace Th
open PySem PySem.Spec PyProof.Rows L2
open TimHaul (Road Limit Truck Lot Trip Office before)
open Evl (Ex Ev EvL EvT EvA)
section
variable {PP : Program} {w : World} {K : PySem.W.Frag} {mg : Str → Option Value} {base : Heap}
def pickI (zs : List Int) (m : Nat) : List Int := (zs.zipIdx.filter fun x => m.testBit x.2).map Prod.fst
theorem pickV_int (zs : List Int) (m : Nat) : pickV (zs.map V.int) m = (pickI zs m).map V.int := by
  unfold pickV pickI
  rw [List.zipIdx_map, List.filter_map, List.map_map, List.map_map]
  rfl
def gain (zs : List Int) (os : List (Nat × Nat)) : Int := os.foldl (fun (g : Int) (y : Nat × Nat) => max g ((pickI zs y.1).sum - (y.2 : Int))) 0
def sp_most_gain (K : PySem.W.Frag) : Sp := fun vs H Q _ => ∃ (la pa : Addr) (ls : List Nat) (os : List (Nat × Nat)) (lv : List V) (zs : List Int), vs = [.ref la, .ref pa] ∧ H la = some (.lst lv) ∧ AllV (LoadAt ls H) lv os ∧ H pa = some (.lst (zs.map V.int)) ∧ zs.length ≤ 40 ∧
  ∀ H', Ex H H' → Q (.int (gain zs os)) H'
theorem sc_most_gain : FnScope (["loads", "prices", "most", "choice", "lots", "metres"] : List Str) ["loads", "prices"] (defScope s_most_gain) := ⟨rfl, rfl, rfl, by decide +kernel, rfl, by decide +kernel, by decide +kernel⟩
theorem c_most_gain (T : Txt K mg) (C_chosen : Cal PP w K mg base 1 (He.ga K "chosen") ["things", "choice"] (sp_chosen K)) : Cal PP w K mg base 2 (He.ga K "most_gain") ["loads", "prices"] (sp_most_gain K) := by
  refine Cal.of T.f_most_gain sc_most_gain (fun vs H Q E h => ?_) (fun _ _ _ _ _ _ us hl => match us, hl with | [_, _], _ => rfl) (fun cdv A outer s H vs Q E hr h => ?_)
  · obtain ⟨la, pa, ls, os, lv, zs, rfl, hl, hL, hp, hz, k⟩ := h
    rfl
  · obtain ⟨la, pa, ls, os, lv, zs, rfl, hl, hL, hp, hz, k⟩ := h
    refine ⟨_, (pss_cons (ps_set (i := 2) sc_most_gain.nd rfl (Or.inl rfl) pe_int)
      (pss_cons (ps_for PassesOwn.never rfl (pi_list (pv 0)) (pg_tup rfl (pgs_cons (pg_name (i := 3) sc_most_gain.nd rfl (Or.inl rfl)) (pgs_cons (pg_name (i := 4) sc_most_gain.nd rfl (Or.inl rfl)) (pgs_cons (pg_name (i := 5) sc_most_gain.nd rfl (Or.inl rfl)) pgs_nil))))
      (pss_one (ps_set (i := 2) sc_most_gain.nd rfl (Or.inl rfl) (pe_callB (cr_max2 rfl) (by rfl) T.n_max (by decide +kernel) (pa_cons (pv 2) (pa_cons (pe_op op_sub (pe_callB (cr_sum rfl) (by rfl) T.n_sum (by decide +kernel) (pa_cons (pe_cal C_chosen (hr.mono (by decide)) (by rfl) T.g_chosen (pa_cons (pv 1) (pa_cons (pv 3) pa_nil))) pa_nil)) (pv 5)) pa_nil))))))
      (pss_one (ps_ret (pv 2))))), ?_⟩
    refine Evl.q_asg Evl.ev_c fun H1 e1 => ?_
    refine q_forK ⟨_, rfl, la, rfl, ⟨_, SqL.of (e1 _ _ hl)⟩, ?_⟩
    refine loop_it (walk_list (K := K) (a := la) (xs := lv)) (fun i σ H' => (∃ v3 v4 v5, σ = [some (.ref la), some (.ref pa), some (.int (gain zs (os.take i))), v3, v4, v5]) ∧ Ex H H') ?_ (fun i σ H' _ p => SqL.of (p.2 _ _ hl)) (fun i v σ H0 H' hi p yy => ?_) (fun σ H' p => ?_)
    · exact ⟨⟨none, none, none, rfl⟩, e1⟩
    · obtain ⟨⟨v3, v4, v5, rfl⟩, ex⟩ := p
      obtain ⟨rfl, hv⟩ := yy
      have hi' : i < os.length := by rw [← hL.1]; exact hi
      obtain ⟨v', hv', lo⟩ := hL.2 i _ (List.getElem?_eq_getElem hi')
      have evv : v = v' := Option.some.inj (hv.symm.trans hv')
      subst evv
      have etk : os.take (i + 1) = os.take i ++ [os[i]] := take_snoc (List.getElem?_eq_getElem hi')
      generalize os[i] = y at lo etk
      obtain ⟨o, c⟩ := y
      obtain ⟨q, l, rfl, hq, hl'⟩ := lo
      refine ⟨q, _, rfl, SqT.of (ex _ _ hq), rfl, _, _, rfl, _, _, rfl, _, _, rfl, rfl, ?_⟩
      have es : EvL (tCall (sp_chosen K) [] E0 (tCons (tVar 1) (tCons (tVar 3) tNil))) [some (.ref la), some (.ref pa), some (.int (gain zs (os.take i))), some (.int (o : Nat)), some (.ref l), some (.int (c : Nat))] H' ((pickI zs o).map V.int) := el_fn (vs := [.ref pa, .int (o : Nat)]) (ea_two (Evl.ev_var rfl) (Evl.ev_var rfl)) fun H4 e4 Q4 q4 => ⟨pa, zs.map V.int, o, rfl, SqL.of (e4 _ _ (ex _ _ hp)), by rw [List.length_map]; exact hz, by rw [pickV_int]; exact q4⟩
      have eg : gain zs (os.take (i + 1)) = max (gain zs (os.take i)) ((pickI zs o).sum - (c : Int)) := by
        rw [etk]
        unfold gain
        rw [List.foldl_append]
        rfl
      rw [eg]
      exact Evl.s_asg (ev_max2 (Evl.ev_var rfl) (Evl.ev_op (ev_sumN es) (Evl.ev_var rfl) Evl.rv_I0)) fun H4 e4 => ⟨⟨_, _, _, rfl⟩, ex.trans e4⟩
    · obtain ⟨⟨v3, v4, v5, rfl⟩, ex⟩ := p
      rw [hL.1, List.take_length]
      exact Evl.s_ret (Evl.ev_var rfl) fun H4 e4 => k H4 (ex.trans e4)
end
end Th
namespace Th
open PySem PySem.Spec PyProof.Rows L2
open TimHaul (Road Limit Truck Lot Trip Office before)
open Evl (Ex Ev EvL EvT EvA)
section
variable {PP : Program} {w : World} {K : PySem.W.Frag} {mg : Str → Option Value} {base : Heap}
theorem worth_go : ∀ (zs : List Int) (m n : Nat) (f : Nat → Int), (∀ i, i < zs.length → f i = if m.testBit (n + i) = true then zs.getD i 0 else 0) → (((zs.zipIdx n).filter fun x => m.testBit x.2).map Prod.fst).sum = ((List.range zs.length).map f).foldr (fun (a b : Int) => a + b) 0
  | [], _, _, _, _ => rfl
  | z :: zs, m, n, f, h => by
    have ih := worth_go zs m (n + 1) (fun i => f (i + 1)) fun i hi => by
      have := h (i + 1) (by simp; omega)
      rw [show n + 1 + i = n + (i + 1) by omega]
      rw [this]
      rfl
    have h0 := h 0 (by simp)
    rw [List.length_cons, List.range_succ_eq_map, List.map_cons, List.map_map, List.foldr_cons]
    show _ = f 0 + ((List.range zs.length).map fun i => f (i + 1)).foldr _ 0
    rw [← ih, List.zipIdx_cons, List.filter_cons, h0]
    cases q : m.testBit n with
    | true => simp [q]
    | false => simp [q]
theorem worth_eq (zs : List Int) (m : Nat) : (pickI zs m).sum = ((List.range zs.length).map fun i => if m.testBit i = true then zs.getD i 0 else 0).foldr (fun (a b : Int) => a + b) 0 :=
  worth_go zs m 0 _ fun i _ => by rw [Nat.zero_add]
theorem foldr_sum : ∀ l : List Int, l.foldr (fun (a b : Int) => a + b) 0 = l.sum
  | [] => rfl
  | x :: l => by rw [List.foldr_cons, foldr_sum l, List.sum_cons]
theorem bound_eq (s : Office) (d e : Nat) (zs : List Int) (h : zs.length = s.left.length) : s.bound d e zs = zs.sum - ((s.slots d e).map fun x => gain zs (s.options s.left x)).sum := by
  unfold TimHaul.Office.bound
  dsimp only
  rw [foldr_sum, foldr_sum]
  congr 2
  refine List.map_congr_left fun x _ => ?_
  unfold gain
  congr 1
  funext g y
  rw [worth_eq, h]
def sp_tell_bound (K : PySem.W.Frag) : Sp := fun vs H Q _ => ∃ (G : Hp) (A : OA) (s : Office) (rn pa : Addr) (d e : Nat) (zs : List Int), vs = [.ref A.a, .ref rn, .ref pa] ∧ OffM K G H A s ∧ H rn = some (.lst (nv [d, e])) ∧ H pa = some (.lst (zs.map V.int)) ∧ WrtihaSpec.right (.bound d e zs) = true ∧ Done K (.bound d e zs) G H A s Q
theorem sc_tell_bound : FnScope (["office", "numbers", "prices", "first", "last", "left", "ways", "told", "day", "truck"] : List Str) ["office", "numbers", "prices"] (defScope s_tell_bound) := ⟨rfl, rfl, rfl, by decide +kernel, rfl, by decide +kernel, by decide +kernel⟩
theorem c_tell_bound (T : Txt K mg) (C_Office_lots_left : Cal PP w K mg base 2 (He.ma K (He.ga K "Office") "lots_left") ["self"] (sp_Office_lots_left K)) (C_Ways_init : Cal PP w K mg base 1 (He.ma K (He.ga K "Ways") "__init__") ["self", "office"] (sp_Ways_init K)) (C_free_slots : Cal PP w K mg base 3 (He.ga K "free_slots") ["office", "first", "last"] (sp_free_slots K)) (C_most_gain : Cal PP w K mg base 2 (He.ga K "most_gain") ["loads", "prices"] (sp_most_gain K)) (C_loads_of : Cal PP w K mg base 7 (He.ga K "loads_of") ["ways", "day", "truck", "left"] (sp_loads_of K)) : Cal PP w K mg base 8 (He.ga K "tell_bound") ["office", "numbers", "prices"] (sp_tell_bound K) := by
  refine Cal.of T.f_tell_bound sc_tell_bound (fun vs H Q E h => ?_) (fun _ _ _ _ _ _ us hl => match us, hl with | [_, _, _], _ => rfl) (fun cdv A outer s H vs Q E hr h => ?_)
  · obtain ⟨G, A, s, rn, pa, d, e, zs, rfl, O, hn, hpa, hg, k⟩ := h
    rfl
  · obtain ⟨G, A, s, rn, pa, d, e, zs, rfl, O, hn, hpa, hg, k⟩ := h
    refine ⟨_, (pss_cons (ps_asg (pv 1) (pg_unl rfl (pgs_cons (pg_name (i := 3) sc_tell_bound.nd rfl (Or.inl rfl)) (pgs_cons (pg_name (i := 4) sc_tell_bound.nd rfl (Or.inl rfl)) pgs_nil))))
      (pss_cons (ps_set (i := 5) sc_tell_bound.nd rfl (Or.inl rfl) (pe_cmeth0 (pv 0) T.c_Office T.m_Office_lots_left C_Office_lots_left (hr.mono (by decide))))
      (pss_cons (ps_if (pt_cmpR op_ne (pe_callB cr_len (by rfl) T.n_len (by decide +kernel) (pa_cons (pv 2) pa_nil)) (pe_callB cr_len (by rfl) T.n_len (by decide +kernel) (pa_cons (pv 5) pa_nil)) (nomark _)) (pss_one (ps_ret (pe_lst (pa_cons (pe_gint T.i_CANNOT_BE (by rfl)) pa_nil)))) pss_nil)
      (pss_cons (ps_set (i := 6) sc_tell_bound.nd rfl (Or.inl rfl) (pe_cmake T.k_Ways C_Ways_init (hr.mono (by decide)) (by rfl) T.g_Ways (pa_cons (pv 0) pa_nil)))
      (pss_cons (ps_set (i := 7) sc_tell_bound.nd rfl (Or.inl rfl) (pe_callB (cr_sum rfl) (by rfl) T.n_sum (by decide +kernel) (pa_cons (pv 2) pa_nil)))
      (pss_cons (ps_for PassesOwn.never rfl (pi_list (pe_cal C_free_slots (hr.mono (by decide)) (by rfl) T.g_free_slots (pa_cons (pv 0) (pa_cons (pv 3) (pa_cons (pv 4) pa_nil))))) (pg_tup rfl (pgs_cons (pg_name (i := 8) sc_tell_bound.nd rfl (Or.inl rfl)) (pgs_cons (pg_name (i := 9) sc_tell_bound.nd rfl (Or.inl rfl)) pgs_nil)))
      (pss_one (ps_aug (i := 7) sc_tell_bound.nd rfl (Or.inl rfl) (pe_cal C_most_gain (hr.mono (by decide)) (by rfl) T.g_most_gain (pa_cons (pe_cal C_loads_of (hr.mono (by decide)) (by rfl) T.g_loads_of (pa_cons (pv 6) (pa_cons (pv 8) (pa_cons (pv 9) (pa_cons (pv 5) pa_nil))))) (pa_cons (pv 2) pa_nil))) ip_sub)))
      (pss_one (ps_ret (pe_lst (pa_cons pe_int (pa_cons (pv 7) pa_nil))))))))))), ?_⟩
    obtain ⟨hg1, hg2⟩ := Bool.and_eq_true_iff.mp hg
    obtain ⟨d1, d2, d3, d4⟩ := span_of hg1
    have z8 : zs.length ≤ 8 := of_decide_eq_true (Bool.and_eq_true_iff.mp hg2).1
    refine ⟨_, rfl, rn, _, rfl, SqL.of hn, rfl, _, _, rfl, _, _, rfl, rfl, ?_⟩
    refine Evl.q_asgL (el_left O.offR O.wf (Evl.ev_var rfl)) fun pl H1 np e1 h1 => ?_
    refine Evl.q_when (b := !decide (zs.length = s.left.length)) (Evl.et_is (Evl.et_test (ev_neI (ev_lenL (Evl.ev_var rfl) (SqL.of (e1 _ _ hpa))) (ev_lenL (Evl.ev_var rfl) (SqL.of h1)))) (congrArg not (decide_eq_decide.mpr (by rw [nv_len, List.length_map]; omega)))) (fun hc H2 e2 => ?_) (fun hc H2 e2 => ?_)
    · refine s_no rfl (exD_of (e1.trans e2)) k O ?_
      show (s, if zs.length ≠ s.left.length then _ else _) = _
      rw [if_pos (by simpa using hc)]
    have hz : zs.length = s.left.length := by simpa using hc
    have hs : WrtihaSpec.does s (.bound d e zs) = (s, ⟨0, [s.bound d e zs]⟩) := by
      show (s, if zs.length ≠ s.left.length then _ else _) = _
      rw [if_neg (fun z => z hz)]
    have e12 := e1.trans e2
    refine q_asgK (ways_made (O.offR.ex e12) O.wf (Evl.ev_var rfl) fun W H3 e3 wa => ?_)
    have e13 := e12.trans e3
    refine Evl.q_asg (ev_sumL (ns := zs) (Evl.ev_var rfl) (SqL.of (e13 _ _ hpa))) fun H4 e4 => ?_
    have e14 := e13.trans e4
    have wa4 := wa.ex e4
    have ef : EvA (tCons (tVar 0) (tCons (tVar 3) (tCons (tVar 4) tNil))) [some (.ref A.a), some (.ref rn), some (.ref pa), some (.int (d : Int)), some (.int (e : Int)), some (.ref pl), some (.ref W.w), some (.int zs.sum), none, none] H4 [.ref A.a, .int (d : Int), .int (e : Int)] := Evl.ea_cons (Evl.ev_var rfl) (ea_two (Evl.ev_var rfl) (Evl.ev_var rfl))
    refine q_forK (k_call ef fun H5 e5 => ?_)
    refine ⟨A, s, d, e, rfl, wa4.off.ex e5, O.wf, d1, d2, d4, fun ps H6 sv nps e6 h6 hS => ⟨ps, rfl, ⟨sv, SqL.of h6⟩, ?_⟩⟩
    have e16 := (e14.trans e5).trans e6
    have hpa6 := e16 _ _ hpa
    have hpl6 := ((((e2.trans e3).trans e4).trans e5).trans e6) _ _ h1
    have sl := slots_le (s := s) (d := d) O.wf.t3 d4
    refine loop_it (walk_list (K := K) (a := ps) (xs := sv)) (fun i σ H' => (∃ v8 v9, σ = [some (.ref A.a), some (.ref rn), some (.ref pa), some (.int (d : Int)), some (.int (e : Int)), some (.ref pl), some (.ref W.w), some (.int (zs.sum - (((s.slots d e).take i).map fun x => gain zs (s.options s.left x)).sum)), v8, v9]) ∧ ExD H6 H' ∧ WaysAt K H' W A s (2000 * i)) ?_ (fun i σ H' _ p => SqL.of (p.2.1 _ _ h6 rfl)) (fun i v σ H0 H' hi p yy => ?_) (fun σ H' p => ?_)
    · refine ⟨⟨none, none, ?_⟩, ExD.refl _, wa4.ex (e5.trans e6)⟩
      have z : zs.sum - (((s.slots d e).take 0).map fun x => gain zs (s.options s.left x)).sum = zs.sum := by
        show zs.sum - 0 = _
        omega
      rw [z]
      rfl
    · obtain ⟨⟨v8, v9, rfl⟩, ex, wa'⟩ := p
      obtain ⟨rfl, hv⟩ := yy
      have hi' : i < (s.slots d e).length := by rw [← hS.1]; exact hi
      obtain ⟨v', hv', q1, rfl, hq1⟩ := hS.2 i _ (List.getElem?_eq_getElem hi')
      have evv : v = .ref q1 := Option.some.inj (hv.symm.trans hv')
      subst evv
      have etk : (s.slots d e).take (i + 1) = (s.slots d e).take i ++ [(s.slots d e)[i]] := take_snoc (List.getElem?_eq_getElem hi')
      obtain ⟨m1, m2, m3⟩ := slots_mem (List.getElem_mem hi')
      generalize (s.slots d e)[i] = x at hq1 etk m1 m2 m3
      obtain ⟨dx, tx⟩ := x
      have z : zs.sum - (((s.slots d e).take (i + 1)).map fun x => gain zs (s.options s.left x)).sum = zs.sum - (((s.slots d e).take i).map fun x => gain zs (s.options s.left x)).sum - gain zs (s.options s.left (dx, tx)) := by
        rw [etk, List.map_append, List.sum_append]
        have : ([(dx, tx)].map fun x => gain zs (s.options s.left x)).sum = gain zs (s.options s.left (dx, tx)) := by simp
        rw [this]
        omega
      rw [z]
      refine ⟨q1, _, rfl, SqT.of (ex _ _ hq1 rfl), rfl, _, _, rfl, _, _, rfl, rfl, ?_⟩
      refine ⟨_, rfl, k_callK (k_cons (k_call (vs := [.ref W.w, .int (dx : Nat), .int (tx : Nat), .ref pl]) (Evl.ea_cons (Evl.ev_var rfl) (Evl.ea_cons (Evl.ev_var rfl) (ea_two (Evl.ev_var rfl) (Evl.ev_var rfl)))) fun H7 e7 => ?_))⟩
      refine ⟨W, A, s, _, dx, tx, pl, s.left, rfl, wa'.ex e7, by omega, m3, by omega, fun j m => left_lt m, e7 _ _ (ex _ _ hpl6 rfl), fun la H8 lv nla x8 wa8 hla hL => ?_⟩
      refine k_cons (k_ev (Evl.ev_var rfl) fun H9 e9 => k_nil ?_)
      have x9 : ExD H6 H9 := ((ex.ex e7).trans x8).ex e9
      exact ⟨la, pa, s.left, s.options s.left (dx, tx), lv, zs, rfl, e9 _ _ hla, hL.mono fun v o r => r.ex e9, x9 _ _ hpa6 rfl, by omega, fun Ha ea => ⟨_, _, rfl, rfl, ⟨_, _, rfl⟩, x9.ex ea, (wa8.ex (e9.trans ea)).le (by omega)⟩⟩
    · obtain ⟨⟨v8, v9, rfl⟩, ex, wa'⟩ := p
      rw [hS.1, List.take_length, ← bound_eq s d e zs hz]
      refine Evl.s_retL (Evl.el_lst (ea_two Evl.ev_c (Evl.ev_var rfl)) (by show 2 ≤ 100000; decide)) fun p H7 np e7 h7 => ?_
      have x7 : ExD H H' := (exD_of e16).trans ex
      exact k.query O hs (x7.ex e7) (NewD.of x7 np) h7
end
end Th
namespace Th
open PySem PySem.Spec PyProof.Rows L2
open Evl (Ex Ev EvT EvL EvA given)
/-! ### a call of a local that holds a def: whichever it is, it keeps its promise -/
theorem Cal.held {PP : Program} {w : World} {K : PySem.W.Frag} {mg : Str → Option Value} {base : Heap} {j k : Nat} {f : Addr} {ps : List Str} {sp : Sp} (F : Cal PP w K mg base j f ps sp) (h : j ≤ k) : Held PP w K mg base k f sp := by
  obtain ⟨fd, F, kp, b⟩ := F.ex
  exact ⟨⟨fd, ps, FnOk.mono F h, kp, b⟩⟩
def tCallH (PP : Program) (w : World) (K : PySem.W.Frag) (mg : Str → Option Value) (base : Heap) (k i : Nat) (t : TA) : TE := fun σ H Q => ∃ f sp, σ[i]? = some (some (.ref f)) ∧ Held PP w K mg base k f sp ∧ t σ H fun vs H1 => sp vs H1 Q (fun _ _ _ => False)
theorem pe_callH {X : Cx} {k i : Nat} {x : Str} {p pos : Pos} {e : Expr} {es : List Expr} {t : TA} (hr : Room k X.A) (hN : X.N[i]? = some x) (hv : Vis X.env.scope x) (ha : PA X (e :: es) t)
    (hdb : (x == ("__debug__" : Str)) = false := by decide) (hcd : (x == ("__classdict__" : Str)) = false := by decide)
    (he : starEach (e :: es) X.env = (false, eval e X.env) :: starEach es X.env := by rfl) (hpl : (backTo pos (starEach es X.env)).any (·.1) = false := by rfl) : PE X (.Call (.Name x p) (e :: es) [] pos) (tCallH X.prog X.w X.K X.mg X.base k i t) := by
  refine ⟨fun pins s σ H Q I h => ?_⟩
  obtain ⟨f, sp, hs, hS, ht⟩ := h
  obtain ⟨fd, ps, F, hk, hb⟩ := hS.ex
  refine (pe_callL (i := i) (f := f) (sp := sp) (dvs := []) (E := fun _ _ _ => False) F hr hN hv hk hb .nil (fun _ _ _ _ _ _ _ z => z.elim) ha hdb hcd he hpl).run pins s σ H Q I ⟨hs, ?_⟩
  have e0 : (fun (vs : List V) (H1 : Hp) => sp (vs ++ []) H1 Q (fun _ _ _ => False)) = fun vs H1 => sp vs H1 Q (fun _ _ _ => False) := by
    funext vs H1
    rw [List.append_nil]
  show t σ H (fun vs H1 => sp (vs ++ []) H1 Q (fun _ _ _ => False))
  rw [e0]
  exact ht
end Th
namespace Th
open PySem PySem.Spec PyProof.Rows L2
open TimHaul (Road Limit Truck Lot Trip Office before)
open Evl (Ex Ev EvL EvT EvA)
section
variable {PP : Program} {w : World} {K : PySem.W.Frag} {mg : Str → Option Value} {base : Heap}
open WrtihaSpec (Call)
/-- a call's number, its numbers, its row: which call it is -/
inductive Dec : Int → List Nat → List Int → Call → Prop
  | road (a b m k : Nat) : Dec 2 [a, b, m, k] [] (.road a b m k)
  | limit (r a b k : Nat) : Dec 3 [r, a, b, k] [] (.limit r a b k)
  | truck (h t p : Nat) : Dec 4 [h, t, p] [] (.truck h t p)
  | lot (p m k r d : Nat) : Dec 5 [p, m, k, r, d] [] (.lot p m k r d)
  | state : Dec 6 [] [] .state
  | drive (a b d k : Nat) : Dec 7 [a, b, d, k] [] (.drive a b d k)
  | most (a b d : Nat) : Dec 8 [a, b, d] [] (.most a b d)
  | must (a b d k : Nat) : Dec 9 [a, b, d, k] [] (.must a b d k)
  | load (t d : Nat) (l : List Nat) : Dec 10 [t, d] (l.map fun n : Nat => (n : Int)) (.load t d l)
  | book (t d : Nat) (l : List Nat) : Dec 11 [t, d] (l.map fun n : Nat => (n : Int)) (.book t d l)
  | off (t : Nat) : Dec 12 [t] [] (.off t)
  | paper (t : Nat) : Dec 13 [t] [] (.paper t)
  | scale (t k : Nat) : Dec 14 [t, k] [] (.scale t k)
  | over : Dec 15 [] [] .over
  | left : Dec 16 [] [] .left
  | plan (w d e : Nat) : Dec 17 [w, d, e] [] (.plan w d e)
  | bound (d e : Nat) (r : List Int) : Dec 18 [d, e] r (.bound d e r)
  | stuck (d e : Nat) : Dec 19 [d, e] [] (.stuck d e)
  | without (r d e : Nat) : Dec 20 [r, d, e] [] (.without r d e)
def sp_do_call (K : PySem.W.Frag) : Sp := fun vs H Q _ => ∃ (G : Hp) (A : OA) (s : Office) (c : Int) (wn rl : Addr) (ns : List Nat) (zs : List Int) (k : Call), vs = [.ref A.a, .int c, .ref wn, .ref rl] ∧ OffM K G H A s ∧ H wn = some (.lst (nv ns)) ∧ H rl = some (.lst (zs.map V.int)) ∧ Dec c ns zs k ∧ WrtihaSpec.right k = true ∧ Done K k G H A s Q
theorem sc_do_call : FnScope (["office", "call", "whole", "row", "deed"] : List Str) ["office", "call", "whole", "row"] (defScope s_do_call) := ⟨rfl, rfl, rfl, by decide +kernel, rfl, by decide +kernel, by decide +kernel⟩
theorem c_do_call (T : Txt K mg) (C_add_road : Cal PP w K mg base 3 (He.ga K "add_road") ["office", "numbers"] (sp_add_road K)) (C_add_limit : Cal PP w K mg base 3 (He.ga K "add_limit") ["office", "numbers"] (sp_add_limit K)) (C_add_truck : Cal PP w K mg base 3 (He.ga K "add_truck") ["office", "numbers"] (sp_add_truck K)) (C_add_lot : Cal PP w K mg base 3 (He.ga K "add_lot") ["office", "numbers"] (sp_add_lot K)) (C_tell_state : Cal PP w K mg base 2 (He.ga K "tell_state") ["office", "numbers"] (sp_tell_state K)) (C_tell_drive : Cal PP w K mg base 5 (He.ga K "tell_drive") ["office", "numbers"] (sp_tell_drive K)) (C_tell_most : Cal PP w K mg base 6 (He.ga K "tell_most") ["office", "numbers"] (sp_tell_most K)) (C_tell_must : Cal PP w K mg base 5 (He.ga K "tell_must") ["office", "numbers"] (sp_tell_must K)) (C_call_off : Cal PP w K mg base 2 (He.ga K "call_off") ["office", "numbers"] (sp_call_off K)) (C_paper : Cal PP w K mg base 2 (He.ga K "paper") ["office", "numbers"] (sp_paper K)) (C_scale : Cal PP w K mg base 2 (He.ga K "scale") ["office", "numbers"] (sp_scale K)) (C_tell_over : Cal PP w K mg base 4 (He.ga K "tell_over") ["office", "numbers"] (sp_tell_over K)) (C_tell_left : Cal PP w K mg base 3 (He.ga K "tell_left") ["office", "numbers"] (sp_tell_left K)) (C_tell_plan : Cal PP w K mg base 9 (He.ga K "tell_plan") ["office", "numbers"] (sp_tell_plan K)) (C_tell_stuck : Cal PP w K mg base 8 (He.ga K "tell_stuck") ["office", "numbers"] (sp_tell_stuck K)) (C_tell_without : Cal PP w K mg base 9 (He.ga K "tell_without") ["office", "numbers"] (sp_tell_without K)) (C_load : Cal PP w K mg base 7 (He.ga K "load") ["office", "numbers", "lots"] (sp_load K)) (C_book : Cal PP w K mg base 7 (He.ga K "book") ["office", "numbers", "lots"] (sp_book K)) (C_tell_bound : Cal PP w K mg base 8 (He.ga K "tell_bound") ["office", "numbers", "prices"] (sp_tell_bound K)) : Cal PP w K mg base 10 (He.ga K "do_call") ["office", "call", "whole", "row"] (sp_do_call K) := by
  refine Cal.of T.f_do_call sc_do_call (fun vs H Q E h => ?_) (fun _ _ _ _ _ _ us hl => match us, hl with | [_, _, _, _], _ => rfl) (fun cdv A outer s H vs Q E hr h => ?_)
  · obtain ⟨G, A, s, c, wn, rl, ns, zs, kc, rfl, O, hn, hz, dec, hg, k⟩ := h
    rfl
  · obtain ⟨G, A, s, c, wn, rl, ns, zs, kc, rfl, O, hn, hz, dec, hg, k⟩ := h
    refine ⟨_, (pss_cons (ps_if (pt_cmpR op_inW (pv 1) (pe_glob (v := .ref (He.ga K "DEEDS_WITH_ROW")) (by rfl) T.g_DEEDS_WITH_ROW rfl) (by rfl)) (pss_cons (ps_set (i := 4) sc_do_call.nd rfl (Or.inl rfl) (pe_ix ix_wdict (pe_glob (v := .ref (He.ga K "DEEDS_WITH_ROW")) (by rfl) T.g_DEEDS_WITH_ROW rfl) (pv 1) (fun _ _ => rfl)))
      (pss_one (ps_ret (pe_callH (k := 9) (i := 4) (hr.mono (by decide)) rfl (Or.inl rfl) (pa_cons (pv 0) (pa_cons (pv 2) (pa_cons (pv 3) pa_nil))))))) pss_nil)
      (pss_cons (ps_set (i := 4) sc_do_call.nd rfl (Or.inl rfl) (pe_ix ix_wdict (pe_glob (v := .ref (He.ga K "DEEDS")) (by rfl) T.g_DEEDS rfl) (pv 1) (fun _ _ => rfl)))
      (pss_one (ps_ret (pe_callH (k := 9) (i := 4) (hr.mono (by decide)) rfl (Or.inl rfl) (pa_cons (pv 0) (pa_cons (pv 2) pa_nil))))))), ?_⟩
    have D : (lkI c (refsL K deedsRL) = none ∧ ∃ f sp, lkI c (refsL K deedsL) = some f ∧ Held PP w K mg base 9 f sp ∧ ∀ H1, Ex H H1 → sp [.ref A.a, .ref wn] H1 Q (fun _ _ _ => False)) ∨ (∃ f sp, lkI c (refsL K deedsRL) = some f ∧ Held PP w K mg base 9 f sp ∧ ∀ H1, Ex H H1 → sp [.ref A.a, .ref wn, .ref rl] H1 Q (fun _ _ _ => False)) := by
      have OO : ∀ H1, Ex H H1 → OffM K G H1 A s := fun H1 e => O.query (exD_of e)
      have KK : ∀ H1, Ex H H1 → Done K kc G H1 A s Q := fun H1 e => k.ex (exD_of e)
      cases dec with
      | road => exact .inl ⟨rfl, _, _, rfl, C_add_road.held (by decide), fun H1 e => ⟨G, A, s, wn, _, _, _, _, rfl, OO H1 e, e _ _ hn, hg, KK H1 e⟩⟩
      | limit => exact .inl ⟨rfl, _, _, rfl, C_add_limit.held (by decide), fun H1 e => ⟨G, A, s, wn, _, _, _, _, rfl, OO H1 e, e _ _ hn, hg, KK H1 e⟩⟩
      | truck => exact .inl ⟨rfl, _, _, rfl, C_add_truck.held (by decide), fun H1 e => ⟨G, A, s, wn, _, _, _, rfl, OO H1 e, e _ _ hn, hg, KK H1 e⟩⟩
      | lot => exact .inl ⟨rfl, _, _, rfl, C_add_lot.held (by decide), fun H1 e => ⟨G, A, s, wn, _, _, _, _, _, rfl, OO H1 e, e _ _ hn, hg, KK H1 e⟩⟩
      | state => exact .inl ⟨rfl, _, _, rfl, C_tell_state.held (by decide), fun H1 e => ⟨G, A, s, wn, rfl, OO H1 e, KK H1 e⟩⟩
      | drive => exact .inl ⟨rfl, _, _, rfl, C_tell_drive.held (by decide), fun H1 e => ⟨G, A, s, wn, _, _, _, _, rfl, OO H1 e, e _ _ hn, hg, KK H1 e⟩⟩
      | most => exact .inl ⟨rfl, _, _, rfl, C_tell_most.held (by decide), fun H1 e => ⟨G, A, s, wn, _, _, _, rfl, OO H1 e, e _ _ hn, hg, KK H1 e⟩⟩
      | must => exact .inl ⟨rfl, _, _, rfl, C_tell_must.held (by decide), fun H1 e => ⟨G, A, s, wn, _, _, _, _, rfl, OO H1 e, e _ _ hn, hg, KK H1 e⟩⟩
      | load t d l => exact .inr ⟨_, _, rfl, C_load.held (by decide), fun H1 e => ⟨G, A, s, wn, rl, _, _, l, rfl, OO H1 e, e _ _ hn, by rw [e _ _ hz, nv_ints], hg, KK H1 e⟩⟩
      | book t d l => exact .inr ⟨_, _, rfl, C_book.held (by decide), fun H1 e => ⟨G, A, s, wn, rl, _, _, l, rfl, OO H1 e, e _ _ hn, by rw [e _ _ hz, nv_ints], hg, KK H1 e⟩⟩
      | off => exact .inl ⟨rfl, _, _, rfl, C_call_off.held (by decide), fun H1 e => ⟨G, A, s, wn, _, rfl, OO H1 e, e _ _ hn, KK H1 e⟩⟩
      | paper => exact .inl ⟨rfl, _, _, rfl, C_paper.held (by decide), fun H1 e => ⟨G, A, s, wn, _, rfl, OO H1 e, e _ _ hn, KK H1 e⟩⟩
      | scale => exact .inl ⟨rfl, _, _, rfl, C_scale.held (by decide), fun H1 e => ⟨G, A, s, wn, _, _, rfl, OO H1 e, e _ _ hn, hg, KK H1 e⟩⟩
      | over => exact .inl ⟨rfl, _, _, rfl, C_tell_over.held (by decide), fun H1 e => ⟨G, A, s, wn, rfl, OO H1 e, KK H1 e⟩⟩
      | left => exact .inl ⟨rfl, _, _, rfl, C_tell_left.held (by decide), fun H1 e => ⟨G, A, s, wn, rfl, OO H1 e, KK H1 e⟩⟩
      | plan => exact .inl ⟨rfl, _, _, rfl, C_tell_plan.held (by decide), fun H1 e => ⟨G, A, s, wn, _, _, _, rfl, OO H1 e, e _ _ hn, hg, KK H1 e⟩⟩
      | bound d e r => exact .inr ⟨_, _, rfl, C_tell_bound.held (by decide), fun H1 e => ⟨G, A, s, wn, rl, _, _, _, rfl, OO H1 e, e _ _ hn, e _ _ hz, hg, KK H1 e⟩⟩
      | stuck => exact .inl ⟨rfl, _, _, rfl, C_tell_stuck.held (by decide), fun H1 e => ⟨G, A, s, wn, _, _, rfl, OO H1 e, e _ _ hn, hg, KK H1 e⟩⟩
      | without => exact .inl ⟨rfl, _, _, rfl, C_tell_without.held (by decide), fun H1 e => ⟨G, A, s, wn, _, _, _, rfl, OO H1 e, e _ _ hn, hg, KK H1 e⟩⟩
    obtain ⟨kR, wR, tR⟩ := T.deedsR
    obtain ⟨kD, wD, tD⟩ := T.deeds
    refine Evl.q_if (b := (lkI c (refsL K deedsRL)).isSome) (Evl.et_test (Evl.ev_is (ev_inW (Evl.ev_var rfl) Evl.ev_c wR) (congrArg V.bl (tab2_some tR)))) (fun hc H1 e1 => ?_) (fun hc H1 e1 => ?_)
    · rcases D with ⟨h1, _⟩ | ⟨f, sp, h1, held, hsp⟩
      · rw [h1] at hc; cases hc
      · rcases tab2_at c tR with ⟨u, r, g1, g2, g3⟩ | ⟨_, g2⟩
        · rw [h1] at g2
          cases g2
          have ei : Ev (tOp (rIxW K) (tC (.ref (He.ga K "DEEDS_WITH_ROW"))) (tVar 1)) [some (.ref A.a), some (.int c), some (.ref wn), some (.ref rl), none] H1 (.ref f) := ev_ixW (v := .ref f) Evl.ev_c (Evl.ev_var rfl) wR g1 g3
          refine Evl.q_asg ei fun H2 e2 => ?_
          exact ⟨f, sp, rfl, held, _, rfl, _, rfl, _, rfl, hsp H2 (e1.trans e2)⟩
        · rw [h1] at g2; cases g2
    · rcases D with ⟨_, f, sp, h1, held, hsp⟩ | ⟨f, sp, h1, _⟩
      · rcases tab2_at c tD with ⟨u, r, g1, g2, g3⟩ | ⟨_, g2⟩
        · rw [h1] at g2
          cases g2
          have ei : ∀ H1, Ev (tOp (rIxW K) (tC (.ref (He.ga K "DEEDS"))) (tVar 1)) [some (.ref A.a), some (.int c), some (.ref wn), some (.ref rl), none] H1 (.ref f) := fun H1 => ev_ixW (v := .ref f) Evl.ev_c (Evl.ev_var rfl) wD g1 g3
          refine Evl.q_asg (ei _) fun H2 e2 => ?_
          exact ⟨f, sp, rfl, held, _, rfl, _, rfl, hsp H2 (e1.trans e2)⟩
        · rw [h1] at g2; cases g2
      · rw [h1] at hc; cases hc
end
end Th
namespace Th
open PySem PySem.Spec PyProof.Rows L2
open WrtihaSpec (Call Ans)
/-! ### which call it is -/
theorem whole_id (c : List (List Int)) : PyWrtiha.whole c = c := by
  unfold PyWrtiha.whole
  split <;> rfl
theorem num_nat {z : Int} (h : WrtihaNeutral.num z = true) : ∃ n : Nat, z = (n : Int) := by
  have := of_decide_eq_true (Bool.and_eq_true_iff.mp h).1
  exact ⟨z.toNat, by omega⟩
theorem nat_some (n : Nat) : WrtihaNeutral.nat? (n : Int) = some n := by
  unfold WrtihaNeutral.nat?
  rw [if_pos (by omega)]
  rfl
theorem nats_map : ∀ l : List Nat, WrtihaNeutral.nats? (l.map fun n : Nat => (n : Int)) = some l
  | [] => rfl
  | x :: l => by
    have ih := nats_map l
    unfold WrtihaNeutral.nats? at ih ⊢
    rw [List.map_cons, List.mapM_cons, nat_some, ih]
    rfl
theorem row_nats {r : List Int} (h : WrtihaNeutral.row r = true) : ∃ l : List Nat, r = l.map fun n : Nat => (n : Int) := by
  have ha := List.all_eq_true.mp (Bool.and_eq_true_iff.mp h).2
  refine ⟨r.map Int.toNat, ?_⟩
  rw [List.map_map]
  have g : ∀ x ∈ r, ((fun n : Nat => (n : Int)) ∘ Int.toNat) x = x := fun x m => by
    obtain ⟨n, rfl⟩ := num_nat (ha x m)
    simp
  rw [List.map_congr_left g, List.map_id']
def DecOf (c : List (List Int)) : Prop := ∃ ns zs k, Dec (cP c) ns zs k ∧ cN c = (ns.map fun n : Nat => (n : Int)) ∧ cR c = zs ∧ WrtihaNeutral.call? c = some k ∧ zs.length ≤ 40
theorem flat_call (l : List Nat) : WrtihaNeutral.call? [l.map fun n : Nat => (n : Int)] = WrtihaNeutral.flat? l := by
  unfold WrtihaNeutral.call?
  show (WrtihaNeutral.nats? _).bind _ = _
  rw [nats_map]
  rfl
theorem asked_dec {c : List (List Int)} (h : WrtihaNeutral.asked1 c = true) : (∃ n : Nat, c = [[1, (n : Int)]]) ∨ DecOf c := by
  unfold WrtihaNeutral.asked1 at h
  split at h
  · obtain ⟨h1, h⟩ := Bool.and_eq_true_iff.mp h; obtain ⟨h2, h⟩ := Bool.and_eq_true_iff.mp h; obtain ⟨h3, h4⟩ := Bool.and_eq_true_iff.mp h
    obtain ⟨a, rfl⟩ := num_nat h1; obtain ⟨b, rfl⟩ := num_nat h2; obtain ⟨m, rfl⟩ := num_nat h3; obtain ⟨k, rfl⟩ := num_nat h4
    exact .inr ⟨_, _, _, .road a b m k, rfl, rfl, flat_call [2, a, b, m, k], Nat.zero_le _⟩
  · obtain ⟨h1, h⟩ := Bool.and_eq_true_iff.mp h; obtain ⟨h2, h⟩ := Bool.and_eq_true_iff.mp h; obtain ⟨h3, h4⟩ := Bool.and_eq_true_iff.mp h
    obtain ⟨a, rfl⟩ := num_nat h1; obtain ⟨b, rfl⟩ := num_nat h2; obtain ⟨m, rfl⟩ := num_nat h3; obtain ⟨k, rfl⟩ := num_nat h4
    exact .inr ⟨_, _, _, .limit a b m k, rfl, rfl, flat_call [3, a, b, m, k], Nat.zero_le _⟩
  · obtain ⟨h1, h⟩ := Bool.and_eq_true_iff.mp h; obtain ⟨h2, h3⟩ := Bool.and_eq_true_iff.mp h
    obtain ⟨a, rfl⟩ := num_nat h1; obtain ⟨b, rfl⟩ := num_nat h2; obtain ⟨m, rfl⟩ := num_nat h3
    exact .inr ⟨_, _, _, .truck a b m, rfl, rfl, flat_call [4, a, b, m], Nat.zero_le _⟩
  · obtain ⟨h1, h⟩ := Bool.and_eq_true_iff.mp h; obtain ⟨h2, h⟩ := Bool.and_eq_true_iff.mp h; obtain ⟨h3, h⟩ := Bool.and_eq_true_iff.mp h; obtain ⟨h4, h5⟩ := Bool.and_eq_true_iff.mp h
    obtain ⟨a, rfl⟩ := num_nat h1; obtain ⟨b, rfl⟩ := num_nat h2; obtain ⟨m, rfl⟩ := num_nat h3; obtain ⟨k, rfl⟩ := num_nat h4; obtain ⟨d, rfl⟩ := num_nat h5
    exact .inr ⟨_, _, _, .lot a b m k d, rfl, rfl, flat_call [5, a, b, m, k, d], Nat.zero_le _⟩
  · obtain ⟨h1, h⟩ := Bool.and_eq_true_iff.mp h; obtain ⟨h2, h⟩ := Bool.and_eq_true_iff.mp h; obtain ⟨h3, h4⟩ := Bool.and_eq_true_iff.mp h
    obtain ⟨a, rfl⟩ := num_nat h1; obtain ⟨b, rfl⟩ := num_nat h2; obtain ⟨m, rfl⟩ := num_nat h3; obtain ⟨k, rfl⟩ := num_nat h4
    exact .inr ⟨_, _, _, .drive a b m k, rfl, rfl, flat_call [7, a, b, m, k], Nat.zero_le _⟩
  · obtain ⟨h1, h⟩ := Bool.and_eq_true_iff.mp h; obtain ⟨h2, h3⟩ := Bool.and_eq_true_iff.mp h
    obtain ⟨a, rfl⟩ := num_nat h1; obtain ⟨b, rfl⟩ := num_nat h2; obtain ⟨m, rfl⟩ := num_nat h3
    exact .inr ⟨_, _, _, .most a b m, rfl, rfl, flat_call [8, a, b, m], Nat.zero_le _⟩
  · obtain ⟨h1, h⟩ := Bool.and_eq_true_iff.mp h; obtain ⟨h2, h⟩ := Bool.and_eq_true_iff.mp h; obtain ⟨h3, h4⟩ := Bool.and_eq_true_iff.mp h
    obtain ⟨a, rfl⟩ := num_nat h1; obtain ⟨b, rfl⟩ := num_nat h2; obtain ⟨m, rfl⟩ := num_nat h3; obtain ⟨k, rfl⟩ := num_nat h4
    exact .inr ⟨_, _, _, .must a b m k, rfl, rfl, flat_call [9, a, b, m, k], Nat.zero_le _⟩
  · obtain ⟨h1, h⟩ := Bool.and_eq_true_iff.mp h; obtain ⟨h2, h3⟩ := Bool.and_eq_true_iff.mp h
    obtain ⟨a, rfl⟩ := num_nat h1; obtain ⟨b, rfl⟩ := num_nat h2; obtain ⟨l, rfl⟩ := row_nats h3
    refine .inr ⟨_, _, _, .load a b l, rfl, rfl, ?_, of_decide_eq_true (Bool.and_eq_true_iff.mp h3).1⟩
    simp [WrtihaNeutral.call?, nat_some, nats_map]
  · obtain ⟨h1, h⟩ := Bool.and_eq_true_iff.mp h; obtain ⟨h2, h3⟩ := Bool.and_eq_true_iff.mp h
    obtain ⟨a, rfl⟩ := num_nat h1; obtain ⟨b, rfl⟩ := num_nat h2; obtain ⟨l, rfl⟩ := row_nats h3
    refine .inr ⟨_, _, _, .book a b l, rfl, rfl, ?_, of_decide_eq_true (Bool.and_eq_true_iff.mp h3).1⟩
    simp [WrtihaNeutral.call?, nat_some, nats_map]
  · obtain ⟨h1, h2⟩ := Bool.and_eq_true_iff.mp h
    obtain ⟨a, rfl⟩ := num_nat h1; obtain ⟨b, rfl⟩ := num_nat h2
    exact .inr ⟨_, _, _, .scale a b, rfl, rfl, flat_call [14, a, b], Nat.zero_le _⟩
  · obtain ⟨h1, h⟩ := Bool.and_eq_true_iff.mp h; obtain ⟨h2, h3⟩ := Bool.and_eq_true_iff.mp h
    obtain ⟨a, rfl⟩ := num_nat h1; obtain ⟨b, rfl⟩ := num_nat h2; obtain ⟨m, rfl⟩ := num_nat h3
    exact .inr ⟨_, _, _, .plan a b m, rfl, rfl, flat_call [17, a, b, m], Nat.zero_le _⟩
  · obtain ⟨h1, h⟩ := Bool.and_eq_true_iff.mp h; obtain ⟨h2, h3⟩ := Bool.and_eq_true_iff.mp h
    obtain ⟨a, rfl⟩ := num_nat h1; obtain ⟨b, rfl⟩ := num_nat h2
    have hl := of_decide_eq_true (Bool.and_eq_true_iff.mp h3).1
    refine .inr ⟨_, _, _, .bound a b _, rfl, rfl, ?_, Nat.le_trans hl (by decide)⟩
    simp [WrtihaNeutral.call?, nat_some]
    rfl
  · obtain ⟨h1, h2⟩ := Bool.and_eq_true_iff.mp h
    obtain ⟨a, rfl⟩ := num_nat h1; obtain ⟨b, rfl⟩ := num_nat h2
    exact .inr ⟨_, _, _, .stuck a b, rfl, rfl, flat_call [19, a, b], Nat.zero_le _⟩
  · obtain ⟨h1, h⟩ := Bool.and_eq_true_iff.mp h; obtain ⟨h2, h3⟩ := Bool.and_eq_true_iff.mp h
    obtain ⟨a, rfl⟩ := num_nat h1; obtain ⟨b, rfl⟩ := num_nat h2; obtain ⟨m, rfl⟩ := num_nat h3
    exact .inr ⟨_, _, _, .without a b m, rfl, rfl, flat_call [20, a, b, m], Nat.zero_le _⟩
  · obtain ⟨h1, h2⟩ := Bool.and_eq_true_iff.mp h
    obtain ⟨a, rfl⟩ := num_nat h2
    rcases Bool.or_eq_true_iff.mp h1 with z | z
    · have e := eq_of_beq z
      subst e
      exact .inl ⟨a, rfl⟩
    · rcases Bool.or_eq_true_iff.mp z with z | z
      · have e := eq_of_beq z
        subst e
        exact .inr ⟨_, _, _, .off a, rfl, rfl, flat_call [12, a], Nat.zero_le _⟩
      · have e := eq_of_beq z
        subst e
        exact .inr ⟨_, _, _, .paper a, rfl, rfl, flat_call [13, a], Nat.zero_le _⟩
  · rcases Bool.or_eq_true_iff.mp h with z | z
    · have e := eq_of_beq z
      subst e
      exact .inr ⟨_, _, _, .state, rfl, rfl, flat_call [6], Nat.zero_le _⟩
    · rcases Bool.or_eq_true_iff.mp z with z | z
      · have e := eq_of_beq z
        subst e
        exact .inr ⟨_, _, _, .over, rfl, rfl, flat_call [15], Nat.zero_le _⟩
      · have e := eq_of_beq z
        subst e
        exact .inr ⟨_, _, _, .left, rfl, rfl, flat_call [16], Nat.zero_le _⟩
  · cases h
/-! ### in range, as the specification has it -/
theorem lots_in (l : List Nat) : (l.map fun n : Nat => (n : Int)).all (fun z => decide ((0 : Int) ≤ z) && decide (z ≤ 23)) = l.all fun (i : Nat) => decide (i < 24) := by
  rw [List.all_map]
  congr 1
  funext i
  rw [Bool.eq_iff_iff]
  simp
  omega
theorem right_net (n : Nat) : (inR [[2, 16]] [(n : Int)] && (rowR 1 [] && spanR 1 [(n : Int)])) = WrtihaSpec.right (.net n) := by
  rw [Bool.eq_iff_iff]
  simp only [inR, rowR, spanR, WrtihaSpec.right, WrtihaSpec.within, Bool.and_eq_true, decide_eq_true_eq]
  simp [lkI, rowsL, spansL, TimHaul.PLACES]
  omega
theorem right_eq {p : Int} {ns : List Nat} {zs : List Int} {k : Call} (d : Dec p ns zs k) {rows : List (List Int)} (h : lkI p rangesL = some rows) : (inR rows (ns.map fun n : Nat => (n : Int)) && (rowR p zs && spanR p (ns.map fun n : Nat => (n : Int)))) = WrtihaSpec.right k := by
  cases d with
  | load t d l =>
    cases h
    have e := lots_in l
    have z : rowR 10 (l.map fun n : Nat => (n : Int)) = (decide (1 ≤ l.length) && decide (l.length ≤ 24) && l.all fun (i : Nat) => decide (i < 24)) := by
      rw [← e]
      show ((decide ((1 : Int) ≤ _) && decide (_ ≤ (24 : Int))) && _) = _
      rw [List.length_map]
      congr 2
      · exact decide_eq_decide.mpr (by omega)
      · exact decide_eq_decide.mpr (by omega)
    rw [z]
    show _ = (decide (t < 3) && (decide (d ≤ 99999) && ((decide (1 ≤ l.length) && decide (l.length ≤ 24)) && l.all fun (i : Nat) => decide (i < 24))))
    generalize (decide (1 ≤ l.length) && decide (l.length ≤ 24) && l.all fun (i : Nat) => decide (i < 24)) = q
    rw [Bool.eq_iff_iff]
    cases q <;> simp [inR, spanR, lkI, spansL] <;> omega
  | book t d l =>
    cases h
    have e := lots_in l
    have z : rowR 11 (l.map fun n : Nat => (n : Int)) = (decide (1 ≤ l.length) && decide (l.length ≤ 24) && l.all fun (i : Nat) => decide (i < 24)) := by
      rw [← e]
      show ((decide ((1 : Int) ≤ _) && decide (_ ≤ (24 : Int))) && _) = _
      rw [List.length_map]
      congr 2
      · exact decide_eq_decide.mpr (by omega)
      · exact decide_eq_decide.mpr (by omega)
    rw [z]
    show _ = (decide (t < 3) && (decide (d ≤ 99999) && ((decide (1 ≤ l.length) && decide (l.length ≤ 24)) && l.all fun (i : Nat) => decide (i < 24))))
    generalize (decide (1 ≤ l.length) && decide (l.length ≤ 24) && l.all fun (i : Nat) => decide (i < 24)) = q
    rw [Bool.eq_iff_iff]
    cases q <;> simp [inR, spanR, lkI, spansL] <;> omega
  | bound d e =>
    cases h
    generalize zs = r
    have z : rowR 18 r = (decide (r.length ≤ 8) && r.all fun (z : Int) => decide (-1000000000 ≤ z) && decide (z ≤ 1000000000)) := by
      show ((decide ((0 : Int) ≤ _) && decide (_ ≤ (8 : Int))) && _) = _
      congr 1
      rw [Bool.eq_iff_iff]
      simp
      omega
    rw [z]
    show _ = (WrtihaSpec.isSpan d e && (decide (r.length ≤ 8) && r.all fun (z : Int) => decide (-1000000000 ≤ z) && decide (z ≤ 1000000000)))
    generalize (decide (r.length ≤ 8) && r.all fun (z : Int) => decide (-1000000000 ≤ z) && decide (z ≤ 1000000000)) = q
    rw [Bool.eq_iff_iff]
    simp only [WrtihaSpec.isDay, WrtihaSpec.isSpan, Bool.and_eq_true, decide_eq_true_eq]
    cases q <;> simp [inR, spanR, lkI, spansL, TimHaul.DAYS, TimHaul.SPAN] <;> omega
  | _ =>
    cases h
    rw [Bool.eq_iff_iff]
    simp only [inR, rowR, spanR, WrtihaSpec.right, WrtihaSpec.within, WrtihaSpec.isPlace, WrtihaSpec.isDay, WrtihaSpec.isSpan, Bool.and_eq_true, decide_eq_true_eq]
    simp [lkI, rowsL, spansL, TimHaul.PLACES, TimHaul.DAYS, TimHaul.SPAN, TimHaul.MOST, TimHaul.ROADS, TimHaul.TRUCKS, TimHaul.TRIPS]
    try omega
/-! ### what a call answers -/
theorem step_bad {s : Option TimHaul.Office} {c : List (List Int)} {k : Call} (h : WrtihaNeutral.call? c = some k) (r : WrtihaSpec.right k = false) : WrtihaNeutral.step s c = (s, [-1]) := by
  unfold WrtihaNeutral.step
  rw [h]
  dsimp only
  unfold WrtihaSpec.step
  rw [if_pos r]
  rfl
theorem step_net {s : Option TimHaul.Office} {c : List (List Int)} {n : Nat} (h : WrtihaNeutral.call? c = some (.net n)) (r : WrtihaSpec.right (.net n) = true) : WrtihaNeutral.step s c = (some ⟨n, [], [], [], [], []⟩, [0]) := by
  unfold WrtihaNeutral.step
  rw [h]
  dsimp only
  unfold WrtihaSpec.step
  rw [if_neg (by rw [r]; decide)]
  rfl
theorem step_none {c : List (List Int)} {p : Int} {ns : List Nat} {zs : List Int} {k : Call} (d : Dec p ns zs k) (h : WrtihaNeutral.call? c = some k) (r : WrtihaSpec.right k = true) : WrtihaNeutral.step none c = (none, [-3]) := by
  unfold WrtihaNeutral.step
  rw [h]
  dsimp only
  unfold WrtihaSpec.step
  rw [if_neg (by rw [r]; decide)]
  cases d <;> rfl
theorem step_does {o : TimHaul.Office} {c : List (List Int)} {p : Int} {ns : List Nat} {zs : List Int} {k : Call} (d : Dec p ns zs k) (h : WrtihaNeutral.call? c = some k) (r : WrtihaSpec.right k = true) : WrtihaNeutral.step (some o) c = (some (WrtihaSpec.does o k).1, WrtihaNeutral.answerNums (WrtihaSpec.does o k).2) := by
  unfold WrtihaNeutral.step
  rw [h]
  dsimp only
  unfold WrtihaSpec.step
  rw [if_neg (by rw [r]; decide)]
  cases d <;> rfl
theorem net_call (n : Nat) : WrtihaNeutral.call? [[1, (n : Int)]] = some (.net n) := flat_call [1, n]
/-! ### played, call by call -/
abbrev stA (s : Option TimHaul.Office) (l : List (List (List Int))) : Option TimHaul.Office := l.foldl (fun s c => (WrtihaNeutral.step s c).1) s
theorem played_snoc : ∀ (l : List (List (List Int))) (s : Option TimHaul.Office) (c : List (List Int)), PyFlat.played WrtihaNeutral.step s (l ++ [c]) = PyFlat.played WrtihaNeutral.step s l ++ [(WrtihaNeutral.step (stA s l) c).2]
  | [], s, c => rfl
  | x :: l, s, c => by
    have ih := played_snoc l (WrtihaNeutral.step s x).1 c
    show (WrtihaNeutral.step s x).2 :: PyFlat.played WrtihaNeutral.step (WrtihaNeutral.step s x).1 (l ++ [c]) = _
    rw [ih]
    rfl
theorem played_app : ∀ (l m : List (List (List Int))) (s : Option TimHaul.Office), PyFlat.played WrtihaNeutral.step s (l ++ m) = PyFlat.played WrtihaNeutral.step s l ++ PyFlat.played WrtihaNeutral.step (stA s l) m
  | [], m, s => rfl
  | x :: l, m, s => by
    have ih := played_app l m (WrtihaNeutral.step s x).1
    show (WrtihaNeutral.step s x).2 :: PyFlat.played WrtihaNeutral.step (WrtihaNeutral.step s x).1 (l ++ m) = _
    rw [ih]
    rfl
theorem told_app (l m : List (List Int)) : PyFlat.told (l ++ m) = PyFlat.told l ++ PyFlat.told m := by
  unfold PyFlat.told
  rw [List.flatMap_append]
abbrev outA (l : List (List (List Int))) : List Int := PyFlat.told (PyFlat.played WrtihaNeutral.step WrtihaNeutral.start l)
theorem out_snoc (l : List (List (List Int))) (c : List (List Int)) : outA (l ++ [c]) = outA l ++ (((WrtihaNeutral.step (stA WrtihaNeutral.start l) c).2.length : Int) :: (WrtihaNeutral.step (stA WrtihaNeutral.start l) c).2) := by
  unfold outA
  rw [played_snoc, told_app]
  congr 1
  unfold PyFlat.told
  simp
theorem st_snoc (l : List (List (List Int))) (c : List (List Int)) : stA WrtihaNeutral.start (l ++ [c]) = (WrtihaNeutral.step (stA WrtihaNeutral.start l) c).1 := by
  unfold stA
  rw [List.foldl_append]
  rfl
theorem out_le (l m : List (List (List Int))) : (outA l).length ≤ (outA (l ++ m)).length := by
  unfold outA
  rw [played_app, told_app, List.length_append]
  omega
end Th
namespace Th
open PySem PySem.Spec PyProof.Rows L2
open TimHaul (Road Limit Truck Lot Trip Office before)
open Evl (Ex Ev EvL EvT EvA)
section
variable {PP : Program} {w : World} {K : PySem.W.Frag} {mg : Str → Option Value} {base : Heap}
/-- what stands in it, but dicts -/
def noD (H : Hp) : Hp := fun a => match H a with
  | some o => if isD o then none else some o
  | none => none
theorem noD_ex (H : Hp) : Ex (noD H) H := fun a o h => by
  unfold noD at h
  cases q : H a with
  | none => rw [q] at h; cases h
  | some u =>
    rw [q] at h
    dsimp only at h
    split at h
    · cases h
    · exact h
theorem noD_get {H : Hp} {a : Addr} {o : HO} (h : H a = some o) (hd : isD o = false) : noD H a = some o := by
  unfold noD
  rw [h]
  dsimp only
  rw [hd]
  rfl
theorem noD_nod {H : Hp} {a : Addr} {o : HO} (h : noD H a = some o) : isD o = false := by
  unfold noD at h
  cases q : H a with
  | none => rw [q] at h; cases h
  | some u =>
    rw [q] at h
    dsimp only at h
    split at h
    · cases h
    · rename_i z
      cases h
      cases y : isD o with
      | false => rfl
      | true => exact absurd y z
theorem noD_none {H : Hp} {a : Addr} (h : H a = none) : noD H a = none := by
  unfold noD
  rw [h]
theorem RawAt.noD {H : Hp} {v : V} {c : List (List Int)} (h : RawAt H v c) : RawAt (noD H) v c := let ⟨t, wn, rl, h1, h2, h3, h4⟩ := h; ⟨t, wn, rl, h1, noD_get h2 rfl, noD_get h3 rfl, noD_get h4 rfl⟩
/-- an object that the office does not know may change -/
theorem OffM.other {K : PySem.W.Frag} {G H : Hp} {A : OA} {s : Office} {b : Addr} {o : HO} (O : OffM K G H A s) (hg : G b = none) (hm : b ∉ muts A) : OffM K G (upd H b o) A s := by
  have dl : ∀ a u, a ∈ muts A → H a = some u → upd H b o a = some u := fun a u h q => by rw [upd_ne (fun z => hm (by rw [← z]; exact h))]; exact q
  refine ⟨⟨O.off.obj, dl _ _ (by simp [muts]) O.off.lr, dl _ _ (by simp [muts]) O.off.ll, dl _ _ (by simp [muts]) O.off.lt, dl _ _ (by simp [muts]) O.off.lo, dl _ _ (by simp [muts]) O.off.lp, O.off.roads, O.off.limits, O.off.trucks, O.off.lots, ?_⟩, O.ex.mut hg, O.nod, O.free, O.nd, O.wf⟩
  refine ⟨O.off.trips.1, fun j x hj => ?_⟩
  obtain ⟨a, ha, q⟩ := O.off.trips.2 j x hj
  have m : a ∈ muts A := by
    have := List.mem_of_getElem? ha
    simp [muts, this]
  refine ⟨a, ha, ?_⟩
  cases x with
  | none => obtain ⟨t, dx, la, ra, q⟩ := q; exact ⟨t, dx, la, ra, dl _ _ m q⟩
  | some t => obtain ⟨dx, la, ra, q, q1, q2⟩ := q; exact ⟨dx, la, ra, dl _ _ m q, q1, q2⟩
/-- the state, as the local office has it -/
def StAt (K : PySem.W.Frag) (Hb : Hp) (b : Addr) (v : V) (H : Hp) : Option Office → Prop
  | none => v = .non
  | some s => ∃ A G, v = .ref A.a ∧ OffM K G H A s ∧ (∀ a ∈ muts A, Hb a = none) ∧ b ∉ muts A ∧ G b = none
theorem StAt.ex {K : PySem.W.Frag} {Hb H H' : Hp} {b : Addr} {v : V} {o : Option Office} (h : StAt K Hb b v H o) (e : Ex H H') : StAt K Hb b v H' o := by
  cases o with
  | none => exact h
  | some s => obtain ⟨A, G, h1, h2, h3⟩ := h; exact ⟨A, G, h1, h2.query (exD_of e), h3⟩
theorem StAt.other {K : PySem.W.Frag} {Hb H : Hp} {b : Addr} {v : V} {o : Option Office} {u : HO} (h : StAt K Hb b v H o) : StAt K Hb b v (upd H b u) o := by
  cases o with
  | none => exact h
  | some s => obtain ⟨A, G, h1, h2, h3, h4, h5⟩ := h; exact ⟨A, G, h1, h2.other h5 h4, h3, h4, h5⟩
/-- a new office -/
theorem new_office {K : PySem.W.Frag} {Hb H : Hp} {b : Addr} {n : Nat} {σ : L2.St} {tA : TA} {Q : VK} {u : HO} (hA : EvA tA σ H [.int (n : Int)]) (hb : H b = some u) (ub : ∀ C dx fs, u ≠ .ins C dx fs) (n16 : n ≤ 16) (eb : Ex Hb H) (k : ∀ x H', Ex H H' → StAt K Hb b (.ref x) H' (some ⟨n, [], [], [], [], []⟩) → Q (.ref x) H') : tMake (He.ga K "Office") (sp_Office_init K) [] E0 tA σ H Q := by
  refine hA H (Ex.refl _) _ fun H1 e1 => fun x dx nx nd ne => ?_
  have n2 : upd H1 dx (.own x) x = none := by rw [upd_ne (Ne.symm ne)]; exact nx
  refine ⟨x, dx, n, rfl, upd_same, fun lr ll lt lo lp H' nds new ex hob => ⟨rfl, ?_⟩⟩
  have e2 : Ex H1 (del (upd (upd H1 dx (.own x)) x (.ins (He.ga K "Office") dx [])) x) := by
    rw [del_upd]
    exact ex_del nx (ex_upd nd)
  have e3 : Ex H1 H' := (e2.trans ex).trans (del_ex _ _)
  have eH : Ex H H' := e1.trans e3
  have bx : x ≠ b := fun z => by rw [z, e1 _ _ hb] at nx; cases nx
  have nH : ∀ a ∈ [lr, ll, lt, lo, lp], H1 a = none := fun a m => by
    obtain ⟨g1, _, g3⟩ := new a m
    cases q : H1 a with
    | none => rfl
    | some o =>
      have z := e2 a o q
      have := (del_some z).1
      rw [this] at g1
      cases g1
  refine k x H' eH ⟨⟨x, dx, lr, ll, lt, lo, lp, [], [], [], [], []⟩, fun a => if a = x then some (.ins (He.ga K "Office") dx (fOffice n ⟨x, dx, lr, ll, lt, lo, lp, [], [], [], [], []⟩)) else none, rfl, ?_, fun a m => ?_, fun m => ?_, if_neg (Ne.symm bx)⟩
  · refine ⟨⟨if_pos rfl, ?_, ?_, ?_, ?_, ?_, All2.nil, All2.nil, All2.nil, All2.nil, All2.nil⟩, fun a o h => ?_, fun a o h => ?_, fun a m => ?_, ?_, ?_⟩
    · exact (new lr (by simp)).2.1
    · exact (new ll (by simp)).2.1
    · exact (new lt (by simp)).2.1
    · exact (new lo (by simp)).2.1
    · exact (new lp (by simp)).2.1
    · have h' : (if a = x then some (HO.ins (He.ga K "Office") dx (fOffice n ⟨x, dx, lr, ll, lt, lo, lp, [], [], [], [], []⟩)) else none) = some o := h
      split at h'
      · rename_i z
        subst z
        rw [hob, ← h']
        rfl
      · cases h'
    · have h' : (if a = x then some (HO.ins (He.ga K "Office") dx (fOffice n ⟨x, dx, lr, ll, lt, lo, lp, [], [], [], [], []⟩)) else none) = some o := h
      split at h'
      · cases h'; rfl
      · cases h'
    · have m' : a ∈ [lr, ll, lt, lo, lp] := m
      exact if_neg (new a m').2.2
    · exact nds
    · exact ⟨n16, Nat.zero_le _, fun k r h => by simp at h, fun r h => by simp at h, Nat.zero_le _, Nat.zero_le _, fun r h => by simp at h, Nat.zero_le _, fun r h => by simp at h, Nat.zero_le _, fun r h => by simp at h⟩
  · have m' : a ∈ [lr, ll, lt, lo, lp] := m
    exact Evl.fresh_back (eb.trans e1) (nH a m')
  · have m' : b ∈ [lr, ll, lt, lo, lp] := m
    have := nH b m'
    rw [e1 _ _ hb] at this
    cases this
def sp_answers (K : PySem.W.Frag) : Sp := fun vs H Q _ => ∃ (rn : Addr) (zs : List Int), vs = [.ref rn] ∧ SqL K H rn (zs.map V.int) ∧ PyWrtiha.answers_asked zs = true ∧
  ∀ p H', H' p = some (.lst ((PyWrtiha.answers zs).map V.int)) → Q (.ref p) H'
theorem size_le : ∀ (f : Nat) (zs : List Int) (raw : List (List (List Int))), PyFlat.calls PyWrtiha.shape f zs = some raw → zs.length ≤ (raw.map fun c => 8 + (cR c).length).sum := by
  intro f zs raw h
  have go : ∀ (m : Nat) (a f : Nat) (raw : List (List (List Int))), zs.length - a ≤ m → PyFlat.calls PyWrtiha.shape f (zs.drop a) = some raw → zs.length - a ≤ (raw.map fun c => 8 + (cR c).length).sum := by
    intro m
    induction m with
    | zero => intro a f raw hm _; omega
    | succ m ih =>
      intro a f raw hm h
      rcases Nat.lt_or_ge a zs.length with ha | ha
      · obtain ⟨n, kk, c, cs', f', hsh, rfl, hn1, hcP, hcN, hcNl, hcl, hrest⟩ := call_step ha h
        obtain ⟨⟨rows, hrows, hrl⟩, _⟩ := shape_tab hsh
        have l5 : rows.length ≤ 5 := by
          have : ∀ x ∈ rangesL, x.2.length ≤ 5 := by decide
          exact this _ (lkI_mem hrows)
        rw [List.map_cons, List.sum_cons]
        rcases hrest with ⟨_, hcR, hf⟩ | ⟨_, hlt2, h0, hle, hcR, hcRl, hf⟩
        · have := ih _ _ _ (by omega) hf
          omega
        · have := ih _ _ _ (by omega) hf
          omega
      · omega
  have := go zs.length 0 f raw (by omega) (by rw [List.drop_zero]; exact h)
  omega
theorem sum_bound {l : List Nat} {b : Nat} (h : ∀ x ∈ l, x ≤ b) : l.sum ≤ l.length * b := by
  induction l with
  | nil => exact Nat.zero_le _
  | cons x l ih =>
    rw [List.sum_cons, List.length_cons, Nat.succ_mul]
    have := ih fun y m => h y (List.mem_cons_of_mem _ m)
    have := h x List.mem_cons_self
    omega
theorem dec_rows {p : Int} {ns : List Nat} {zz : List Int} {k : WrtihaSpec.Call} (d : Dec p ns zz k) : ∃ rows, lkI p rangesL = some rows ∧ ns.length = rows.length ∧ ∀ a, lkI p spansL = some a → a.toNat + 1 < ns.length := by
  cases d <;> exact ⟨_, rfl, rfl, (shape_tab (show PyWrtiha.shape _ = some (_, _) from rfl)).2.2.2⟩
theorem dec_ne1 {p : Int} {ns : List Nat} {zz : List Int} {k : WrtihaSpec.Call} (d : Dec p ns zz k) : p ≠ 1 := by
  cases d <;> decide
/-- a call that may be asked: what it is, and when it is in range -/
theorem call_facts {c : List (List Int)} (d : (∃ n : Nat, c = [[1, (n : Int)]]) ∨ DecOf c) : ∃ kc rows, WrtihaNeutral.call? c = some kc ∧ lkI (cP c) rangesL = some rows ∧ (cN c).length = rows.length ∧ (∀ a, lkI (cP c) spansL = some a → a.toNat + 1 < (cN c).length) ∧ (inR rows (cN c) && (rowR (cP c) (cR c) && spanR (cP c) (cN c))) = WrtihaSpec.right kc ∧
    ((∃ n : Nat, kc = .net n ∧ cP c = 1 ∧ cN c = [(n : Int)]) ∨ (∃ ns, Dec (cP c) ns (cR c) kc ∧ cN c = ns.map fun n : Nat => (n : Int))) := by
  rcases d with ⟨n, rfl⟩ | ⟨ns, zz, kc, d, h1, rfl, h3, _⟩
  · have sp0 : ∀ a, lkI (cP [[1, (n : Int)]]) spansL = some a → a.toNat + 1 < (cN [[1, (n : Int)]]).length := fun a e => by
      have z : lkI (cP [[1, (n : Int)]]) spansL = none := rfl
      rw [z] at e
      cases e
    exact ⟨.net n, [[2, 16]], net_call n, rfl, rfl, sp0, right_net n, .inl ⟨n, rfl, rfl, rfl⟩⟩
  · obtain ⟨rows, r1, r2, r3⟩ := dec_rows d
    refine ⟨kc, rows, h3, r1, by rw [h1, List.length_map]; exact r2, fun a e => by rw [h1, List.length_map]; exact r3 a e, ?_, .inr ⟨ns, d, h1⟩⟩
    rw [h1]
    exact right_eq d r1
structure Asked (zs : List Int) (raw : List (List (List Int))) : Prop where
  cut : PyFlat.calls PyWrtiha.shape zs.length zs = some raw
  n60 : raw.length ≤ 60
  one : ∀ c ∈ raw, WrtihaNeutral.asked1 c = true
  out : PyWrtiha.answers zs = outA raw
  short : (outA raw).length ≤ 10000000
theorem asked_of {zs : List Int} (h : PyWrtiha.answers_asked zs = true) : ∃ raw, Asked zs raw := by
  unfold PyWrtiha.answers_asked at h
  cases q : PyFlat.calls PyWrtiha.shape zs.length zs with
  | none => rw [q] at h; cases h
  | some raw =>
    rw [q] at h
    obtain ⟨h, hs⟩ := Bool.and_eq_true_iff.mp h
    obtain ⟨h, ha⟩ := Bool.and_eq_true_iff.mp h
    obtain ⟨h, _⟩ := Bool.and_eq_true_iff.mp h
    obtain ⟨_, h6⟩ := Bool.and_eq_true_iff.mp h
    have wid : raw.map PyWrtiha.whole = raw := by
      have : PyWrtiha.whole = id := funext whole_id
      rw [this, List.map_id]
    rw [wid] at ha
    have e : PyWrtiha.answers zs = outA raw := by
      unfold PyWrtiha.answers PyWrtiha.calls
      rw [q]
      dsimp only
      rw [wid]
    refine ⟨raw, q, of_decide_eq_true h6, fun c m => List.all_eq_true.mp (Bool.and_eq_true_iff.mp ha).1 c m, e, ?_⟩
    rw [← e]
    exact of_decide_eq_true hs
theorem sc_answers : FnScope (["calls", "office", "told", "call", "whole", "row", "answer"] : List Str) ["calls"] (defScope s_answers) := ⟨rfl, rfl, rfl, by decide +kernel, rfl, by decide +kernel, by decide +kernel⟩
theorem c_answersT (T : Txt K mg) (C_cut_calls : ∀ base : Heap, K.In base → base.Ns mainGlobals mg → Cal PP w K mg base 1 (He.ga K "cut_calls") ["numbers"] (sp_cut_calls K)) (C_is_in_range : ∀ base : Heap, K.In base → base.Ns mainGlobals mg → Cal PP w K mg base 2 (He.ga K "is_in_range") ["call", "numbers", "row"] (sp_is_in_range K)) (C_Office_init : ∀ base : Heap, K.In base → base.Ns mainGlobals mg → Cal PP w K mg base 1 (He.ma K (He.ga K "Office") "__init__") ["self", "places"] (sp_Office_init K)) (C_do_call : ∀ base : Heap, K.In base → base.Ns mainGlobals mg → Cal PP w K mg base 10 (He.ga K "do_call") ["office", "call", "whole", "row"] (sp_do_call K)) : ∃ fd : FuncData, (∀ (s : Shared) (us : List Value), us.length = (["calls"] : List Str).length → BindsTo s fd ⟨us, []⟩ ((["calls"] : List Str).zip us)) ∧ ∀ base : Heap, K.In base → base.Ns mainGlobals mg → FnOk PP w K mg base CX0 11 (He.ga K "answers") fd ["calls"] (sp_answers K) := by
  obtain ⟨fd, F⟩ := T.f_answers
  refine ⟨fd, ?_, fun base hb1 hb2 => ?_⟩
  · obtain ⟨oc, od, kV, doc, pm, an, cdv, ct, osl, rfl, lk, hcd⟩ := F.ex
    exact fun s us hl => BindsTo.of_eq (match us, hl with | [_], _ => rfl)
  replace C_cut_calls := C_cut_calls base hb1 hb2
  replace C_is_in_range := C_is_in_range base hb1 hb2
  replace C_Office_init := C_Office_init base hb1 hb2
  replace C_do_call := C_do_call base hb1 hb2
  refine F.ok sc_answers (fun vs H Q E h => ?_) (fun cdv A outer s H vs Q E hr h => ?_)
  · obtain ⟨rn, zs, rfl, hn, hask, k⟩ := h
    rfl
  · obtain ⟨rn, zs, rfl, hn, hask, k⟩ := h
    refine ⟨_, (pss_cons (ps_set (i := 1) sc_answers.nd rfl (Or.inl rfl) pe_non)
      (pss_cons (ps_set (i := 2) sc_answers.nd rfl (Or.inl rfl) (pe_lst pa_nil))
      (pss_cons (ps_for PassesOwn.never rfl (pi_list (pe_cal C_cut_calls.frame (hr.mono (by decide)) (by rfl) T.g_cut_calls (pa_cons (pv 0) pa_nil))) (pg_tup rfl (pgs_cons (pg_name (i := 3) sc_answers.nd rfl (Or.inl rfl)) (pgs_cons (pg_name (i := 4) sc_answers.nd rfl (Or.inl rfl)) (pgs_cons (pg_name (i := 5) sc_answers.nd rfl (Or.inl rfl)) pgs_nil))))
      (pss_cons (ps_if (pt_not (pt_val (pe_cal C_is_in_range (hr.mono (by decide)) (by rfl) T.g_is_in_range (pa_cons (pv 3) (pa_cons (pv 4) (pa_cons (pv 5) pa_nil)))))) (pss_one (ps_set (i := 6) sc_answers.nd rfl (Or.inl rfl) (pe_lst (pa_cons (pe_gint T.i_OUT_OF_RANGE (by rfl)) pa_nil)))) (pss_one (ps_if (pt_cmpR op_eq (pv 3) (pe_gint T.i_NET (by rfl)) (nomark _)) (pss_cons (ps_set (i := 1) sc_answers.nd rfl (Or.inl rfl) (pe_cmake T.k_Office C_Office_init (hr.mono (by decide)) (by rfl) T.g_Office (pa_cons (pe_ix ix_list (pv 4) pe_int (fun _ _ => rfl)) pa_nil)))
      (pss_one (ps_set (i := 6) sc_answers.nd rfl (Or.inl rfl) (pe_lst (pa_cons pe_int pa_nil))))) (pss_one (ps_if (pt_cmpR op_isN (pv 1) pe_non (nomark _)) (pss_one (ps_set (i := 6) sc_answers.nd rfl (Or.inl rfl) (pe_lst (pa_cons (pe_gint T.i_NOT_THERE (by rfl)) pa_nil)))) (pss_one (ps_set (i := 6) sc_answers.nd rfl (Or.inl rfl) (pe_cal C_do_call (hr.mono (by decide)) (by rfl) T.g_do_call (pa_cons (pv 1) (pa_cons (pv 3) (pa_cons (pv 4) (pa_cons (pv 5) pa_nil))))))))))))
      (pss_cons (ps_expr (pe_bm PySem.F.plainAttrs_list PySem.F.slot_list_append PySem.F.type_list_append mt_append (pv 2) (pa_cons (pe_callB cr_len (by rfl) T.n_len (by decide +kernel) (pa_cons (pv 6) pa_nil)) pa_nil)))
      (pss_one (ps_expr (pe_bm PySem.F.plainAttrs_list PySem.F.slot_list_extend PySem.F.type_list_extend mt_extend (pv 2) (pa_cons (pv 6) pa_nil)))))))
      (pss_one (ps_ret (pv 2)))))), ?_⟩
    obtain ⟨raw, ask⟩ := asked_of hask
    rw [ask.out] at k
    have dec : ∀ c ∈ raw, (∃ n : Nat, c = [[1, (n : Int)]]) ∨ DecOf c := fun c m => asked_dec (ask.one c m)
    have cR40 : ∀ c ∈ raw, (cR c).length ≤ 40 := fun c m => by
      rcases dec c m with ⟨n, rfl⟩ | ⟨ns, zz, kc, _, _, e, _, hl⟩
      · exact Nat.zero_le _
      · rw [e]; exact hl
    have zl : zs.length ≤ 100000 := by
      have a1 := size_le _ _ _ ask.cut
      have a2 := sum_bound (l := raw.map fun c => 8 + (cR c).length) (b := 48) fun x m => by
        obtain ⟨c, hc, rfl⟩ := List.mem_map.mp m
        have := cR40 c hc
        omega
      rw [List.length_map] at a2
      have := ask.n60
      omega
    refine Evl.q_asg Evl.ev_c fun H1 e1 => ?_
    refine Evl.q_asgL (Evl.el_lst Evl.ea_nil (Nat.zero_le _)) fun b H2 nb e2 h2 => ?_
    have ex12 := e1.trans e2
    have nbH : H b = none := Evl.fresh_back e1 nb
    have rnb : ∀ {H' : Hp}, Ex H H' → SqL K (del H' b) rn (zs.map V.int) := fun e => Evl.ex_l (del_of nbH e) hn
    have ea : EvA (tCons (tVar 0) tNil) [some (.ref rn), some .non, some (.ref b), none, none, none, none] H2 [.ref rn] := ea_one (Evl.ev_var rfl)
    refine q_forK (k_call ea fun H3 e3 => ⟨b, [], e3 _ _ h2, rn, zs, raw, rfl, rnb (ex12.trans e3), zl, by have := ask.n60; omega, ask.cut, fun p H4 xs np e4 hp hx nb4 => ?_⟩)
    have pb : p ≠ b := fun z => by rw [z, nb4] at hp; cases hp
    refine ⟨p, rfl, ⟨_, SqL.of (by rw [upd_ne pb]; exact hp)⟩, ?_⟩
    have hbb : noD H4 b = none := noD_none nb4
    have hpb : noD H4 p = some (.lst xs) := noD_get hp rfl
    have hxb : AllV (RawAt (noD H4)) xs raw := hx.mono fun v c r => r.noD
    have exb : Ex (noD H4) (upd H4 b (.lst [])) := (noD_ex H4).mut hbb
    have nodb : ∀ a o, noD H4 a = some o → isD o = false := fun a o h => noD_nod h
    generalize noD H4 = Hb at hbb hpb hxb exb nodb
    refine loop_it (walk_list (K := K) (a := p) (xs := xs)) (fun i σ H' => ∃ vo v3 v4 v5 v6, σ = [some (.ref rn), some vo, some (.ref b), v3, v4, v5, v6] ∧ Ex Hb H' ∧ H' b = some (.lst ((outA (raw.take i)).map V.int)) ∧ StAt K Hb b vo H' (stA WrtihaNeutral.start (raw.take i))) ?_ (fun i σ H' _ p => by
      obtain ⟨_, _, _, _, _, _, h1, _⟩ := p
      exact SqL.of (h1 _ _ hpb)) (fun i v σ H0 H' hi p yy => ?_) (fun σ H' p => ?_)
    · exact ⟨.non, none, none, none, none, rfl, exb, upd_same, rfl⟩
    · obtain ⟨vo, v3, v4, v5, v6, rfl, ex, hb, hst⟩ := p
      obtain ⟨rfl, hv⟩ := yy
      have hi' : i < raw.length := by rw [← hxb.1]; exact hi
      obtain ⟨v', hv', ra⟩ := hxb.2 i _ (List.getElem?_eq_getElem hi')
      have evv : v = v' := Option.some.inj (hv.symm.trans hv')
      subst evv
      have etk : raw.take (i + 1) = raw.take i ++ [raw[i]] := take_snoc (List.getElem?_eq_getElem hi')
      have split := split_at' (List.getElem?_eq_getElem hi')
      have cm : raw[i] ∈ raw := List.getElem_mem hi'
      generalize raw[i] = c at ra etk split cm
      obtain ⟨t, wn, rl, rfl, ht, hwn, hrl⟩ := ra
      have outl : (outA (raw.take (i + 1))).length ≤ 10000000 := by
        have z := out_le (raw.take (i + 1)) (raw.drop (i + 1))
        rw [List.take_append_drop] at z
        exact Nat.le_trans z ask.short
      rw [etk, out_snoc] at outl
      rw [etk, out_snoc, st_snoc]
      generalize stA WrtihaNeutral.start (raw.take i) = st at hst outl
      generalize outA (raw.take i) = out at hb outl
      rw [List.length_append, List.length_cons] at outl
      refine ⟨t, _, rfl, SqT.of (ex _ _ ht), rfl, _, _, rfl, _, _, rfl, _, _, rfl, rfl, ?_⟩
      have hwn' := ex _ _ hwn
      have hrl' := ex _ _ hrl
      have hcR := cR40 c cm
      -- the end of the turn
      have fin : ∀ (vo' : V) (q : Addr) (H5 : Hp) (st' : Option Office) (ans : List Int) (D : Ends), Ex Hb H5 → H5 b = some (.lst (out.map V.int)) → StAt K Hb b vo' H5 st' → H5 q = some (.lst (ans.map V.int)) → q ≠ b → WrtihaNeutral.step st c = (st', ans) → D.nx = (fun σ H' => ∃ vo v3 v4 v5 v6, σ = [some (.ref rn), some vo, some (.ref b), v3, v4, v5, v6] ∧ Ex Hb H' ∧ H' b = some (.lst ((out ++ (((WrtihaNeutral.step st c).2.length : Int) :: (WrtihaNeutral.step st c).2)).map V.int)) ∧ StAt K Hb b vo H' (WrtihaNeutral.step st c).1) →
          tSeq (tDrop (tBM K "list" rAppend (tVar 2) (tCons (tCB (rLen K) (tCons (tVar 6) tNil)) tNil))) (tDrop (tBM K "list" rExtend (tVar 2) (tCons (tVar 6) tNil))) D [some (.ref rn), some vo', some (.ref b), some (.int (cP c)), some (.ref wn), some (.ref rl), some (.ref q)] H5 := fun vo' q H5 st' ans D h1 h2 h3 h4 h5 hs hD => by
        rw [hs] at outl hD
        dsimp only at outl hD
        have ans_l : ans.length ≤ 10000000 := by omega
        refine q_appK h2 (Evl.ev_var rfl) fun H6 e6 => ?_
        refine k_ev (ev_lenL (Evl.ev_var rfl) (SqL.of (e6 _ _ h4))) fun H7 e7 => ?_
        have e67 := e6.trans e7
        refine ⟨b, _, _, rfl, rfl, e67 _ _ h2, by rw [List.length_map, sizeLine_eq]; omega, ?_⟩
        refine ⟨_, rfl, Or.inl ⟨rfl, _, SqL.of upd_same⟩, _, rfl, b, q, _, _, rfl, rfl, upd_same, by rw [upd_ne h5]; exact e67 _ _ h4, ?_, ?_⟩
        · rw [List.length_append, List.length_map, List.length_map, sizeLine_eq]
          show out.length + 1 + ans.length ≤ _
          omega
        · show D.nx _ _
          rw [hD, upd_upd]
          refine ⟨vo', _, _, _, _, rfl, (h1.trans e67).mut hbb, ?_, (h3.ex e67).other⟩
          rw [upd_same, List.length_map]
          simp
      -- is it in range
      obtain ⟨kc, rows, hcall, hrows, hlen, hspan, hright, hkind⟩ := call_facts (dec c cm)
      refine Evl.q_if (b := !WrtihaSpec.right kc) (Evl.et_not (Evl.et_B (ev_fn (vs := [.int (cP c), .ref wn, .ref rl]) (v := .bl (WrtihaSpec.right kc)) (Evl.ea_cons (Evl.ev_var rfl) (ea_two (Evl.ev_var rfl) (Evl.ev_var rfl))) fun H5 e5 Q5 q5 => ⟨wn, rl, cP c, cN c, cR c, rows, rfl, e5 _ _ hwn', e5 _ _ hrl', by omega, hrows, hlen, hspan, by rw [hright]; exact q5⟩))) (fun hr H5 e5 => ?_) (fun hr H5 e5 => ?_)
      · have hr' : WrtihaSpec.right kc = false := by simpa using hr
        refine Evl.s_asgL (Evl.el_lst (ea_one Evl.ev_c) (by show 1 ≤ 100000; decide)) fun q H6 nq e6 h6 => ?_
        have hb5 := e5 _ _ hb
        exact fin vo q H6 st [-1] _ (ex.trans (e5.trans e6)) (e6 _ _ hb5) (hst.ex (e5.trans e6)) h6 (fun z => by rw [z, hb5] at nq; cases nq) (step_bad hcall hr') rfl
      · have hr' : WrtihaSpec.right kc = true := by simpa using hr
        have hb5 := e5 _ _ hb
        have ex5 := ex.trans e5
        have hst5 := hst.ex e5
        refine Evl.s_if (b := decide (cP c = 1)) (Evl.et_test (ev_eqI (Evl.ev_var rfl) Evl.ev_c)) (fun h1 H6 e6 => ?_) (fun h1 H6 e6 => ?_)
        · rcases hkind with ⟨n, rfl, _, hN⟩ | ⟨ns, d, _⟩
          · have n16 : n ≤ 16 := of_decide_eq_true (Bool.and_eq_true_iff.mp hr').2
            have hb6 := e6 _ _ hb5
            have hwn6 : H6 wn = some (.lst [.int (n : Int)]) := by rw [(e5.trans e6) _ _ hwn', hN]; rfl
            refine q_asgK (new_office (n := n) (ea_one (Evl.ev_op (Evl.ev_var rfl) Evl.ev_c (Evl.rv_ixL (SqL.of hwn6) rfl))) hb6 (fun C dx fs z => by cases z) n16 (ex5.trans e6) fun x H7 e7 st7 => ?_)
            refine Evl.s_asgL (Evl.el_lst (ea_one Evl.ev_c) (by show 1 ≤ 100000; decide)) fun q H8 nq e8 h8 => ?_
            have hb7 := e7 _ _ hb6
            exact fin (.ref x) q H8 _ [0] _ (ex5.trans ((e6.trans e7).trans e8)) (e8 _ _ hb7) (st7.ex e8) h8 (fun z => by rw [z, hb7] at nq; cases nq) (step_net hcall hr') rfl
          · exact absurd (of_decide_eq_true h1) (dec_ne1 d)
        · rcases hkind with ⟨n, rfl, hP, _⟩ | ⟨ns, d, hN⟩
          · rw [hP] at h1; cases h1
          · have hb6 := e6 _ _ hb5
            have ex6 := ex5.trans e6
            have hst6 := hst5.ex e6
            cases hs : st with
            | none =>
              rw [hs] at hst6
              have hvo : vo = .non := hst6
              refine Evl.s_if (b := true) (Evl.et_test (Evl.ev_op (Evl.ev_var rfl) Evl.ev_c (Evl.rv_val fun H1 _ Q q => ⟨rfl, by rw [hvo]; exact q⟩))) (fun _ H7 e7 => ?_) (fun z => by cases z)
              refine Evl.s_asgL (Evl.el_lst (ea_one Evl.ev_c) (by show 1 ≤ 100000; decide)) fun q H8 nq e8 h8 => ?_
              have hb7 := e7 _ _ hb6
              rw [hs] at fin
              exact fin vo q H8 none [-3] _ (ex6.trans (e7.trans e8)) (e8 _ _ hb7) hst6 h8 (fun z => by rw [z, hb7] at nq; cases nq) (step_none d hcall hr') rfl
            | some s =>
              rw [hs] at hst6
              obtain ⟨A, G, hvo, O, hm, hbm, hgb⟩ := hst6
              refine Evl.s_if (b := false) (Evl.et_test (Evl.ev_op (Evl.ev_var rfl) Evl.ev_c (Evl.rv_val fun H1 _ Q q => ⟨rfl, by rw [hvo]; exact q⟩))) (fun z => by cases z) (fun _ H7 e7 => ?_)
              subst hvo
              have ed : EvA (tCons (tVar 1) (tCons (tVar 3) (tCons (tVar 4) (tCons (tVar 5) tNil)))) [some (.ref rn), some (.ref A.a), some (.ref b), some (.int (cP c)), some (.ref wn), some (.ref rl), v6] H7 [.ref A.a, .int (cP c), .ref wn, .ref rl] := Evl.ea_cons (Evl.ev_var rfl) (Evl.ea_cons (Evl.ev_var rfl) (ea_two (Evl.ev_var rfl) (Evl.ev_var rfl)))
              refine s_asgK (k_call ed fun H8 e8 => ?_)
              have e58 := ((e5.trans e6).trans e7).trans e8
              have hwn8 : H8 wn = some (.lst (nv ns)) := by rw [e58 _ _ hwn', hN, nv_ints]
              have hb8 := (e7.trans e8) _ _ hb6
              have ex8 := ex.trans e58
              refine ⟨G, A, s, cP c, wn, rl, ns, cR c, kc, rfl, O.query (exD_of (e7.trans e8)), hwn8, e58 _ _ hrl', d, hr', fun q H9 G9 A9 st9 O9 nq hq => ?_⟩
              rw [hs] at fin
              have exb9 : Ex Hb H9 := fun a o ha => (st9.f a o (ex8 a o ha) (nodb a o ha) (fun m => by rw [hm a m] at ha; cases ha)).1
              obtain ⟨hb9, hbm9⟩ := st9.f b _ hb8 rfl hbm
              have mu : ∀ a ∈ muts A9, Hb a = none := fun a m => by
                cases y : Hb a with
                | none => rfl
                | some o => exact absurd m (st9.f a o (ex8 a o y) (nodb a o y) (fun m' => by rw [hm a m'] at y; cases y)).2
              have stn : StAt K Hb b (.ref A.a) H9 (some (WrtihaSpec.does s kc).1) := ⟨A9, G9, by rw [st9.a], O9, mu, hbm9, st9.n b _ hb8 rfl hgb⟩
              exact fin (.ref A.a) q H9 _ _ _ exb9 hb9 stn hq (fun z => nq b _ hb8 rfl z) (step_does d hcall hr') rfl
    · obtain ⟨vo, v3, v4, v5, v6, rfl, ex, hb, hst⟩ := p
      rw [hxb.1, List.take_length] at hb
      exact Evl.s_ret (Evl.ev_var rfl) fun H5 e5 => k b H5 (e5 _ _ hb)
end
end Th
namespace Th
open PySem PySem.Spec PyProof.Rows L2
open TimHaul (Road Limit Truck Lot Trip Office before)
open Evl (Ex Ev EvL EvT EvA)
section
variable {PP : Program} {w : World} {K : PySem.W.Frag} {mg : Str → Option Value} {base : Heap}

theorem all_cal (T : Txt K mg) : Cal PP w K mg base 1 (He.ga K "cut_calls") ["numbers"] (sp_cut_calls K) ∧ Cal PP w K mg base 2 (He.ga K "is_in_range") ["call", "numbers", "row"] (sp_is_in_range K) ∧ Cal PP w K mg base 1 (He.ma K (He.ga K "Office") "__init__") ["self", "places"] (sp_Office_init K) ∧ Cal PP w K mg base 10 (He.ga K "do_call") ["office", "call", "whole", "row"] (sp_do_call K) := by
  have C_cut_calls : Cal PP w K mg base 1 (He.ga K "cut_calls") ["numbers"] (sp_cut_calls K) := c_cut_calls T 
  have C_is_span_in_range : Cal PP w K mg base 1 (He.ga K "is_span_in_range") ["call", "numbers"] (sp_is_span_in_range K) := c_is_span_in_range T 
  have C_is_row_in_range : Cal PP w K mg base 1 (He.ga K "is_row_in_range") ["call", "row"] (sp_is_row_in_range K) := c_is_row_in_range T 
  have C_are_numbers_in_range : Cal PP w K mg base 1 (He.ga K "are_numbers_in_range") ["call", "numbers"] (sp_are_numbers_in_range K) := c_are_numbers_in_range T 
  have C_is_in_range : Cal PP w K mg base 2 (He.ga K "is_in_range") ["call", "numbers", "row"] (sp_is_in_range K) := c_is_in_range T C_is_span_in_range C_is_row_in_range C_are_numbers_in_range
  have C_Office_init : Cal PP w K mg base 1 (He.ma K (He.ga K "Office") "__init__") ["self", "places"] (sp_Office_init K) := c_Office_init T 
  have C_Office_has_place : Cal PP w K mg base 1 (He.ma K (He.ga K "Office") "has_place") ["self", "place"] (sp_Office_has_place K) := c_Office_has_place T 
  have C_Road_init : Cal PP w K mg base 1 (He.ma K (He.ga K "Road") "__init__") ["self", "a", "b", "metres", "kilograms"] (sp_Road_init K) := c_Road_init T 
  have C_add_road : Cal PP w K mg base 3 (He.ga K "add_road") ["office", "numbers"] (sp_add_road K) := c_add_road T C_Office_has_place C_Road_init
  have C_Office_has_road : Cal PP w K mg base 1 (He.ma K (He.ga K "Office") "has_road") ["self", "road"] (sp_Office_has_road K) := c_Office_has_road T 
  have C_Limit_init : Cal PP w K mg base 1 (He.ma K (He.ga K "Limit") "__init__") ["self", "road", "first", "last", "kilograms"] (sp_Limit_init K) := c_Limit_init T 
  have C_add_limit : Cal PP w K mg base 3 (He.ga K "add_limit") ["office", "numbers"] (sp_add_limit K) := c_add_limit T C_Office_has_road C_Limit_init
  have C_Truck_init : Cal PP w K mg base 1 (He.ma K (He.ga K "Truck") "__init__") ["self", "place", "empty", "loadable"] (sp_Truck_init K) := c_Truck_init T 
  have C_add_truck : Cal PP w K mg base 3 (He.ga K "add_truck") ["office", "numbers"] (sp_add_truck K) := c_add_truck T C_Office_has_place C_Truck_init
  have C_Lot_init : Cal PP w K mg base 1 (He.ma K (He.ga K "Lot") "__init__") ["self", "place", "mill", "kilograms", "first", "last"] (sp_Lot_init K) := c_Lot_init T 
  have C_add_lot : Cal PP w K mg base 3 (He.ga K "add_lot") ["office", "numbers"] (sp_add_lot K) := c_add_lot T C_Office_has_place C_Lot_init
  have C_Office_standing_trips : Cal PP w K mg base 1 (He.ma K (He.ga K "Office") "standing_trips") ["self"] (sp_Office_standing_trips K) := c_Office_standing_trips T 
  have C_tell_state : Cal PP w K mg base 2 (He.ga K "tell_state") ["office", "numbers"] (sp_tell_state K) := c_tell_state T C_Office_standing_trips
  have C_Office_bearing : Cal PP w K mg base 1 (He.ma K (He.ga K "Office") "bearing") ["self", "road", "day"] (sp_Office_bearing K) := c_Office_bearing T 
  have C_Ways_bearings : Cal PP w K mg base 2 (He.ma K (He.ga K "Ways") "bearings") ["self", "day"] (sp_Ways_bearings K) := c_Ways_bearings T C_Office_bearing
  have C_Ways_roads_for : Cal PP w K mg base 3 (He.ma K (He.ga K "Ways") "roads_for") ["self", "day", "kilograms"] (sp_Ways_roads_for K) := c_Ways_roads_for T C_Ways_bearings
  have C_offer : Cal PP w K mg base 1 (He.ga K "offer") ["drives", "here", "there", "road", "metres"] (sp_offer K) := c_offer T 
  have C_spread : Cal PP w K mg base 2 (He.ga K "spread") ["office", "drives", "roads"] (sp_spread K) := c_spread T C_offer
  have C_shortest_from : Cal PP w K mg base 3 (He.ga K "shortest_from") ["office", "start", "roads"] (sp_shortest_from K) := c_shortest_from T C_spread
  have C_Ways_drive : Cal PP w K mg base 4 (He.ma K (He.ga K "Ways") "drive") ["self", "a", "b", "day", "kilograms"] (sp_Ways_drive K) := c_Ways_drive T C_Ways_roads_for C_shortest_from
  have C_Ways_init : Cal PP w K mg base 1 (He.ma K (He.ga K "Ways") "__init__") ["self", "office"] (sp_Ways_init K) := c_Ways_init T 
  have C_tell_drive : Cal PP w K mg base 5 (He.ga K "tell_drive") ["office", "numbers"] (sp_tell_drive K) := c_tell_drive T C_Office_has_place C_Ways_drive C_Ways_init
  have C_most_kilograms : Cal PP w K mg base 5 (He.ga K "most_kilograms") ["office", "a", "b", "day"] (sp_most_kilograms K) := c_most_kilograms T C_Ways_init C_Ways_bearings C_Ways_drive
  have C_tell_most : Cal PP w K mg base 6 (He.ga K "tell_most") ["office", "numbers"] (sp_tell_most K) := c_tell_most T C_Office_has_place C_most_kilograms
  have C_is_needed : Cal PP w K mg base 4 (He.ga K "is_needed") ["office", "a", "b", "roads", "road"] (sp_is_needed K) := c_is_needed T C_shortest_from
  have C_tell_must : Cal PP w K mg base 5 (He.ga K "tell_must") ["office", "numbers"] (sp_tell_must K) := c_tell_must T C_Office_has_place C_Ways_init C_Ways_drive C_Ways_roads_for C_is_needed
  have C_Office_has_trip : Cal PP w K mg base 1 (He.ma K (He.ga K "Office") "has_trip") ["self", "trip"] (sp_Office_has_trip K) := c_Office_has_trip T 
  have C_call_off : Cal PP w K mg base 2 (He.ga K "call_off") ["office", "numbers"] (sp_call_off K) := c_call_off T C_Office_has_trip
  have C_Office_weight : Cal PP w K mg base 1 (He.ma K (He.ga K "Office") "weight") ["self", "lots"] (sp_Office_weight K) := c_Office_weight T 
  have C_paper : Cal PP w K mg base 2 (He.ga K "paper") ["office", "numbers"] (sp_paper K) := c_paper T C_Office_has_trip C_Office_weight
  have C_scale : Cal PP w K mg base 2 (He.ga K "scale") ["office", "numbers"] (sp_scale K) := c_scale T C_Office_has_trip C_Office_weight
  have C_known_weight : Cal PP w K mg base 2 (He.ga K "known_weight") ["office", "trip"] (sp_known_weight K) := c_known_weight T C_Office_weight
  have C_least_bearing : Cal PP w K mg base 2 (He.ga K "least_bearing") ["office", "trip"] (sp_least_bearing K) := c_least_bearing T C_Office_bearing
  have C_excess : Cal PP w K mg base 3 (He.ga K "excess") ["office", "trip"] (sp_excess K) := c_excess T C_known_weight C_least_bearing
  have C_tell_over : Cal PP w K mg base 4 (He.ga K "tell_over") ["office", "numbers"] (sp_tell_over K) := c_tell_over T C_Office_standing_trips C_excess
  have C_Office_lots_left : Cal PP w K mg base 2 (He.ma K (He.ga K "Office") "lots_left") ["self"] (sp_Office_lots_left K) := c_Office_lots_left T C_Office_standing_trips
  have C_tell_left : Cal PP w K mg base 3 (He.ga K "tell_left") ["office", "numbers"] (sp_tell_left K) := c_tell_left T C_Office_lots_left
  have C_Office_is_free : Cal PP w K mg base 2 (He.ma K (He.ga K "Office") "is_free") ["self", "truck", "day"] (sp_Office_is_free K) := c_Office_is_free T C_Office_standing_trips
  have C_free_slots : Cal PP w K mg base 3 (He.ga K "free_slots") ["office", "first", "last"] (sp_free_slots K) := c_free_slots T C_Office_is_free
  have C_costs : Cal PP w K mg base 1 (He.ga K "costs") ["what", "metres"] (sp_costs K) := c_costs T 
  have C_with_slot : Cal PP w K mg base 2 (He.ga K "with_slot") ["plans", "what", "day", "truck", "loads"] (sp_with_slot K) := c_with_slot T C_costs
  have C_chosen : Cal PP w K mg base 1 (He.ga K "chosen") ["things", "choice"] (sp_chosen K) := c_chosen T 
  have C_against_lots : Cal PP w K mg base 2 (He.ga K "against_lots") ["office", "truck", "day", "lots"] (sp_against_lots K) := c_against_lots T C_Office_weight
  have C_legs_of : Cal PP w K mg base 5 (He.ga K "legs_of") ["ways", "truck", "day", "lots"] (sp_legs_of K) := c_legs_of T C_Office_weight C_Ways_drive
  have C_look_at_load : Cal PP w K mg base 6 (He.ga K "look_at_load") ["ways", "truck", "day", "lots"] (sp_look_at_load K) := c_look_at_load T C_against_lots C_legs_of
  have C_loads_of : Cal PP w K mg base 7 (He.ga K "loads_of") ["ways", "day", "truck", "left"] (sp_loads_of K) := c_loads_of T C_chosen C_look_at_load
  have C_best_plan : Cal PP w K mg base 8 (He.ga K "best_plan") ["office", "what", "first", "last", "left"] (sp_best_plan K) := c_best_plan T C_Ways_init C_free_slots C_with_slot C_loads_of
  have C_tell_plan : Cal PP w K mg base 9 (He.ga K "tell_plan") ["office", "numbers"] (sp_tell_plan K) := c_tell_plan T C_Office_lots_left C_best_plan
  have C_is_stuck : Cal PP w K mg base 7 (He.ga K "is_stuck") ["ways", "lot", "slots"] (sp_is_stuck K) := c_is_stuck T C_look_at_load
  have C_tell_stuck : Cal PP w K mg base 8 (He.ga K "tell_stuck") ["office", "numbers"] (sp_tell_stuck K) := c_tell_stuck T C_Ways_init C_free_slots C_is_stuck C_Office_lots_left
  have C_Office_without : Cal PP w K mg base 3 (He.ma K (He.ga K "Office") "without") ["self", "road"] (sp_Office_without K) := c_Office_without T C_Office_init C_Road_init
  have C_tell_without : Cal PP w K mg base 9 (He.ga K "tell_without") ["office", "numbers"] (sp_tell_without K) := c_tell_without T C_Office_has_road C_Office_lots_left C_best_plan C_Office_without
  have C_Office_has_lots : Cal PP w K mg base 1 (He.ma K (He.ga K "Office") "has_lots") ["self", "lots"] (sp_Office_has_lots K) := c_Office_has_lots T 
  have C_Office_has_truck : Cal PP w K mg base 1 (He.ma K (He.ga K "Office") "has_truck") ["self", "truck"] (sp_Office_has_truck K) := c_Office_has_truck T 
  have C_are_left : Cal PP w K mg base 3 (He.ga K "are_left") ["office", "lots"] (sp_are_left K) := c_are_left T C_Office_lots_left
  have C_load : Cal PP w K mg base 7 (He.ga K "load") ["office", "numbers", "lots"] (sp_load K) := c_load T C_Office_has_lots C_Office_has_truck C_are_left C_look_at_load C_Ways_init
  have C_Trip_init : Cal PP w K mg base 1 (He.ma K (He.ga K "Trip") "__init__") ["self", "truck", "day", "lots", "metres", "roads"] (sp_Trip_init K) := c_Trip_init T 
  have C_book : Cal PP w K mg base 7 (He.ga K "book") ["office", "numbers", "lots"] (sp_book K) := c_book T C_Office_has_lots C_Office_has_truck C_Office_is_free C_are_left C_look_at_load C_Ways_init C_Trip_init
  have C_most_gain : Cal PP w K mg base 2 (He.ga K "most_gain") ["loads", "prices"] (sp_most_gain K) := c_most_gain T C_chosen
  have C_tell_bound : Cal PP w K mg base 8 (He.ga K "tell_bound") ["office", "numbers", "prices"] (sp_tell_bound K) := c_tell_bound T C_Office_lots_left C_Ways_init C_free_slots C_most_gain C_loads_of
  have C_do_call : Cal PP w K mg base 10 (He.ga K "do_call") ["office", "call", "whole", "row"] (sp_do_call K) := c_do_call T C_add_road C_add_limit C_add_truck C_add_lot C_tell_state C_tell_drive C_tell_most C_tell_must C_call_off C_paper C_scale C_tell_over C_tell_left C_tell_plan C_tell_stuck C_tell_without C_load C_book C_tell_bound
  exact ⟨C_cut_calls, C_is_in_range, C_Office_init, C_do_call⟩
end
end Th
namespace Th
open PySem PySem.Spec PyProof.Rows L2
open PySem.W (Codec)
abbrev rw' : PySem.W.OpenSpec := PySem.Challenge.rw_thawhaul_s01_answers
theorem facts {P : Program} {w : World} {K : PySem.W.Frag} {mg : Str → Option Value} {h : Heap} {fa : Addr} (c : obsK K = valK) (X : K.In h) (G : h.Ns mainGlobals mg) (hm : mg "answers" = some (.ref fa)) :
    ∃ fd : FuncData, (∀ (s : Shared) (us : List Value), us.length = (["calls"] : List Str).length → BindsTo s fd ⟨us, []⟩ ((["calls"] : List Str).zip us)) ∧ ∀ base : Heap, K.In base → base.Ns mainGlobals mg → FnOk P w K mg base CX0 11 fa fd ["calls"] (sp_answers K) := by
  have T : Txt K mg := ⟨c, h, X, G⟩
  have e := hm.symm.trans T.g_answers
  cases e
  refine c_answersT T (fun base h1 h2 => ?_) (fun base h1 h2 => ?_) (fun base h1 h2 => ?_) (fun base h1 h2 => ?_)
  · exact (all_cal T).1
  · exact (all_cal T).2.1
  · exact (all_cal T).2.2.1
  · exact (all_cal T).2.2.2
theorem hsp (K : PySem.W.Frag) (H : Hp) (xs : List V) (a : Codec.denoteAll rw'.args) (hO : OnlyF H) (hw : Codec.withinAll rw'.args a = true) (ha : Codec.app rw'.args rw'.asked a = true) (hd : DwAll K H xs (Codec.encAll rw'.args a)) :
    sp_answers K xs H (fun v H' => Dw K H' v (rw'.ret.enc (Codec.app rw'.args rw'.f a))) fun _ _ _ => False := by
  obtain ⟨ns, u⟩ := a
  cases hd with
  | cons h1 h2 =>
    cases h2
    cases h1 with
    | lst sq hs =>
      have e := ints_dw ns _ hs
      subst e
      exact ⟨_, ns, rfl, sq, ha, fun p H' hp => Dw.lst (SqL.of hp) (dw_ints _)⟩
end Th
open PySem PySem.W PySem.Calls PyProof.Rows
theorem PySem.Challenge.cw_thawhaul_s01_answers_holds : PySem.Challenge.rw_thawhaul_s01_answers.Holds := by
  refine HeadRun.head_spec (r := PySem.Challenge.rw_thawhaul_s01_answers) (q := Th.qv) (H := Th.hk) (ob := Th.ob) (M := 6000) (loose := Th.names) (d := HeadRun.topDef PySem.Challenge.rw_thawhaul_s01_answers.prog 88) (kwd := []) Th.ob_eq
    (by kernel_rfl) (fun s => by kernel_rfl) Th.run (by kernel_rfl) (by kernel_rfl) (by kernel_rfl) ?hsh (by decide +kernel) (by decide +kernel) ⟨rfl, rfl, rfl, rfl, rfl, by decide +kernel⟩ ?hw ?hc
  case hsh => exact fun as h => PySem.W.os_shapes as h
  case hw => exact ⟨[.list [.int 6]], by decide +kernel, by decide +kernel⟩
  case hc =>
    refine Th.walk_end (ps := ["calls"]) (sp := Th.sp_answers) (k := 11) (F := fun K => Th.obsK K = Th.valK) (by decide +kernel) rfl ⟨rfl, by decide, by decide⟩ (fun w mg fa h K c X G hm => ?_) Th.hsp
    have hmg : mg ("answers" : PySem.Str) = some (.ref fa) := by
      have e : (HeadRun.topDef PySem.Challenge.rw_thawhaul_s01_answers.prog 88).name = ("answers" : PySem.Str) := by kernel_rfl
      rw [← e]
      exact hm
    exact Th.facts c X G hmg
